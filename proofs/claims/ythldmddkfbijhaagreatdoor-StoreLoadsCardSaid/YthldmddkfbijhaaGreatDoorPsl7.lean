/- Lemmas of the walk. Conditions: each its own. -/
import Derived.Test.YthldmddkfbijhaaGreatDoorPsl3
import Derived.Test.YthldmddkfbijhaaGreatDoorPsl5
import Derived.Test.YthldmddkfbijhaaGreatDoorProg
import Derived.Test.YthldmddkfbijhaaGreatDoorShl
set_option linter.all false
set_option maxRecDepth 100000
set_option maxHeartbeats 4000000
open Go.Proofs.Tryz
namespace Go.Proofs.YthldmddkfbijhaaGreatDoor
section
open Go.RowKit
@[irreducible] def tcells (L:List Nat):Array Value:=Array.ofFn (n:=258) fun i=>.int .i64 (((if i.val < 257 then L.count i.val else L.length):Nat):Int)
def dU (b:List Nat) {a:Nat} (c:a < 257):(tcells b)[a]?=some (.int .i64 ((b.count a:Nat):Int)):=by
 unfold tcells;rw [Array.getElem?_ofFn,dif_pos oM,zBx c]
def iB (a:List Nat):(tcells a)[257]?=some (.int .i64 ((a.length:Nat):Int)):=by
 unfold tcells;rw [Array.getElem?_ofFn,dif_pos oM];rfl
def eO (a:List Nat):(tcells a).size=258:=by unfold tcells;simp
def pB (c:Array Value) (b:List Nat) (i:c.size=258) (f:∀d,d < 257->c[d]?=some (.int .i64 ((b.count d:Nat):Int))) (g:c[257]?=some (.int .i64 ((b.length:Nat):Int))):c=tcells b:=by
 apply Array.ext_getElem?;intro e;rcases zBe e 257 with a | a
 · rw [f e a,dU b a]
 · rcases Nat.eq_or_lt_of_le a with a | a
   · rw [<-a,g,iB]
   · rw [Array.getElem?_eq_none oM,Array.getElem?_eq_none (by rw [eO];omega)]
def aDP (b:List Nat) (a:Nat) (f:a < 257):((tcells b).setIfInBounds a (.int .i64 (((b.count a+1:Nat)):Int))).setIfInBounds 257 (.int .i64 ((b.length+1:Nat):Int))=tcells (b++ [a]):=by
 apply pB
 · simp [eO]
 · intro d e;rw [zCe oM];by_cases c:a=d
   · subst c;rw [Array.getElem?_setIfInBounds_self_of_lt (by rw [eO];omega)];simp
   rw [zCe c,dU b e];have: [a].count d=0:=(by simp [c]);rw [zCc,this];rfl
 · rw [Array.getElem?_setIfInBounds_self_of_lt (by simp [eO])];simp
def tX (d:Nat) (b:List Nat) (a:Nat) (w:World) (f:Bk w d 199 (tcells b)) (i:a < 257):
 Calls prog 106 #[d,(a:Int)] w fun e j=>e=.returned (.int .i64 ((b.count a:Nat):Int))/\Below w.heap.size w j:=by
 have c:=lhd f;clear f;go_enter func106,ntmps106;go_wp2_with fail;refine (fE a _ i).mono ?_;rintro e w1 ⟨rfl,g⟩;have k:w1.cell? ⟨d,a,none⟩=some (.int .i64 ((b.count a:Nat):Int)):=((c.out.below g c.out.lt).cell a).trans (dU b i);have l:¬((a:Int) < 0):=oM;have m:((a:Int) < 257):=oM;clear c;go_wp2_with fail;go_ret;exact ⟨rfl,g⟩
def tT (c:List Nat) (b:Nat):c.countP (fun a=>decide (a < b+1))=c.countP (fun a=>decide (a < b))+c.count b:=by
 induction c with
 | nil=>rfl
 | cons a i g=>
   rw [zBn,zBn,List.count_cons,g];by_cases f:a < b;have d:a < b+1:=oM;have e:a≠b:=oM;simp [f,d,e];omega
   · by_cases d:a=b;subst d;simp;omega
     · have e:¬a < b+1:=oM;simp [f,d,e]
def jT (g:Nat) (c:List Nat) (b:Nat) (w:World) (n:Bk w g 199 (tcells c)) (D:b < 257) (u:c.length<=1000):
 Calls prog 107 #[g,(b:Int)] w fun m y=>m=.returned (.int .i64 ((c.countP (fun d=>decide (d < b)):Nat):Int))/\Below w.heap.size w y:=by
 have l:=lhd n;clear n;have E:max (b:Int) 0=(b:Int):=oM;have F:min (b:Int) 257=(b:Int):=oM;go_enter func107,ntmps107;go_wp2_with fail;go_loopw [5,10] (fun x k wr=>∃a:Nat,a<=b/\k=.int .i64 a/\x=.int .i64 ((c.countP (fun d=>decide (d < a)):Nat):Int)/\Below w.heap.size w wr) (fun _ k _=>b -(intOf k).toNat)
 case atStart=>exact ⟨0,by omega,rfl,by simp,Below.refl _ _⟩
 case round=>
  obtain ⟨a,z,rfl,rfl,e⟩:=hrel;have v:=e.size;by_cases A:a < b
  · go_wp2_with fail;refine (tX g c a wr (l.out.below e l.out.lt) oM).mono ?_;rintro m w1 ⟨rfl,r⟩;have s:=e.trans (r.mono v);have f:=tT c a;have o:c.countP (fun d=>decide (d < a+1))<=1000:=zAk zBh u;obtain ⟨p,i⟩:∃p,c.countP (fun d=>decide (d < a))=p:=⟨_,rfl⟩;obtain ⟨G,j⟩:=eqx (c.count a);rw [f] at o;rw [i,j] at f o;rw [j]
    try rw [i]
    have q:=lhd f;clear f i j;go_wp2_with fail;go_roundw
    case rel=>exact ⟨a+1,by omega,by go_num,by rw [q.out];exact dI oM,s⟩
    case measure=>simp [intOf];omega
  · have t:a=b:=oM;subst t;go_wp2_with fail;go_ret;exact ⟨rfl,e⟩
def rO (a:Nat) (c:List Nat) (b:Nat) (w:World) (f:Bk w a 199 (tcells c)) (l:b < 257) (H:c.length<=1000):
 Calls prog 117 #[a,(b:Int),.int .i64 1] w fun E I=>E=.returned (.int .i64 0)/\Bk I a 199 (tcells (c++ [b]))/\Keep (fun g=>g=a) w I:=by
 have s:=lhd f;clear f;have a6:¬((b:Int) < 0):=oM;have a7:((b:Int) < 257):=oM;obtain ⟨e,r⟩:=eqx (c.count b);obtain ⟨y,q⟩:=eqx c.length;have a9:e<=1000:=by rw [<-r];exact zAk zBv H
 rw [q] at H;have v:=aDP c b l;rw [r,q] at v;obtain ⟨J,t,D⟩:=hqq3 v r q;clear v r q;go_enter func117,ntmps117;go_wp2_with fail;refine (fE b _ l).mono ?_;rintro E w1 ⟨rfl,x⟩;have o:=s.out.below x s.out.lt;have T:w1.cell? ⟨a,b,none⟩=some (.int .i64 (e:Int)):=by rw [<-t.out];exact (o.cell b).trans (dU c l)
 have U:w1.cell? ⟨a,257,none⟩=some (.int .i64 (y:Int)):=by rw [<-D.out];exact (o.cell 257).trans (iB c)
 have aa:¬((1:Int) < -(e:Int)):=oM;have ab:¬((1:Int) > 2147483648 -(y:Int)):=oM;obtain ⟨K,M⟩:=hqq2 x o;clear x o s;go_wp2_with fail;refine wp_region_any kR ?_;refine bH [33,34,35,36,37,38,39,40,41,42,43] (fun g=>g=a) 11 [5,11] (fun i=>Bk i a 199 (tcells c)) (fun _ i=>Bk i a 199 ((tcells c).setIfInBounds b (.int .i64 ((e+1:Nat):Int)))) [is a,is (b:Int),is a,is a,is (.pointer (some ⟨a,b,none⟩)),is (e:Int),is (.int .i64 1),is (.int .i64 ((e+1:Nat):Int)),is a,is a,is (.pointer (some ⟨a,b,none⟩)),dA] _ _ rfl kR kR (M.out) (fun i ad f _ O=>Bk.below f O f.lt) (fun _ _ _ f Q=>Bk.below f Q f.lt) tA0 ?_ ?_
 · refine aO ?_;refine pH3 0 (.pointer (some a)) ?_;refine pH3 1 (.int .i64 (b:Int)) ?_;refine pV3 0 33 ?_;refine pV3 2 35 ?_;refine pW3 3 36 1 34 ?_;refine sC3 (fun _ z _ u _ _ _ d _ _ _ j=>?_) ?_
   · have k:=u rfl;have Y:_=_:=d 4 37 kR rfl;have W:z.cell? ⟨a,b,none⟩=some (.int .i64 (e:Int)):=(by rw [<-t.out];exact (k.cell b).trans (dU c l));go_simp;exact kq j rfl
   refine pH3 2 (.int .i64 1) ?_;refine sC3 (fun _ _ _ _ _ _ _ d _ _ _ j=>?_) ?_
   · have Z:_=_:=d 5 38 kR rfl;have a0:_=_:=d 6 39 kR rfl;go_simp;exact j _ _ (aJ bR) (dI (by rw [IntKind.wrap_i64];omega))
   refine pV3 0 33 ?_;refine pV3 8 41 ?_;refine pW3 9 42 1 34 ?_;refine sC3 (fun _ z _ u _ _ _ d _ _ _ j=>?_) ?_
   · have k:=u rfl;have a2:_=_:=d 10 43 kR rfl;have a1:_=_:=d 7 40 kR rfl;have X:z.cell? ⟨a,b,none⟩=some (.int .i64 (e:Int)):=(by rw [<-t.out];exact (k.cell b).trans (dU c l));have a5:=k.frozen b;go_simp;exact j (.bool true) _ (aU (Keep.setCell (F:=fun g=>g=a) (Keep.refl _ _) (p:=⟨a,b,none⟩) (.inl rfl) _)) (k.set b _)
   exact aD
 · intro a3 A n d G;replace n:Keep (fun g=>g=a) w1 A:=kD n;obtain ⟨ac,m⟩:∃S,(fun _ i=>Bk i a 199 ((tcells c).setIfInBounds b (.int .i64 ((e+1:Nat):Int)))) S A:=G 11 dC;simp only [zqq];clear d G;have V:A.cell? ⟨a,257,none⟩=some (.int .i64 (y:Int)):=(by refine (m.cell 257).trans ?_;rw [zCe oM,<-D.out];exact iB c);have a4:=m.frozen 257;obtain ⟨N,L⟩:=hqq2 m n;have a8:=m.lt;clear m n;go_wp2_with fail;go_ret;refine ⟨rfl,?_,?_⟩;rw [<-J.out];exact N.out.set 257 _;exact ((Keep.of_below K.out).trans L.out).setCell (.inl rfl) _
def aDO:tcells []=Tryz.zeroCells199:=by kernel_rfl
def rN (p:Option Addr) (d H B:Nat) (b:List Nat) (w:World) (m:Rd w B 1 p d (b.map sv)) (I:B<=w.heap.size) (W:d<=1000) (r:∀e∈b,e < 257):
 Calls prog 105 #[.slice p d H] w fun k y=>∃c,k=.returned (.tuple #[.pointer (some ⟨c,0,none⟩),.int .i64 0])/\w.heap.size<=c/\Bk y c 199 (tcells b)/\Below w.heap.size w y:=by
 have u:b.length=d:=by simpa using m.1
 obtain ⟨F,A,q,z⟩:=hqq4 m r u I;clear m r u;go_enter func105,ntmps105;go_wp2_with fail;obtain ⟨c,s⟩:=eqx w.heap.size;have L:Bk (w.alloc (.cells Tryz.zeroCells199 199)) c 199 (tcells (b.take 0)):=by rw [List.take_zero,aDO,<-s];exact Bk.new _ _ _
 have J:=(Below.refl w.heap.size w).alloc nL (.cells Tryz.zeroCells199 199)
 try rw [s]
 go_loopw [12] (fun o wr=>∃a:Nat,a<=d/\o=.int .i64 a/\Bk wr c 199 (tcells (b.take a))/\Below w.heap.size w wr) (fun o _=>d -(intOf o).toNat)
 case atStart=>exact ⟨0,by omega,rfl,L,J⟩
 case round=>
  obtain ⟨a,V,rfl,g,f⟩:=hrel;have S:=f.size;by_cases v:a < d
  · have N:a < b.length:=(by rw [q.out];exact v);obtain ⟨e,i⟩:∃e,b[a]?=some e:=⟨b[a],zAa N⟩;obtain ⟨G,X,Y,rfl,U,n,M⟩:=((F.out.mono z.out).below f).get v;rw [zAf,i] at n;simp at n;subst n;have Q:e < 257:=A.out e (zAd i);have x:b.take (a+1)=b.take a++ [e]:=(by rw [zAv,i];rfl);have T:(b.take a).length<=1000:=(by rw [zAj];omega);unfold sv at M;obtain ⟨D,j⟩:=hqq2 x g;clear x g i;go_wp2_with fail;refine (rO c (b.take a) e _ j.out Q T).mono ?_;rintro k w1 ⟨rfl,l,t⟩;have K:Below w.heap.size w w1:=f.trans (t.to_below S (fun G f k=>by omega));rw [<-D.out] at l;have E:=lhd l;clear l t;go_wp2_with fail;go_roundw
    case rel=>exact ⟨a+1,by omega,by go_num,E.out,K⟩
    case measure=>simp [intOf];omega
  · have O:a=d:=oM;subst O;rw [zAg (by rw [q.out];omega)] at g;have j:=lhd g;clear g;go_wp2_with fail;go_ret2;exact ⟨c,rfl,by omega,j.out,f⟩
def aK (b:List Nat) (a c:Nat):List Bool:=(b.filter fun d=>bE d a==c).map (gG · a)
def nU (b a:Nat) (f:a < 9):bE b (a+1)=2*bE b a+(if gG b a then 1 else 0):=by
 unfold bE gG;have d:9 -(a+1)=8 - a:=oM;have e:9 - a=(8 - a)+1:=oM;rw [d,e,Nat.pow_succ,<-Nat.div_div_eq_div_mul];generalize b / 2 ^(8 - a)=q;by_cases c:q % 2=1;simp [c];omega;simp [c];omega
def nT (a:Nat) (b:a < 257):bE a 0=0:=by
 unfold bE;exact Nat.div_eq_of_lt oM
def nV (a:Nat):bE a 9=a:=by
 unfold bE;simp
def lM (b a:Nat) (c:b < 257) (d:a<=9):bE b a < 2 ^ a:=by
 unfold bE;rw [Nat.div_lt_iff_lt_mul (Nat.pos_of_ne_zero (by simp)),<-Nat.pow_add,show a+(9 - a)=9 by omega];omega
def aEM (e:List Nat) (a b:Nat) (j:a < 9):(aK e a (bE b a)).count (gG b a)=e.countP (fun l=>bE l (a+1)==bE b (a+1)):=by
 induction e with
 | nil=>rfl
 | cons c o k=>
   have f:=nU c a j;have g:=nU b a j;unfold aK at k⊢;rw [zBn,<-k,List.filter_cons];by_cases d:bE c a=bE b a
   · rw [zBx (by simp [d]),List.map_cons,List.count_cons];by_cases i:gG c a=gG b a
     · have:bE c (a+1)=bE b (a+1):=(by rw [f,g,d,i]);simp [i,this]
     · have:bE c (a+1)≠bE b (a+1):=(by rw [f,g,d];cases m:gG c a <;> cases n:gG b a <;> simp_all);simp [i,this]
   · rw [zBw (by simp [d])];have:bE c (a+1)≠bE b (a+1):=(by rw [f,g];cases gG c a <;> cases gG b a <;> simp <;> omega);simp [this]
def aGD (d:List Nat) (b c a:Nat):(aK d b c).take ((d.take a).countP fun j=>bE j b==c)=aK (d.take a) b c:=by
 induction d generalizing a with
 | nil=>simp [aK]
 | cons f k i=>
   rcases a with _ | a
   · simp [aK]
   · have:=i a;unfold aK at this⊢;rw [List.take_succ_cons,zBn,List.filter_cons,List.filter_cons];by_cases e:bE f b=c
     · simp only [e,beq_self_eq_true,if_true,List.map_cons,List.take_succ_cons,this]
     · have g:(bE f b==c)=false:=(by simp [e]);simp only [g,Bool.false_eq_true,if_false,zBq,this]
def iU (a:List Nat) (b c:Nat):(aK a b c).length=a.countP fun d=>bE d b==c:=by
 unfold aK;rw [zBc,List.countP_eq_length_filter]
def fP (b:List Nat) (c e a:Nat):Nat:=(b.take c).countP fun d=>bE d a==bE e a
def kY (a:List Nat) (b d:Nat) (i:b<=a.length) (e:∀c∈a,c < 257) (f:d < 257):fP a b d 0=b:=by
 unfold fP;rw [List.countP_eq_length.2 (fun c g=>by
  have:=e c (List.mem_of_mem_take g);simp [nT _ this,nT _ f]),zAj]
 omega
def kZ (c:List Nat) (d b a:Nat) (e:a < 9):((aK c a (bE b a)).take (fP c d b a)).count (gG b a)=fP c d b (a+1):=by
 unfold fP;rw [aGD,aEM _ _ _ e]
def aFE (a:List Nat) (c d b:Nat):fP a c d b<=(aK a b (bE d b)).length:=by
 unfold fP;rw [iU];exact (List.take_sublist c a).countP_le
def aAu (a:List Nat) (b c:Nat):fP a b c 9=(a.take b).count c:=by
 unfold fP;rw [List.count_eq_countP];congr 1;funext s;rw [nV,nV]
def eC (b:Nat->Nat) (c d:Nat):List Value:=(List.range d).flatMap fun a=> [.pointer (some ⟨b a,0,none⟩),.int .i64 (c:Int),.int .i64 (a:Int)]
def iM (b:Nat->Nat) (c a:Nat):eC b c (a+1)=eC b c a++ [.pointer (some ⟨b a,0,none⟩),.int .i64 (c:Int),.int .i64 (a:Int)]:=by
 unfold eC;rw [List.range_succ,List.flatMap_append];simp
def vM (b:Nat->Nat) (d a:Nat):(eC b d a).length=a*3:=by
 induction a with
 | zero=>rfl
 | succ a c=>rw [iM,zAi,c];simp;omega
def fJ (c:Nat->Nat) (d b a:Nat) (l:a < b):(eC c d b)[a*3]?=some (.pointer (some ⟨c a,0,none⟩))/\(eC c d b)[a*3+1]?=some (.int .i64 (d:Int))/\(eC c d b)[a*3+2]?=some (.int .i64 (a:Int)):=by
 induction b with
 | zero=>omega
 | succ b k=>
   rw [iM];by_cases f:a=b;subst f;have e:=vM c d a;refine ⟨?_,?_,?_⟩;rw [zAo oM,e,Nat.sub_self];rfl;rw [zAo oM,e,show a*3+1 - a*3=1 by omega];rfl;rw [zAo oM,e,show a*3+2 - a*3=2 by omega];rfl;have e:=vM c d b;obtain ⟨g,i,j⟩:=k oM;refine ⟨?_,?_,?_⟩;rw [zAn oM];exact g;rw [zAn oM];exact i;rw [zAn oM];exact j
def aAN (c d:Nat->Nat) (f a:Nat) (e:∀b,b < a->c b=d b):eC c f a=eC d f a:=by
 induction a with
 | zero=>rfl
 | succ a g=>rw [iM,iM,g (fun b i=>e b oM),e a oM]
def ShelfRow (w:World) (B:Nat) (f:Value) (e:List Nat) (d c:Nat):Prop:=
 ∃(b:Nat->Nat),w.ownsRow B 157 3 f c (eC b d c)/\∀a,a < c->B<=b a/\TreeAt w (b a) (aK e d a)
def ShelfRow.vis {w w':World} {B:Nat} {i:Value} {a:List Nat} {e f:Nat} (k:ShelfRow w B i a e f) (d:Vis w w'):ShelfRow w' B i a e f:=by
 obtain ⟨j,l,b⟩:=k;exact ⟨j,d.own l dC dC,fun g c=>⟨(b g c).1,(b g c).2.vis d⟩⟩
def ShelfRow.below {w e:World} {B:Nat} {d:Value} {a:List Nat} {b c:Nat} (f:ShelfRow w B d a b c) (g:Below w.heap.size w e):ShelfRow e B d a b c:=f.vis (Vis.of_below g)
def WaveAt (w:World) (B d:Nat) (b:List Nat):Prop:=
 B<=d/\∃(c:Nat->Value) (e:Int),Bk w d 154 (wcells c (b.length:Int) e)/\∀a,a < 9->ShelfRow w B (c a) b a (2 ^ a)
def WaveAt.vis {w w':World} {B b:Nat} {a:List Nat} (e:WaveAt w B b a) (c:Vis w w'):WaveAt w' B b a:=by
 obtain ⟨f,d,n,g,i⟩:=e;obtain ⟨m,j⟩:=c.waveC g;exact ⟨f,d,m,j,fun l k=>(i l k).vis c⟩
def WaveAt.below {w c:World} {B b:Nat} {a:List Nat} (d:WaveAt w B b a) (e:Below w.heap.size w c):WaveAt c B b a:=d.vis (Vis.of_below e)
abbrev VB (B:Nat):World->World->Prop:=VisK (fun a=>B<=a)
def bD {B:Nat} {w b:World} (a:VB B w.drew b):VB B w b:=⟨⟨a.1.os,a.1.tape,a.1.output,a.1.size,a.1.block⟩,⟨a.2.os,a.2.tape,a.2.output,a.2.size,a.2.block⟩⟩
def VB.to_below {B:Nat} {w a:World} (c:VB B w a) (d:B<=w.heap.size):Below B w a:=c.2.to_below d (fun e f b=>by have:=b;omega)
def VB.set_wave {w:World} {B a:Nat} {e:Array Value} (f:Bk w a 154 e) (g:B<=a) (b:Int):VB B w (w.setCell ⟨a,10,none⟩ (.int .i64 b)):=⟨Vis.set_wave f b,Keep.setCell (F:=fun d=>B<=d) (Keep.refl _ _) (p:=⟨a,10,none⟩) (.inl g) _⟩
@[irreducible] def rowC (c:Nat->Value) (j:Nat):Array Value:=Array.ofFn (n:=j) fun i=>c i.val
def nR (b:Nat->Value) (a:Nat):(rowC b a).size=a:=by unfold rowC;simp
def mU (b:Nat->Value) (c a:Nat) (d:a < c):(rowC b c)[a]?=some (b a):=by
 unfold rowC;rw [Array.getElem?_ofFn,dif_pos d]
def aHy (f:Nat->Value) (d c:Nat) (i:c < d) (g:Value):(rowC f d).setIfInBounds c g=rowC (fun b=>if b=c then g else f b) d:=by
 apply Array.ext_getElem?;intro b;rcases zBe b d with a | a
 · rw [mU _ _ _ a];by_cases e:c=b
   · subst e;rw [Array.getElem?_setIfInBounds_self_of_lt (by rw [nR];exact i),zBx rfl]
   · rw [zCe e,mU _ _ _ a,zBw (fun j=>e j.symm)]
 · rw [Array.getElem?_eq_none (by simp [nR];exact a),Array.getElem?_eq_none (by rw [nR];exact a)]
def aD4 (c:Value) (b:Nat):rowC (fun _=>c) b=Array.replicate b c:=by
 apply Array.ext_getElem?;intro d;rcases zBe d b with a | a
 · rw [mU _ _ _ a];simp [a]
 · rw [Array.getElem?_eq_none (by rw [nR];exact a),Array.getElem?_eq_none (by simpa using a)]
structure Bits (w:World) (B gB m:Nat) (T:Nat->Value) (R:Nat->List Bool):Prop where
 blk:Bk w gB 175 (rowC T m)
 own:∀p,p < m->w.ownsRow B 4 1 (T p) (R p).length ((R p).map Value.bool)
 apart:∀p q,p < m->q < m->p≠q->∀b,(T p).ownBlock=some b->(T q).ownBlock≠some b
def Bits.same {w w':World} {B e f:Nat} {d:Nat->Value} {R:Nat->List Bool} (c:Bits w B e f d R) (j:∀a b,Bk w a 175 b->Bk w' a 175 b) (k:∀a b,Bk w a 4 b->Bk w' a 4 b):Bits w' B e f d R:=
 ⟨j _ _ c.blk,fun l i=>aA (c.own l i) fun a b _ g=>k a b g,c.apart⟩
def Bits.below {w f:World} {B c e:Nat} {b:Nat->Value} {R:Nat->List Bool} (j:Bits w B c e b R) (d:Below w.heap.size w f):Bits f B c e b R:=j.same (fun g i a=>a.below d a.lt) (fun g i a=>a.below d a.lt)
def Bits.start (w:World) (B a b:Nat) (c:Bk w a 175 (rowC (fun _=>.slice none 0 0) b)):Bits w B a b (fun _=>.slice none 0 0) (fun _=> []):=
 ⟨c,fun e g=>World.ownsRow_nil _ _ _ _,fun e i _ _ _ f d=>by simp [Value.ownBlock] at d⟩
def Bits.push {w w1:World} {B o n a:Nat} {i:Nat->Value} {R:Nat->List Bool} {v:Value} {b:Bool} (j:Bits w B o n i R) (r:a < n) (H:Keep (fun b=>(i a).ownBlock=some b) w w1)
 (K:w1.ownsRow B 4 1 v ((R a).length+1) ((R a).map Value.bool++ [.bool b])) (u:v.ownBlock=(i a).ownBlock∨∃e,v.ownBlock=some e/\w.heap.size<=e):
 Bits (w1.setCell ⟨o,a,none⟩ v) B o n (fun q=>if q=a then v else i q) (fun q=>if q=a then R a++ [b] else R q):=by
 have J:(i a).ownBlock≠some o:=by intro d;exact bF (j.own a r) j.blk dC d.symm
 have A:=H.bk j.blk J;have E:∀e m,Bk w1 e 4 m->Bk (w1.setCell ⟨o,a,none⟩ v) e 4 m:=fun e m k=>k.far (Bk.ne k A dC) _;refine ⟨?_,fun c g=>?_,fun c y g D x s p=>?_⟩;rw [<-aHy i n a r v];exact A.set a v;by_cases d:c=a;subst d;rw [zBx rfl,zBx rfl,zAi,zAz];exact aA K fun e m _ k=>E e m k;rw [zBw d,zBw d];refine aA (j.own c g) fun e m k I=>E e m (H.bk I ?_);exact fun f=>j.apart c a g r d e k f;have M:∀c,c < n->∀f,(i c).ownBlock=some f->f < w.heap.size:=fun c g f l=>((j.own c g).lt f l).2;have F:∀c,c < n->c≠a->∀f,v.ownBlock=some f->(i c).ownBlock≠some f:=(by intro c g L f l G;rcases u with u |⟨e,k,N⟩;rw [u] at l;exact j.apart a c r g (fun d=>L d.symm) f l G;rw [k] at l;cases l;have:=M c g _ G;omega);by_cases t:c=a;subst t;rw [zBx rfl] at p;rw [zBw (fun d=>x d.symm)];exact F y D (fun d=>x d.symm) s p;rw [zBw t] at p;by_cases z:y=a;subst z;rw [zBx rfl];intro l;exact F c g t s l p;rw [zBw z];exact j.apart c y g D x s p
def aGE (d:List Nat) (c a b:Nat):aK (d++ [c]) a b=if b=bE c a then aK d a b++ [gG c a] else aK d a b:=by
 unfold aK;rw [List.filter_append,zAz];by_cases e:b=bE c a
 · rw [zBx e];simp [e]
 · rw [zBw e];have:(bE c a==b)=false:=(by simp;omega);simp [this]
def Bits.congr {w:World} {B e c:Nat} {d:Nat->Value} {R R':Nat->List Bool} (b:Bits w B e c d R) (g:∀a,a < c->R a=R' a):Bits w B e c d R':=
 ⟨b.blk,fun a f=>by rw [<-g a f];exact b.own a f,b.apart⟩
def eW {w:World} {e:Nat} {a:TypeId} {n m b:Nat} {d:Value} {o:List Value} (k:w.ownsRow e a n d m o) (c:d.ownBlock=some b):∃f,Bk w b a f:=by
 rcases k.2 with ⟨rfl,_⟩|⟨j,p,g,rfl,_,l,_⟩
 · simp [Value.ownBlock] at c
 have i:j=b:=(by simpa [Value.ownBlock] using c);subst i;exact ⟨g,l⟩
def TreeAt.keepT {w j:World} {c:Nat->Prop} {f:Nat} {d:List Bool} (l:TreeAt w f d) (q:Keep c w j) (o:∀a,c a->∃b e,Bk w a b e/\(b=154∨b=157)):TreeAt j f d:=by
 refine l.same fun a b e i g=>q.bk g fun m=>?_;obtain ⟨s,r,n,p⟩:=o a m;have k:=(aL g n).1;subst k;rcases p with rfl | rfl;exact absurd i dC;exact absurd i dC
def ShelfRow.keepW {w q:World} {b B:Nat} {c:Array Value} {p:Value} {f:List Nat} {m n:Nat} (s:ShelfRow w B p f m n) (l:Keep (fun a=>a=b) w q) (k:Bk w b 154 c):ShelfRow q B p f m n:=by
 obtain ⟨r,t,g⟩:=s;refine ⟨r,aA t fun a c _ i=>l.bk i fun d=>?_,fun o j=>⟨(g o j).1,(g o j).2.keepT l fun a d=>by
  have e:a=b:=d;subst e;exact ⟨_,c,k,.inl rfl⟩⟩⟩
 have e:a=b:=d;subst e;exact absurd (aL i k).1 dC
def ShelfRow.mono {w:World} {B B':Nat} {i:Value} {a:List Nat} {e f:Nat} (k:ShelfRow w B i a e f) (c:B'<=B):ShelfRow w B' i a e f:=by
 obtain ⟨j,l,b⟩:=k;exact ⟨j,cB l c,fun g d=>⟨zAk c (b g d).1,(b g d).2⟩⟩
def WaveAt.mono {w:World} {B B' b:Nat} {a:List Nat} (e:WaveAt w B b a) (c:B'<=B):WaveAt w B' b a:=by
 obtain ⟨f,d,l,g,i⟩:=e;exact ⟨zAk c f,d,l,g,fun k j=>(i k j).mono c⟩
def WalkAt (w:World) (B gk:Nat) (a:List Nat):Prop:=
 ∃c b,Bk w gk 100 #[.pointer (some ⟨c,0,none⟩),.pointer (some ⟨b,0,none⟩)]/\WaveAt w B c a/\Bk w b 199 (tcells a)
def WalkAt.vis {w w':World} {B gk:Nat} {b:List Nat} (e:WalkAt w B gk b) (a:Vis w w'):WalkAt w' B gk b:=by
 obtain ⟨d,c,f,g,i⟩:=e;exact ⟨d,c,a.bk f dC dC,g.vis a,a.bk i dC dC⟩
def WalkAt.mono {w:World} {B B' gk:Nat} {a:List Nat} (d:WalkAt w B gk a) (i:B'<=B):WalkAt w B' gk a:=by
 obtain ⟨c,b,e,f,g⟩:=d;exact ⟨c,b,e,f.mono i,g⟩
def tV (B b:Nat) (a:List Nat) (w:World) (f:WaveAt w B b a):
 Calls prog 159 #[b] w fun e i=>e=.returned (.int .i64 (a.length:Int))/\w=i:=by
 obtain ⟨_,d,g,c,_⟩:=f;have j:w.cell? ⟨b,9,none⟩=some (.int .i64 (a.length:Int)):=by rw [c.cell];have:=bI d (a.length:Int) g;simp [this]
 clear c;go_enter func159,ntmps159;go_wp2;go_ret;exact ⟨rfl,rfl⟩
def kJ (B gk:Nat) (a:List Nat) (w:World) (f:WalkAt w B gk a):
 Calls prog 96 #[gk] w fun b d=>b=.returned (.int .i64 (a.length:Int))/\w=d:=by
 obtain ⟨e,k,c,g,i⟩:=f;have j:=c.cell 0;clear c i;go_enter func96,ntmps96;go_wp2_with fail;refine (tV B e a _ g).mono ?_;rintro b d ⟨rfl,rfl⟩;go_wp2_with fail;go_ret;exact ⟨rfl,rfl⟩
def iI (B gk:Nat) (a:List Nat) (b:Nat) (w:World) (m:WalkAt w B gk a) (q:b < 257) (p:a.length<=1000):
 Calls prog 153 #[gk,(b:Int)] w fun d j=>d=.returned (.int .i64 ((a.countP (fun c=>decide (c < b)):Nat):Int))/\Below w.heap.size w j:=by
 obtain ⟨s,l,e,n,f⟩:=m;have r:=e.cell 1;clear e n;have k:=lhd f;clear f;go_enter func153,ntmps153;go_wp2_with fail;refine (jT l a b _ k.out q p).mono ?_;rintro d j ⟨rfl,o⟩;obtain ⟨i,g⟩:∃i,a.countP (fun c=>decide (c < b))=i:=⟨_,rfl⟩;rw [g];go_wp2_with fail;go_ret;exact ⟨by rw [g];rfl,o⟩
def cL (a:List Nat) (b c:Nat):Nat:=a.countP (fun d=>decide (d < b))+(a.take c).count b
end
section
open Go.RowKit Go.Shelf
def mM (a:Nat×Nat):List Value:= [.int .i64 (a.1:Int),.int .i64 (a.2:Int)]
def bW (C:List (Nat×Nat)):List Value:=C.flatMap mM
def aB (C:List (Nat×Nat)) (a:Nat):Nat:=(C.getD a (0,0)).1
def aI (C:List (Nat×Nat)) (a:Nat):Nat:=(C.getD a (0,0)).2
def dH (C:List (Nat×Nat)):(bW C).length=C.length*2:=by
 induction C with
 | nil=>rfl
 | cons b a c=>
   have:bW (b::a)=mM b++bW a:=rfl;rw [this,zAi,c];simp [mM];omega
def cK (C:List (Nat×Nat)) (a:Nat) (c:a < C.length):(bW C)[a*2]?=some (.int .i64 ((aB C a:Nat):Int))/\(bW C)[a*2+1]?=some (.int .i64 ((aI C a:Nat):Int)):=by
 induction C generalizing a with
 | nil=>cases c
 | cons b d f=>
   have e:bW (b::d)=mM b++bW d:=rfl;rcases a with _ | a;exact ⟨rfl,rfl⟩;have:=f a (by simpa using c);rw [e,zAo (by simp [mM];omega),zAo (by simp [mM];omega)];rw [show (a+1)*2 -(mM b).length=a*2 by simp [mM];omega,show (a+1)*2+1 -(mM b).length=a*2+1 by simp [mM];omega];exact this
structure PRd (W:World) (gb gp:Nat) (A:Option Addr) (n c:Nat) (C:List (Nat×Nat)):Prop where
 box:W.cell? gb=some (.pointer (some gp))
 sl:W.cell? ⟨gp,1,none⟩=some (.slice A n c)
 rd:Rd W W.heap.size 2 A n (bW C)
def PRd.below {a f:World} {c gp i g:Nat} {e:Option Addr} {C:List (Nat×Nat)} (d:PRd a c gp e i g C) (j:c < a.heap.size) (k:gp < a.heap.size) (b:Below a.heap.size a f):PRd f c gp e i g C:=
 ⟨(b.cell j).trans d.box,(b.cell k).trans d.sl,(d.rd.below b).mono b.size⟩
def PRd.drewN {c:World} {e gp f d:Nat} {b:Option Addr} {C:List (Nat×Nat)} (a:PRd c e gp b f d C) (g:Nat):PRd (c.drewN g) e gp b f d C:=⟨a.box,a.sl,a.rd⟩
def PRd.at {d:World} {l gp e j:Nat} {f:Option Addr} {C:List (Nat×Nat)} (g:PRd d l gp f e j C) {a:Nat} (o:a < C.length):
 a < e/\∃b c,f=some ⟨b,c,none⟩/\d.cell? ⟨b,c+a*2,none⟩=some (.int .i64 ((aB C a:Nat):Int))/\d.cell? ⟨b,c+a*2+1,none⟩=some (.int .i64 ((aI C a:Nat):Int)):=by
 have p:=g.rd.1;rw [dH] at p;have q:a < e:=oM;obtain ⟨b,c,k,_,i⟩:=g.rd.2 oM;obtain ⟨m,n⟩:=cK C a o;exact ⟨q,b,c,k,i _ _ m,by rw [Nat.add_assoc];exact i _ _ n⟩
def aDp (f gp:Nat) (i:Option Addr) (m j:Nat) (C:List (Nat×Nat)) (a row:Nat) (b:World) (c:PRd b f gp i m j C) (l:a < C.length):
 Calls prog 195 #[(a:Int),(row:Int),f] b fun e g=>e=.returned (.int .i64 (Lib.compareInt (aB C a:Nat) row))/\b=g:=by
 obtain ⟨s,n,t,rfl,q,k⟩:=c.at l;have o:=c.box;have p:=c.sl;have d:=AnyG.cmp_Compare_int shCmp ((aB C a:Nat):Int) (row:Int) b;change Calls prog 175 _ _ _ at d;generalize Lib.compareInt (aB C a:Nat) row=r at d⊢;clear c k;go_enter func195,ntmps195;go_wp2_with fail;refine d.mono ?_;rintro e g ⟨rfl,rfl⟩;go_wp2_with fail;go_ret;exact ⟨rfl,rfl⟩
def aBL (f g gp:Nat) (k:Option Addr) (p l:Nat) (C:List (Nat×Nat)) (d e:Nat) (a:World) (c:PRd a f gp k p l C) (y:a.cell? g=some (.int .i64 (e:Int))) (o:d < C.length):
 Calls prog 197 #[(d:Int),f,g] a fun b r=>b=.returned (.bool (decide (aI C d=e)))/\∃q,r=a.drewN q:=by
 obtain ⟨x,s,z,rfl,m,n⟩:=c.at o;have t:=c.box;have u:=c.sl;obtain ⟨j,i⟩:=eqx (aI C d);rw [i] at n⊢;clear c m i;by_cases b:j=e
 · subst b;go_enter func197,ntmps197;go_wp2;go_quiet (fail);go_wp2;go_ret;exact ⟨by simp,_,rfl⟩
 · have v:((j:Int)==(e:Int))=false:=(by simp;omega);go_enter func197,ntmps197;go_wp2;go_quiet (fail);go_wp2;go_ret;exact ⟨by simp [b],_,rfl⟩
end
section
open Go.RowKit Go.Shelf
open Go.Sort (Holds)
structure PermAt (w:World) (B gp ga:Nat) (vl vo vt vf:Value) (R P:Nat) (ks:List Nat) (C:List (Nat×Nat)) (tk:List Bool) (fr:List Nat):Prop where
 blk:Bk w gp 166 #[ga,vl,vo,(R:Int),(P:Int)]
 lrow:w.ownsRow B 170 2 vl C.length (bW C)
 orow:w.ownsRow B 3 1 vo ks.length (ks.map sv)
 ar:Bk w ga 221 #[vt,vf,.int .i64 268435456]
 trow:w.ownsRow B 4 1 vt tk.length (tk.map Value.bool)
 frow:w.ownsRow B 3 1 vf fr.length (fr.map sv)
 apart:vo.ownBlock=none∨vo.ownBlock≠vf.ownBlock
 lt:∀k∈ks,k < C.length
 lo:B<=gp/\B<=ga
def aEH {d:List Nat} {b:Nat->Nat} (j:d.Pairwise (fun i n=>b i < b n)) (g:Nat):∀(a e:Nat),d[a]?=some e->(b e < g↔a < d.countP fun k=>decide (b k < g)):=by
 induction d with
 | nil=>intro a e j;cases j
 | cons r d q=>
   obtain ⟨m,o⟩:=List.pairwise_cons.1 j;intro a e c;rw [zBn];by_cases f:b r < g
   · rcases a with _ | a
     · simp at c;subst c;simp [f]
     have:=q o a e (by simpa using c);simp only [f,decide_true,if_true];omega
   · have l:(d.countP fun k=>decide (b k < g))=0:=(by rw [List.countP_eq_zero];intro i p;have:=m i p;simp;omega);rcases a with _ | a
     · simp at c;subst c;simp [f,l]
     have s:=m e (zAd (by simpa using c));simp only [l,f,decide_false];simp;omega
def sZ {a:List Nat} {f:Nat->Nat} (i:a.Pairwise (fun o p=>f o < f p)) (k:Nat):(∃g,a[a.countP fun b=>decide (f b < k)]?=some g/\f g=k)↔∃b∈a,f b=k:=by
 constructor;rintro ⟨g,j,e⟩;exact ⟨g,zAd j,e⟩
 · rintro ⟨b,s,rfl⟩;obtain ⟨c,m,rfl⟩:=List.getElem_of_mem s;have l:=zAa m;have j:=aEH i (f a[c]) c _ l;have v:¬c < a.countP fun b=>decide (f b < f a[c]):=fun d=>by have:=j.2 d;omega
   rcases zBe (a.countP fun b=>decide (f b < f a[c])) c with e | e
   · have n:(a.countP fun b=>decide (f b < f a[c])) < a.length:=oM;have q:=zAa n;have r:=aEH i (f a[c]) _ _ q;have t:¬f a[a.countP fun b=>decide (f b < f a[c])] < f a[c]:=fun d=>by have:=r.1 d;omega
     have u:=zAr.1 i _ _ n m e;omega
   have d:(a.countP fun b=>decide (f b < f a[c]))=c:=oM;rw [d];exact ⟨_,l,rfl⟩
def fO (a:Nat) (ks:List Nat):Array (Fin (a+1)):=(ks.map fun b=>(⟨b %(a+1),Nat.mod_lt _ (Nat.succ_pos a)⟩:Fin (a+1))).toArray
def mW {d:Nat} {ks:List Nat} (g:∀a∈ks,a < d+1) {c a:Nat} (b:ks[c]?=some a):((fO d ks)[c]!).val=a:=by
 have e:c < ks.length:=(zAc.1 b).1;have i:=g a (zAd b);have f:ks[c]=a:=by rw [zAa e] at b;injection b
 rw [aCG _ _ (by simpa [fO] using e)];simp [fO,f,zBu i]
def aEi {b:Nat} {ks:List Nat} (d:∀a∈ks,a < b+1) (c:Nat->Bool):(fO b ks).toList.countP (fun f=>c f.val)=ks.countP c:=by
 unfold fO;rw [List.countP_map];refine List.countP_congr fun a e=>?_;simp [zBu (d a e)]
def pG {w:World} {c f:Nat} {ks:List Nat} {b:Array Value} (g:Bk w f 3 b) (i:∀l∈ks,l < c+1) (k:b.toList.take ks.length=ks.map sv):Holds (fA c) w f 0 (fO c ks):=by
 intro a j;have d:a < ks.length:=by simpa [fO] using j
 rw [zBi];refine ⟨?_,g.frozen a⟩;have e:(b.toList.take ks.length)[a]?=(ks.map sv)[a]?:=by rw [k]
 rw [zBs,zBx d,zAf,zAa d,Array.getElem?_toList] at e;rw [g.cell,e];have:=mW i (zAa d);simp [fA,this,sv]
def aHj {w e:World} {a c:Nat} {b:Array (Fin (a+1))} (i:Holds (fA a) w c 0 b) (g:SW (fA a) w c 0 b e):Below w.heap.size w e:=by
 obtain ⟨d,k,rfl⟩:=g;unfold sortWorld;have f:Go.Sort.putRow (fA a) (Go.Sort.ahead w d) c 0 b=Go.Sort.ahead w d:=Go.Sort.putRow_self (fA a) _ c 0 b i;rw [f];exact ⟨rfl,rfl,rfl,by show w.heap.size<=(w.heap++k).size;simp,fun l j=>Go.Sort.heap_grow_old _ _ j⟩
def vD (a b:Int):Lib.compareInt a b < 0↔a < b:=by
 unfold Lib.compareInt;split
 · simp [*]
 · split <;> simp [*]
def aIt (a b:Int):Lib.compareInt a b=0↔a=b:=by
 unfold Lib.compareInt;split;simp;omega;split;simp;omega;simp;omega
section
variable {w : World} {B gp ga : Nat} {vl vo vt vf : Value} {R P : Nat} {ks : List Nat} {C : List (Nat × Nat)} {tk : List Bool} {fr : List Nat}
def PermAt.prd (c:PermAt w B gp ga vl vo vt vf R P ks C tk fr) {e:Nat} {w':World} (j:w'.cell? e=some (.pointer (some gp))) (g:Below w.heap.size w w'):∃a i b,vl=.slice a i b/\PRd w' e gp a i b C:=by
 obtain ⟨a,b,d,_⟩:=aQ c.lrow;refine ⟨a,C.length,b,d,j,?_,?_⟩;have:=(c.blk.below g c.blk.lt).cell 1;rw [d] at this;exact this;have f:=aR c.lrow g;rw [d] at f;exact Rd.of_own f
end
def aKm {ks:List Nat} {C:List (Nat×Nat)} {c row:Nat} (m:C.length=c+1) (o:∀a∈ks,a < C.length) (p:ks.Pairwise (fun k l=>aB C k < aB C l)):
 ((fO c ks).toList.countP (fun b=>decide (Lib.compareInt (aB C b.val:Nat) row < 0)))=ks.countP (fun a=>decide (aB C a < row))/\
 (decide (((fO c ks).toList.countP (fun b=>decide (Lib.compareInt (aB C b.val:Nat) row < 0))) < (fO c ks).size)&&decide (Lib.compareInt (aB C ((fO c ks)[((fO c ks).toList.countP (fun b=>decide (Lib.compareInt (aB C b.val:Nat) row < 0)))]!).val:Nat) row=0))=decide (∃a∈ks,aB C a=row):=by
 have g:∀a∈ks,a < c+1:=fun a n=>by rw [<-m];exact o a n
 have i:(fO c ks).toList.countP (fun b=>decide (Lib.compareInt (aB C b.val:Nat) row < 0))=ks.countP (fun a=>decide (aB C a < row)):=by rw [<-aEi g (fun a=>decide (aB C a < row))];congr 1;funext b;rw [decide_eq_decide,vD];omega
 refine ⟨i,?_⟩;rw [i,Bool.eq_iff_iff];simp only [zBd,zCa,aIt];rw [<-sZ (f:=aB C) p row];constructor;rintro ⟨d,j⟩;have e:(ks.countP fun a=>decide (aB C a < row)) < ks.length:=(by simpa [fO] using d);refine ⟨_,zAa e,?_⟩;rw [mW g (zAa e)] at j;omega;rintro ⟨b,d,j⟩;have e:=(zAc.1 d).1;refine ⟨by simpa [fO] using e,?_⟩;rw [mW g d];omega
def jV (B gp ga:Nat) (vl vo vt vf:Value) (R P:Nat) (ks:List Nat) (C:List (Nat×Nat)) (tk:List Bool) (fr:List Nat) (row:Nat) (w:World) (d:PermAt w B gp ga vl vo vt vf R P ks C tk fr) (G:ks.Pairwise (fun k e=>aB C k < aB C e)) (Q:ks.length<=1099511627776):
 Calls prog 148 #[gp,(row:Int)] w fun a l=>a=.returned (.tuple #[.int .i64 ((ks.countP (fun b=>decide (aB C b < row)):Nat):Int),.bool (decide (∃b∈ks,aB C b=row))])/\Below w.heap.size w l:=by
 have ak:=d.blk.lt;have n:Below w.heap.size w (w.alloc (.cells #[gp] 90)):=bR.alloc nL _;have Z:w.cell? ⟨gp,2,none⟩=some vo:=(d.blk.cell 2).trans rfl;have O:∀g o f,vo=.slice g o f->Calls prog 194 #[.slice g o f,(row:Int),.func (.func 195) #[] #[w.heap.size]] (w.alloc (.cells #[gp] 90)) fun a l=>a=.returned (.tuple #[.int .i64 ((ks.countP (fun b=>decide (aB C b < row)):Nat):Int),.bool (decide (∃b∈ks,aB C b=row))])/\Below w.heap.size w l:=by
  intro g o f J;rcases zBa ks.length with r | r;have a8:ks= []:=zBk r;obtain ⟨Y,a0,i,_⟩:=aQ d.orow;rw [J] at i;injection i with _ i _;rw [r] at i;subst i;subst a8;refine (Any.slices_BinarySearchFunc_none shBin g f (.int .i64 (row:Int)) (.func (.func 195) #[] #[w.heap.size]) _).mono ?_;rintro a l ⟨rfl,rfl⟩;exact ⟨by simp,n⟩
  · rcases d.orow.2 with ⟨_,a⟩|⟨m,ae,a1,a,ai,a6,am,al,an,V⟩;omega
    · rw [J] at a;injection a with e1 e2 e3;subst e1 e2 e3;rw [zBl] at V;obtain ⟨k0,a7⟩:∃b,b∈ks:=(by obtain ⟨j,ad⟩:=List.exists_mem_of_length_pos r;exact ⟨j,ad⟩);obtain ⟨c,z⟩:∃c,C.length=c+1:=⟨C.length - 1,by have:=d.lt k0 a7;omega⟩;have F:∀b∈ks,b < c+1:=fun b Q=>by rw [<-z];exact d.lt b Q
      have t:Bk w m 3 a1:=a6;have s:=t.below n t.lt;have M:=pG s F V;have a4:(w.alloc (.cells #[gp] 90)).cell? w.heap.size=some (.pointer (some gp)):=(Bk.new w 90 #[gp]).cell 0;have a5:CmpLaysT prog 195 #[w.heap.size] (fA c) (.int .i64 (row:Int)) (fun j=>Lib.compareInt (aB C j.val:Nat) row) m 0 (fO c ks).size (w.alloc (.cells #[gp] 90)):=(by intro I H u aj j;have E:=jE (enc:=fA c) s.lt 0 I u H;obtain ⟨g,o,f,a,U⟩:=d.prd a4 n;have ab:PRd (sortWorld (fA c) (w.alloc (.cells #[gp] 90)) m 0 I u H) w.heap.size gp g o f C:=(by refine ⟨?_,?_,?_⟩;exact (E.cell (p:=w.heap.size) (by simp) (fun a=>by have:=t.lt;have ag:w.heap.size=m:=a;omega)).trans U.box;exact (E.cell (p:=⟨gp,1,none⟩) (by simp;omega) (Bk.ne d.blk t dC)).trans U.sl;have a9:=aR d.lrow n;have S:=aA (w':=sortWorld (fA c) (w.alloc (.cells #[gp] 90)) m 0 I u H) a9 fun e af _ q=>E.bk q (Bk.ne q s dC);obtain ⟨Y,a0,i,_⟩:=aQ d.lrow;rw [a] at i S;injection i with e91 e92 e93;subst e92;exact Rd.of_own S);exact (aDp w.heap.size gp g o f C j.val row _ ab (by rw [z];exact j.isLt)).mono fun _ _ ⟨a2,a3⟩=>⟨a2,0,#[],by rw [<-a3,Go.Sort.grow_empty];rfl⟩);have aa:∀k e,k<=e->e < (fO c ks).size->Lib.compareInt (aB C ((fO c ks)[e]!).val:Nat) row < 0->Lib.compareInt (aB C ((fO c ks)[k]!).val:Nat) row < 0:=(by intro k e x y T;have q:e < ks.length:=(by simpa [fO] using y);rw [mW F (zAa q),vD] at T;rw [mW F (zAa (show k < ks.length by omega)),vD];rcases Nat.eq_or_lt_of_le x with rfl | x;exact T;have:=zAr.1 G k e oM q x;omega);have W:(fO c ks).size=ks.length:=(by simp [fO]);have v:=Any.slices_BinarySearchFunc shBin (fA c) (lO c) (.int .i64 (row:Int)) (fun j=>Lib.compareInt (aB C j.val:Nat) row) 195 #[w.heap.size] m 0 f (fO c ks) (w.alloc (.cells #[gp] 90)) (enters_of func195 kR rfl) a5 M s.lt (by rw [W];omega) aa;obtain ⟨K,L⟩:=aKm (row:=row) z d.lt G;rw [K] at L;rw [K,L] at v;rw [W] at v;refine v.mono ?_;rintro a l ⟨rfl,ac⟩;exact ⟨rfl,n.trans ((aHj M ac).mono (by simp))⟩
 obtain ⟨g,f,a,_⟩:=aQ d.orow;have N:=O _ _ _ a;rw [a] at Z;obtain ⟨X,D⟩:∃X,ks.countP (fun b=>decide (aB C b < row))=X:=⟨_,rfl⟩;obtain ⟨ah,A⟩:∃e,decide (∃b∈ks,aB C b=row)=e:=⟨_,rfl⟩;rw [D,A] at N;rw [D,A];clear O d G D A n a;go_enter func148,ntmps148;go_wp2_with fail;refine N.mono ?_;rintro a l ⟨rfl,y⟩;go_wp2_with fail;go_ret2;exact ⟨rfl,y⟩
end
section
open Go.RowKit
def oZ (ga:Nat) (d:Option Addr) (f:Nat) (e:Option Addr) (g a b:Nat) (w:World) (c:Bk w ga 221 #[.slice d a f,.slice e b g,.int .i64 268435456]) (o:a<=1048576) (n:b<=a):
 Calls prog 198 #[ga] w fun i j=>i=.returned (.int .i64 ((a - b:Nat):Int))/\Below w.heap.size w j:=by
 have k:w.cell? ga=some (.slice d a f):=(c.cell 0).trans rfl;have l:w.cell? ⟨ga,1,none⟩=some (.slice e b g):=(c.cell 1).trans rfl;have m:IntKind.i64.wrap ((a:Int) -(b:Int))=((a - b:Nat):Int):=by rw [IntKind.wrap_i64];omega
 clear c;go_enter func198,ntmps198;go_wp2;go_quiet (fail);go_wp2;go_ret;exact ⟨fG oM,below_drewN bR _⟩
def rP (B ga:Nat) (c:Option Addr) (e:Nat) (m:Option Addr) (n a:Nat) (tk:List Bool) (w:World) (o:Bk w ga 221 #[.slice c a e,.slice m 0 n,.int .i64 268435456]) (v:w.ownsRow B 4 1 (.slice c a e) a (tk.map Value.bool)) (ah:B<=w.heap.size) (ai:a<=1000000):
 Calls prog 150 #[ga] w fun H r=>H=.returned (.tuple #[(a:Int),.int .i64 0])/\Keep (fun d=>d=ga∨(Value.slice c a e).ownBlock=some d) w r/\∃vt,Bk r ga 221 #[vt,.slice m 0 n,.int .i64 268435456]/\r.ownsRow B 4 1 vt (a+1) ((tk++ [true]).map Value.bool)/\(vt.ownBlock=(Value.slice c a e).ownBlock∨∃I,vt.ownBlock=some I/\w.heap.size<=I):=by
 obtain ⟨a9,Z,a6,a7,a8⟩:=info_parts oJ;have aj:=o.lt;obtain ⟨i,S,Q⟩:=hqq3 o v (bF v o dC);clear o v;go_enter func150,ntmps150;go_wp2;refine wp_region_any kR ?_;refine aV [10,11,12,13,14,15,16,9] (Grow) (Vs [is ga,is (a:Int),is ga,is ga,is (.pointer (some ⟨ga,2,none⟩)),is (.int .i64 268435456),is (.bool false),is (.bool false)]) _ _ rfl kR bR (fun _ _=>Grow.trans) (cZ tA1) ?_ ?_
 · refine aO ?_;refine pH 0 (.pointer (some ga)) ?_;refine sC (fun _ f b _ _ _ g _ _ _ t=>?_) ?_
   · have ad:_=_:=g 0 10 kR rfl;replace b:(Grow) w f:=gD b;go_simp;refine (oZ ga c e m n a 0 f (i.out.below b i.out.lt) oM oM).mono ?_;rintro H ao ⟨rfl,Y⟩;exact t _ _ Y rfl
   refine pH 0 (.pointer (some ga)) ?_;refine pV 2 12 ?_;refine pV 3 13 ?_;refine pL 4 14 (fun f b=>have b:(Grow) w f:=gD b;(((i.out.below b i.out.lt).cell 2).trans rfl:f.cell? ⟨ga,2,none⟩=some (.int .i64 268435456))) ?_;refine sC (fun _ _ _ _ _ _ g _ _ _ t=>?_) ?_
   · have ae:_=_:=g 1 11 kR rfl;have af:_=_:=g 5 15 kR rfl;have ak:((a:Int)==268435456)=false:=(by simp;omega);go_simp;exact t _ _ bR (by first | rfl | simp [is] |(simp [is];omega))
   refine pV 6 16 ?_;exact aD
 · intro W l b g;replace b:(Grow) w l:=gD b;have V:W (.tmp 9)=.bool false:=g 7 9 rfl;simp only [zqq];rw [V];clear g;have k:=i.out.below b i.out.lt;have a5:=Below.size b;have M:=aR S.out b;have U:l.cell? ⟨ga,1,none⟩=some (.slice m 0 n):=(k.cell 1).trans rfl;have E:l.cell? ga=some (.slice c a e):=(k.cell 0).trans rfl;have X:=k.frozen 0;have L:ga < l.heap.size:=oM;obtain ⟨s,z,D⟩:=hqq3 b k M;clear b k M;generalize l=W2 at z a5 E U X s L D⊢;have aa:=(World.cell?_alloc_lt W2 (Obj.cells #[.bool true] 4) ⟨ga,0,none⟩ L).trans E;go_wp2_with (at_builtin;refine bO _ rfl (.tmp 53) (.tmp 54) _ rfl B 4 a9 (.bool false) 1 1 underlying175 Z a6 a7 a8 rfl dC (.slice c a e) a _ rfl D.out rfl rfl (by simp [Value.oneCell']) (by unfold maxLen;omega) oM oM ?_;intro an f x u al J;have q:=z.out.grown u Q.out;obtain ⟨T,O,N,A⟩:=hqq4 x u J q;have ac:f.cell? ga=some (.slice c a e):=(q.cell 0).trans rfl;have ag:=q.frozen 0;obtain ⟨y,G,rfl,a3⟩:=aT x;clear x u J q a3);go_ret2;have a4:=Keep.setCell (F:=fun d=>d=ga∨(Value.slice c a e).ownBlock=some d) (Keep.refl _ f) (p:=ga) (.inl (.inl rfl)) (.slice y (a+1) G);have a1:Keep (fun d=>d=ga∨(Value.slice c a e).ownBlock=some d) w W2:=Keep.of_below s.out;have a2:=a1.grown O.out (fun am a0=>.inl (.inr a0));refine ⟨rfl,a2.trans' a4 (fun d _ j=>j),_,A.out.set 0 _,?_,?_⟩;have:=aA (w':=f.setCell ga (.slice y (a+1) G)) T.out fun d ab _ K=>K.far (Bk.ne K A.out dC) _;simpa using this;rcases N.out with j | j;exact .inl j;exact .inr ⟨_,j,by have:=s.out.size;omega⟩
def oX (B:Nat) (b:Option Addr) (a c:Nat) (l:List Value) (e:Option Addr) (f j:Nat) (w:World) (g:w.ownsRow B 3 1 (.slice b a c) a l) (i:Rd w w.heap.size 1 e 1 [sv j]) (p:B<=w.heap.size) (A:a<=1000000):
 Calls prog 151 #[.slice b a c,(a:Int),.slice e 1 f] w fun o k=>∃d,o=.returned d/\k.ownsRow B 3 1 d (a+1) (l++ [sv j])/\w.grownBy k (Value.slice b a c).ownBlock/\(d.ownBlock=(Value.slice b a c).ownBlock∨d.ownBlock=some w.heap.size):=by
 obtain ⟨y,s,u,v,x⟩:=info_parts fW;have D:=pE (P:=prog) 22 3 1 underlying22 Tryz.sizeOf3 b a c a nL;obtain ⟨m,n⟩:=hqq2 g i;clear g i;go_enter func151,ntmps151;go_wp2_with (at_builtin;refine bY _ rfl (.tmp 23) (.tmp 24) _ rfl B 3 y (.int .i64 0) 1 8 underlying22 s u v x rfl dC (.slice b a c) a _ rfl m.out w.heap.size e 1 f _ rfl n.out (by simp [Value.oneCell',sv]) (by unfold maxLen;omega) oM p ?_;intro z E t r q);go_ret;exact ⟨z,rfl,t,r,q⟩
def sF (c:Nat) (b:List Bool) (a:Nat) (w:World) (d:Bk w c 230 (hQ b)) (i:a < b.length):
 Calls prog 208 #[c,(a:Int)] w fun e f=>e=.returned (.int .i64 0)/\Below w.heap.size w f:=by
 have g:w.cell? c=some (.int .i64 (b.length:Int)):=(d.cell 0).trans rfl;have l:=d.lt;have j:¬(a:Int) < 0:=oM;have k:decide ((a:Int)>=(b.length:Int))=false:=by simp;omega
 clear d;go_enter func208,ntmps208;go_wp2_with fail;go_ret;exact ⟨rfl,Below.refl _ _⟩
def aKx (b:List Bool) (a:Nat):(if a < 64 then w0 b >>> a else w1 b >>>(a - 64))&&& 1=if b.getD a false then 1 else 0:=by
 by_cases d:a < 64
 · rw [zBx d];have:=jP (b.take 64) a;rw [Nat.and_one_is_mod,Nat.shiftRight_eq_div_pow,<-Nat.toNat_testBit,show (w0 b).testBit a=(b.take 64).getD a false from this];have c:(b.take 64).getD a false=b.getD a false:=(by simp [zAb,zBs,d]);rw [c];cases b.getD a false <;> rfl
 · rw [zBw d];have:=jP (b.drop 64) (a - 64);rw [Nat.and_one_is_mod,Nat.shiftRight_eq_div_pow,<-Nat.toNat_testBit,show (w1 b).testBit (a - 64)=(b.drop 64).getD (a - 64) false from this];have c:(b.drop 64).getD (a - 64) false=b.getD a false:=(by simp [zAb,zBt,show 64+(a - 64)=a by omega]);rw [c];cases b.getD a false <;> rfl
def aFD (b a:Nat) (c:Bool) (i:b < 18446744073709551616) (g:b >>> a&&& 1=if c then 1 else 0):(bits .and .u64 ((b:Int)/ 2 ^ a) 1==1)=c:=by
 have d:=aAL b a 1 (2 ^ a) i oM rfl;have e:((2 ^ a:Nat):Int)=(2:Int)^ a:=by push_cast;rfl
 rw [e] at d;have f:bits .and .u64 ((b:Int)/ 2 ^ a) 1=((b >>> a&&& 1:Nat):Int):=d;rw [f,g];cases c <;> rfl
def aBT (e:Nat) (b:List Bool) (a:Nat) (w:World) (k:Bk w e 230 (hQ b)) (z:b.length<=128) (y:a < b.length):
 Calls prog 166 #[e,(a:Int)] w fun m A=>m=.returned (.tuple #[.bool (b.getD a false),.int .i64 0])/\Below w.heap.size w A:=by
 have d:=lhd k;have c:=aKx b a;obtain ⟨l,o⟩:=eqx (b.getD a false);rw [o] at c⊢;clear o;have q:=mQ b;have b1:=mL b z;have E:=k.lt;clear k;go_enter func166,ntmps166;go_wp2_with fail;refine (sF e b a _ d.out y).mono ?_;rintro m p ⟨rfl,f⟩;have g:=d.out.below f d.out.lt;have r:p.cell? ⟨e,1,none⟩=some (.int .u64 ((w0 b:Nat):Int)):=(g.cell 1).trans rfl;have s:p.cell? ⟨e,2,none⟩=some (.int .u64 ((w1 b:Nat):Int)):=(g.cell 2).trans rfl;have F:=g.lt;by_cases n:a < 64
 · rw [zBx n] at c;have t:(a:Int).tdiv 64=0:=(by rw [Int.tdiv_eq_ediv_of_nonneg oM];omega);have v:(a:Int).tmod 64=(a:Int):=(by rw [Int.tmod_eq_emod_of_nonneg oM];omega);have x:IntKind.u64.wrap (a:Int)=(a:Int):=(by rw [IntKind.wrap_u64];omega);generalize w0 b=u at*
   obtain ⟨j,i⟩:=hqq2 c f;clear f g s d c;go_wp2_with fail;go_ret2;exact ⟨by rw [aFD u a l q j.out];rfl,i.out⟩
 · rw [zBw n] at c;have t:(a:Int).tdiv 64=1:=(by rw [Int.tdiv_eq_ediv_of_nonneg oM];omega);have v:(a:Int).tmod 64=((a - 64:Nat):Int):=(by rw [Int.tmod_eq_emod_of_nonneg oM];omega);have x:IntKind.u64.wrap ((a - 64:Nat):Int)=((a - 64:Nat):Int):=(by rw [IntKind.wrap_u64];omega);have D:a - 64 < 64:=oM;generalize w1 b=u at*
   generalize a - 64=k2 at*
   obtain ⟨j,i⟩:=hqq2 c f;clear f g r d c;go_wp2_with fail;go_ret2;exact ⟨by rw [aFD u k2 l b1 j.out];rfl,i.out⟩
def tW (a:Nat) (c:List Bool) (e:Nat) (w:World) (f:TreeAt w a c) (z:e < c.length):
 Calls prog 165 #[a,(e:Int)] w fun k D=>k=.returned (.int .i64 0)/\VisK (fun t=>t=a) w D:=by
 have A:∃d,Bk w a 202 d/\3 < d.size:=by obtain ⟨ga,L,⟨rfl,vl,l⟩|⟨H,l,G,E,F,x⟩⟩:=f;exact ⟨_,l,by simp⟩;exact ⟨_,x.tree,by simp⟩
 obtain ⟨d,b,y⟩:=A;have g:=VisK.set_tree b 0;have o:=f.vis g.1;have I:=b.lt;have u:w.cell? ⟨a,3,none⟩=some d[3]:=by rw [b.cell 3];simp [y]
 have v:=b.frozen 3;have J:¬(e:Int) < 0:=oM;obtain ⟨i,j⟩:=hqq2 g o;obtain ⟨s,m⟩:=eqx c.length;have q:=lhd m;have K:¬(s<=e):=oM;clear f g o b m z;go_enter func165,ntmps165;go_wp2_with fail;clear u v;refine (eR a c _ j.out).mono ?_;rintro k M ⟨rfl,n⟩;rw [q.out];have p:=i.out.below n;have r:=lhd p;clear p n i j;go_wp2_with fail;go_ret;exact ⟨rfl,r.out⟩
def aC2 (d:Nat) (a:List Bool) (c:Nat) (w:World) (o:TreeAt w d a) (f:c < a.length):
 Calls prog 113 #[d,(c:Int)] w fun j F=>j=.returned (.tuple #[.bool (a.getD c false),.int .i64 0])/\VisK (fun z=>z=d) w F:=by
 have i:=lhd o;obtain ⟨J,e⟩:=eqx (a.getD c false);rw [e];obtain ⟨x,y⟩:=hqq2 e f;clear o e;go_enter func113,ntmps113;go_wp2_with fail;refine (tW d a c w i.out f).mono ?_;rintro j G ⟨rfl,l⟩;have D:=i.out.vis l.1;have u:=lhd l;clear l i;obtain ⟨ga,E,⟨k,_,_⟩|⟨k,p,A,O,n,b⟩⟩:=D
 · rw [k] at f;simp at f
 clear f;obtain ⟨K,L,M,N,Q,S,T,U,V,W,X,Y⟩:=b.cells;have a2:=b.row.lt;have a0:=b.tree.lt;have a1:d≠A:=b.row.bk_ne b.tree dC;have Z:=b.tree.frozen 3;obtain ⟨g,m⟩:=hqq2 b p;clear b p k;go_wp2_with fail;go_loopw [1,7,8] (fun H I a4 wr=>H=.int .i64 (c:Int)/\I=.int .i64 0/\wr=G) (fun _ _ _ _=>0)
 case atStart=>exact ⟨rfl,rfl,rfl⟩
 case round=>obtain ⟨rfl,rfl,rfl⟩:=hrel;go_wp2_with fail;have r:=Bk.ne g.out.blk g.out.tree dC;have e:=m.out;have s:=(VisK.set_tree g.out.tree (wrap64 (E+1))).alloc (.cells #[.int .i64 (-1),.int .i64 (-1),.int .i64 0,(a.length:Int),.int .i64 ((a.count true:Nat):Int),.int .i64 0,.int .i64 0,n] 205);refine (aBT n a c _ ((g.out.blk.far r _).alloc _) m.out y.out).mono ?_;rintro j a3 ⟨rfl,q⟩;rw [x.out];have t:=(u.out.trans s).below q;have v:=lhd t;clear s q t r e;go_wp2_with fail;go_ret2;exact ⟨rfl,v.out⟩
def aEL (b:Nat) (a:Array Value):Value->World->Prop:=fun _ w=>Bk w b 230 a
def xD (c:Nat) (b:Array Value):Stb (aEL c b):=fun _ _ _ a d=>Bk.below a d (Bk.lt a)
def nG (a:Int) (b c:Nat):Array Value:=#[.int .i64 a,.int .u64 (b:Int),.int .u64 (c:Int)]
def xF (d:Int) (b c a:Nat) (e:a < 2):(nG d b c)[1+a]?=some (.int .u64 (((if a=0 then b else c):Nat):Int)):=by
 obtain rfl | rfl:a=0∨a=1:=oM;rfl;rfl
def xE (c:Int) (d e b a:Nat) (f:a < 2):(nG c d e).setIfInBounds (1+a) (.int .u64 (b:Int))=nG c (if a=0 then b else d) (if a=0 then e else b):=by
 obtain rfl | rfl:a=0∨a=1:=oM;rfl;rfl
def aAs {w:World} {a:Nat} {f:Int} {c d:Nat} (e:Bk w a 230 (nG f c d)) (b:Int):Bk (w.setCell a (.int .i64 b)) a 230 (nG b c d):=e.set 0 _
structure InsI (l l':List Bool) (k:Nat) (b:Bool) (i a:Nat) (bb:Bool) (u0 u1:Nat):Prop where
 at0:i=0->k < 64/\a=k/\bb=b/\u0=w0 l/\u1=w1 l
 at1:i=1->a < 64/\u0=w0 l'/\qO u1 a bb=w1 l'/\u1 < 18446744073709551616
 at2:i=2->u0=w0 l'/\u1=w1 l'
 le:i<=2
def uN (b:Nat) (d:List Bool) (e:Nat) (c:Bool) (w:World) (a7:Bk w b 230 (hQ d)) (aH:d.length<=127) (J:e<=d.length):
 Calls prog 249 #[b,(e:Int),.bool c] w fun n af=>n=.returned (.int .i64 0)/\Bk af b 230 (hQ (aP d e c))/\Keep (fun c=>c=b) w af:=by
 obtain ⟨k,Y⟩:=eqx d.length;have ab:(aP d e c).length=k+1:=by rw [fX _ _ J,Y]
 have H:Bk w b 230 (nG (k:Int) (w0 d) (w1 d)):=by rw [<-Y];exact a7
 have a9:∀O,Bk O b 230 (nG ((k+1:Nat):Int) (w0 (aP d e c)) (w1 (aP d e c)))->Bk O b 230 (hQ (aP d e c)):=fun O r=>by unfold hQ;rw [ab];exact r
 have a3:=mQ d;have T:=mL d oM;have aJ:∃M z:Nat,(e:Int)/ 64=(M:Int)/\(e:Int)% 64=(z:Int)/\InsI d (aP d e c) e c M z c (w0 d) (w1 d):=by by_cases ar:e < 64;exact ⟨0,e,by omega,by omega,fun _=>⟨ar,rfl,rfl,rfl,rfl⟩,fun n=>by omega,fun n=>by omega,by omega⟩;obtain ⟨S,E⟩:=aJ2 d e c J oM oM;exact ⟨1,e - 64,by omega,by omega,fun n=>by omega,fun _=>⟨by omega,S.symm,E.symm,T⟩,fun n=>by omega,by omega⟩
 have ac:∀a o i f g,a < 2->InsI d (aP d e c) e c a o i f g->o < 64/\(if a=0 then f else g) < 18446744073709551616/\InsI d (aP d e c) e c (a+1) 0 ((if a=0 then f else g).testBit 63) (if a=0 then qO f o i else f) (if a=0 then g else qO g o i):=by intro a o i f g aX r;obtain rfl | rfl:a=0∨a=1:=oM;obtain ⟨D,rfl,rfl,rfl,rfl⟩:=r.at0 rfl;obtain ⟨S,E⟩:=aJ1 d o i J oM D;have aC:(w0 d).testBit 63=d.getD 63 false:=(by rw [iZ];simp);simp only [if_true,aC];exact ⟨D,a3,fun n=>by omega,fun _=>⟨by omega,S.symm,E.symm,T⟩,fun n=>by omega,by omega⟩;obtain ⟨D,au,av,aw⟩:=r.at1 rfl;simp only [show ¬((1:Nat)=0) by omega,if_false];exact ⟨D,aw,fun n=>by omega,fun n=>by omega,fun _=>⟨au,av⟩,by omega⟩
 obtain ⟨M,z,aY,aT,a4⟩:=aJ;have aG:¬((e:Int) > (k:Int)):=oM;have aF:decide ((e:Int) < 0)=false:=by simp
 have b0:((k:Int)==128)=false:=by rw [zCb];omega
 have A:w.cell? b=some (.int .i64 (k:Int)):=(H.cell 0).trans rfl;have aV:=H.lt;have b1:k<=127:=oM;obtain ⟨ai,am,ap,ag⟩:=hqq4 H a9 ac a4;clear a7 H a9 a3 T ac a4 ab Y aH J;go_enter func249,ntmps249;go_wp2_with fail;clear A aF aG;go_loopw [2,7,8] (fun j l a1 wr=>∃(a o:Nat) (i:Bool) (f g:Nat),j=.bool i/\l=.int .i64 (o:Int)/\a1=.int .i64 (a:Int)/\InsI d (aP d e c) e c a o i f g/\Bk wr b 230 (nG (k:Int) f g)/\Keep (fun c=>c=b) w wr) (fun _ _ a1 _=>2 -(intOf a1).toNat)
 case atStart=>exact ⟨M,z,c,_,_,rfl,rfl,rfl,ag.out,ai.out,Keep.refl _ _⟩
 case round=>
  obtain ⟨a,s,i,f,g,rfl,rfl,rfl,t,q,K⟩:=hrel;by_cases X:a < 2
  · obtain ⟨aI,ad,U⟩:=ap.out a s i f g X t;have I:=xF (k:Int) f g a X;have Z:=fun l=>xE (k:Int) f g l a X;obtain ⟨j,x⟩:∃j,(if a=0 then f else g)=j:=⟨_,rfl⟩;obtain ⟨l,L⟩:=eqx (qO j s i);obtain ⟨Q,a8⟩:=eqx (nG (k:Int) f g)
    have a5:InsI d (aP d e c) e c (a+1) 0 (j.testBit 63) (if a=0 then l else f) (if a=0 then g else l):=by
        have aA:(if a=0 then qO f s i else f)=if a=0 then l else f:=by
         split
         · rw [<-L,<-x,zBx (by assumption)]
         rfl
        have aB:(if a=0 then g else qO g s i)=if a=0 then g else l:=by
         split;rfl
         · rw [<-L,<-x,zBw (by assumption)]
        rw [x,aA,aB] at U;exact U
    rw [x] at I ad;rw [a8] at I Z q;have aZ:(a:Int) < 2:=oM;obtain ⟨a2,ao,al,aq,ah,N⟩:=hqq6 I Z q L a5 K;clear t U q K I Z x L a8 a5;go_wp2_with fail;refine wp_region_any kR ?_;refine bH [38,39,40,41,42,43,44,45,46,47,48,37,49,50,51,52,53,2] (fun c=>c=b) 17 [7,17] (fun w1=>Bk w1 b 230 Q) (aEL b (Q.setIfInBounds (1+a) (.int .u64 (l:Int)))) [is b,is (a:Int),is b,is (a:Int),is b,is (.pointer (some ⟨b,1,none⟩)),is (.pointer (some ⟨b,1+a,none⟩)),is (.int .u64 (j:Int)),is (s:Int),is (.bool i),is (.tuple #[.int .u64 (l:Int),.bool (j.testBit 63)]),is (.tuple #[.int .u64 (l:Int),.bool (j.testBit 63)]),is (.int .u64 (l:Int)),is (.bool (j.testBit 63)),is b,is (.pointer (some ⟨b,1,none⟩)),is (.pointer (some ⟨b,1+a,none⟩)),dA,is (.bool (j.testBit 63))] _ _ rfl kR kR (al.out) (fun w1 b3 r _ aE=>Bk.below r aE r.lt) (xD _ _) tA0 ?_ ?_
    · refine aO ?_;refine pH3 0 (.pointer (some b)) ?_;refine pH3 8 (.int .i64 (a:Int)) ?_;refine pH3 0 (.pointer (some b)) ?_;refine pH3 8 (.int .i64 (a:Int)) ?_;refine pV3 2 40 ?_;refine pV3 4 42 ?_;refine pW3 5 43 3 41 ?_;refine sC3 (fun _ y _ V _ _ _ m _ _ _ u=>?_) ?_
      · have v:=V rfl;have aL:_=_:=m 6 44 kR rfl;have A:y.cell? ⟨b,1+a,none⟩=some (.int .u64 (j:Int)):=(v.cell (1+a)).trans a2.out;go_simp;exact kq u rfl
      refine pH3 7 (.int .i64 (s:Int)) ?_;refine pH3 2 (.bool i) ?_;refine sC3 (fun _ y _ _ _ _ _ m _ _ _ u=>?_) ?_
      · have aM:_=_:=m 7 45 kR rfl;have aN:_=_:=m 8 46 kR rfl;have aQ:_=_:=m 9 47 kR rfl;go_simp;refine (aIP j s i ad aI y).mono ?_;rintro n b4 ⟨rfl,rfl⟩;rw [aq.out];exact kq u rfl
      refine pV3 10 48 ?_;refine pV3 11 37 ?_;refine pV3 11 37 ?_;refine pV3 0 38 ?_;refine pV3 14 51 ?_;refine pW3 15 52 1 39 ?_;refine sC3 (fun _ y _ V _ _ _ m _ _ _ u=>?_) ?_
      · have v:=V rfl;have aS:_=_:=m 16 53 kR rfl;have aR:_=_:=m 12 49 kR rfl;have A:y.cell? ⟨b,1+a,none⟩=some (.int .u64 (j:Int)):=(v.cell (1+a)).trans a2.out;have az:=v.frozen (1+a);go_simp;exact u (.bool true) _ (aU (Keep.setCell (F:=fun c=>c=b) (Keep.refl _ _) (p:=⟨b,1+a,none⟩) (.inl rfl) _)) (v.set (1+a) _)
      refine pV3 13 50 ?_;exact aD
    · intro ay a0 G m a6;replace G:Keep (fun c=>c=b) wr a0:=kD G;have ax:ay (.tmp 2)=.bool (j.testBit 63):=m 18 2 rfl;obtain ⟨b2,ae⟩:∃aK,(aEL b (Q.setIfInBounds (1+a) (.int .u64 (l:Int)))) aK a0:=a6 17 dC;simp only [zqq];rw [ax];clear m a6;have W:Bk a0 b 230 _:=ae;rw [ao.out] at W;have aa:=N.out.trans G;obtain ⟨ak,an⟩:=hqq2 W aa;clear W aa ae G;go_wp2_with fail;go_roundw
      case rel=>exact ⟨a+1,0,_,_,_,rfl,rfl,by go_num,ah.out,ak.out,an.out⟩
      case measure=>simp [intOf];omega
  · obtain rfl:a=2:=(by have:=t.le;omega);obtain ⟨rfl,rfl⟩:=t.at2 rfl;have A:wr.cell? b=some (.int .i64 (k:Int)):=(q.cell 0).trans rfl;have az:=q.frozen 0;have aW:=q.lt;obtain ⟨aj,N⟩:=hqq2 q K;clear q K t;have E:IntKind.i64.wrap ((k:Int)+1)=((k+1:Nat):Int):=(by rw [IntKind.wrap_i64];omega);go_wp2_with fail;go_ret;exact ⟨rfl,am.out _ (aAs aj.out _),Keep.setCell (F:=fun c=>c=b) N.out (p:=b) (.inl rfl) _⟩
def uO (b:Nat) (c:List Bool) (d:Nat) (w:World) (ae:Bk w b 230 (hQ c)) (X:c.length<=128) (S:d < c.length):
 Calls prog 265 #[b,(d:Int)] w fun z aI=>z=.returned (.tuple #[.bool (c.getD d false),.int .i64 0])/\Bk aI b 230 (hQ (aF c d))/\Keep (fun i=>i=b) w aI:=by
 have ay:=sF b c d w ae S;obtain ⟨j,ai⟩:=eqx c.length;have b1:(aF c d).length+1=j:=by rw [dE _ S,ai]
 have af:Bk w b 230 (nG (j:Int) (w0 c) (w1 c)):=by rw [<-ai];exact ae
 have aw:∀a7,Bk a7 b 230 (nG ((j:Int) - 1) (w0 (aF c d)) (w1 (aF c d)))->Bk a7 b 230 (hQ (aF c d)):=fun a7 G=>by unfold hQ;rw [show (((aF c d).length:Nat):Int)=(j:Int) - 1 by omega];exact G
 have ar:=mQ c;have au:=mL c X;obtain ⟨t,f,bn,aS,bp,aT,b0⟩:∃t f:Nat,(d:Int)/ 64=(t:Int)/\(d:Int)% 64=(f:Int)/\t < 2/\f < 64/\d=64*t+f:=⟨d / 64,d % 64,by omega,by omega,by omega,by omega,by omega⟩;have aG:t=0->w0 (aF c d)=nD (w0 c) f ((w1 c).testBit 0)/\w1 (aF c d)=nD (w1 c) 0 false/\(w0 c).testBit f=c.getD d false:=fun z=>by have x:d=f:=oM;have m:=aKi c d S X oM;rw [gU,zBq,<-x];refine ⟨m.1,m.2,?_⟩;rw [iZ,zBz oM,Bool.true_and]
 have az:t=1->w0 (aF c d)=w0 c/\w1 (aF c d)=nD (w1 c) f false/\(w1 c).testBit f=c.getD d false:=fun z=>by have x:d - 64=f:=oM;have m:=cut_hi c d S X oM;rw [x] at m;refine ⟨m.1,m.2,?_⟩;rw [gU];congr 1;omega
 have aX:=af.lt;have br:j<=128:=oM;have aV:0 < nD 0 0 true:=dC;obtain ⟨ao,aL,aP,aM,aJ,an⟩:=hqq6 af aw aG az ar au;clear ae af aw ar au aG az b1 ai X S aV b0;go_enter func265,ntmps265;go_wp2_with fail;refine ay.mono ?_;rintro z b7 ⟨rfl,ag⟩;have av:=ao.out.below ag aX;have aE:Keep (fun i=>i=b) w b7:=Keep.of_below ag;obtain ⟨aK,aN⟩:=hqq2 av aE;clear ay ag av aE ao;go_wp2_with fail;go_loopw [7,8] (fun e am wr=>∃(a u:Nat) (v:Bool),e=.bool v/\am=.int .i64 (a:Int)/\t<=a/\a < 2/\(a=1->v=false/\u=w1 c)/\(a=0->v=(w1 c).testBit 0/\u=nD (w1 c) 0 false)/\Bk wr b 230 (nG (j:Int) (w0 c) u)/\Keep (fun i=>i=b) w wr) (fun _ am _=>(intOf am).toNat)
 case atStart=>exact ⟨1,w1 c,false,rfl,rfl,by omega,by omega,fun _=>⟨rfl,rfl⟩,fun z=>by omega,aK.out,aN.out⟩
 case round=>
  obtain ⟨a,u,v,rfl,rfl,bo,aB,m,ad,J,W⟩:=hrel;by_cases ax:t < a
  · obtain rfl:a=1:=oM;obtain ⟨rfl,rfl⟩:=m rfl;obtain rfl:t=0:=oM;obtain ⟨a,aA⟩:∃a,a=1:=⟨1,rfl⟩;have l:=xF (j:Int) (w0 c) (w1 c) a oM;have q:=fun k=>xE (j:Int) (w0 c) (w1 c) k a oM;rw [zBw oM] at l;obtain ⟨e,Y⟩:=eqx (w1 c);obtain ⟨k,I⟩:=eqx (nD e 0 false);obtain ⟨E,Q⟩:=eqx (nG (j:Int) (w0 c) (w1 c));have Z:=an.out;rw [Q] at l q J;rw [Y] at l Z;have aH:nD (w1 c) 0 false=k:=(by rw [Y];exact I);obtain ⟨K,aj⟩:=eqx (e.testBit 0);have O:(w1 c).testBit 0=K:=(by rw [Y];exact aj);have aQ:=lhd aj;have aZ:(a:Int) < 2:=oM;obtain ⟨L,a5,a2,a6,aR,a0,a3⟩:=hqq7 l q J I aH O W;have bq:a < 2:=oM;have aC:¬a=0:=oM;have aY:¬(a:Int)<=0:=oM;rw [show ((1:Nat):Int)=(a:Int) by omega];have ap:=lhd aA;have bj:¬(a:Int)<=0:=aY;have bk:(a:Int) > 0:=oM;clear J W l q Y I aH Q m ad O aA ax aj;go_wp2_with fail;refine wp_region_any kR ?_;refine bH [22,23,24,25,26,27,28,29,30,31,21,32,33,34,35,36,7] (fun i=>i=b) 16 [7,16] (fun w1=>Bk w1 b 230 E) (aEL b (E.setIfInBounds (1+a) (.int .u64 (k:Int)))) [is b,is (a:Int),is b,is (a:Int),is b,is (.pointer (some ⟨b,1,none⟩)),is (.pointer (some ⟨b,1+a,none⟩)),is (.int .u64 (e:Int)),is (.bool false),is (.tuple #[.int .u64 (k:Int),.bool K]),is (.tuple #[.int .u64 (k:Int),.bool K]),is (.int .u64 (k:Int)),is (.bool K),is b,is (.pointer (some ⟨b,1,none⟩)),is (.pointer (some ⟨b,1+a,none⟩)),dA,is (.bool K)] _ _ rfl kR kR (a2.out) (fun w1 b5 G _ ah=>Bk.below G ah G.lt) (xD _ _) tA0 ?_ ?_
    · refine aO ?_;refine pH3 0 (.pointer (some b)) ?_;refine pH3 8 (.int .i64 (a:Int)) ?_;refine pH3 0 (.pointer (some b)) ?_;refine pH3 8 (.int .i64 (a:Int)) ?_;refine pV3 2 24 ?_;refine pV3 4 26 ?_;refine pW3 5 27 3 25 ?_;refine sC3 (fun _ r _ H _ _ _ g _ _ _ n=>?_) ?_
      · have o:=H rfl;have b8:_=_:=g 6 28 kR rfl;have V:r.cell? ⟨b,1+a,none⟩=some (.int .u64 (e:Int)):=(o.cell (1+a)).trans L.out;go_simp;exact kq n rfl
      refine pH3 7 (.bool false) ?_;refine sC3 (fun _ r _ _ _ _ _ g _ _ _ n=>?_) ?_
      · have b9:_=_:=g 7 29 kR rfl;have ba:_=_:=g 8 30 kR rfl;go_simp;refine (aDG e 0 false Z oM r).mono ?_;rintro z b6 ⟨rfl,rfl⟩;rw [a6.out,aQ.out];exact kq n rfl
      refine pV3 9 31 ?_;refine pV3 10 21 ?_;refine pV3 10 21 ?_;refine pV3 0 22 ?_;refine pV3 13 34 ?_;refine pW3 14 35 1 23 ?_;refine sC3 (fun _ r _ H _ _ _ g _ _ _ n=>?_) ?_
      · have o:=H rfl;have bc:_=_:=g 15 36 kR rfl;have bb:_=_:=g 11 32 kR rfl;have V:r.cell? ⟨b,1+a,none⟩=some (.int .u64 (e:Int)):=(o.cell (1+a)).trans L.out;have aq:=o.frozen (1+a);go_simp;exact n (.bool true) _ (aU (Keep.setCell (F:=fun i=>i=b) (Keep.refl _ _) (p:=⟨b,1+a,none⟩) (.inl rfl) _)) (o.set (1+a) _)
      refine pV3 12 33 ?_;exact aD
    · intro ac D y g N;replace y:Keep (fun i=>i=b) wr D:=kD y;have ab:ac (.tmp 7)=.bool K:=g 17 7 rfl;obtain ⟨b4,U⟩:∃al,(aEL b (E.setIfInBounds (1+a) (.int .u64 (k:Int)))) al D:=N 16 dC;simp only [zqq];rw [ab];clear g N;have s:Bk D b 230 _:=U;rw [a5.out,zBw aC,zBw aC] at s;have T:=a3.out.trans y;obtain ⟨a1,a4⟩:=hqq2 s T;have M:IntKind.i64.wrap ((a:Int) - 1)=((0:Nat):Int):=(by have:=ap.out;rw [IntKind.wrap_i64];omega);clear s T U y;go_wp2_with fail;go_roundw
      case rel=>exact ⟨0,_,_,rfl,rfl,by omega,by omega,fun z=>by omega,fun _=>⟨a0.out.symm,aR.out.symm⟩,a1.out,a4.out⟩
      case measure=>have:=ap.out;simp [intOf];omega
  · obtain rfl:a=t:=oM
    have aW:∃e:Nat,(nG (j:Int) (w0 c) u)[1+a]?=some (.int .u64 (e:Int))/\e < 18446744073709551616/\(nG (j:Int) (w0 c) u).setIfInBounds (1+a) (.int .u64 ((nD e f v:Nat):Int))=nG (j:Int) (w0 (aF c d)) (w1 (aF c d))/\e.testBit f=c.getD d false:=by
        have l:=xF (j:Int) (w0 c) u a aB;have q:=fun k=>xE (j:Int) (w0 c) u k a aB;obtain A | A:a=0∨a=1:=oM
        · obtain ⟨M,x⟩:=ad A;obtain ⟨a8,a9,aa⟩:=aP.out A;rw [zBx A] at l;refine ⟨w0 c,l,aJ.out,?_,aa⟩;rw [q,zBx A,zBx A,a8,a9,M,x]
        · obtain ⟨M,x⟩:=m A;obtain ⟨a8,a9,aa⟩:=aM.out A;have ak:¬a=0:=oM;rw [zBw ak] at l;refine ⟨u,l,by rw [x];exact an.out,?_,by rw [x];exact aa⟩;rw [q,zBw ak,zBw ak,a8,a9,M,x]
    obtain ⟨e,l,Z,q,O⟩:=aW;obtain ⟨bu,b3⟩:=eqx f;subst b3;have b2:=aT;obtain ⟨k,I⟩:=eqx (nD e f v);obtain ⟨E,Q⟩:=eqx (nG (j:Int) (w0 c) u);rw [I] at q;rw [Q] at l q J;obtain ⟨L,a5,a2,a6,a0,a3⟩:=hqq6 l q J I O W;have bl:¬(a:Int) > (a:Int):=oM;have aZ:(a:Int) < 2:=oM;have bt:IntKind.i64.wrap (a:Int)=(a:Int):=(by rw [IntKind.wrap_i64];omega);have bs:((d:Int)).tmod 64=(f:Int):=(by rw [Int.tmod_eq_emod_of_nonneg oM];exact aS);clear J W l q I Q m ad O ax;go_wp2_with fail;refine wp_region_any kR ?_;refine bH [38,39,40,41,42,43,44,45,46,47,48,49,50,51,37,52,53,54,55,56,7] (fun i=>i=b) 20 [9,20] (fun w1=>Bk w1 b 230 E) (aEL b (E.setIfInBounds (1+a) (.int .u64 (k:Int)))) [is b,is (d:Int),is (a:Int),is b,is (d:Int),is (a:Int),is b,is (.pointer (some ⟨b,1,none⟩)),is (.pointer (some ⟨b,1+a,none⟩)),is (.int .u64 (e:Int)),is (d:Int),is (f:Int),is (.bool v),is (.tuple #[.int .u64 (k:Int),.bool (e.testBit f)]),is (.tuple #[.int .u64 (k:Int),.bool (e.testBit f)]),is (.int .u64 (k:Int)),is (.bool (e.testBit f)),is b,is (.pointer (some ⟨b,1,none⟩)),is (.pointer (some ⟨b,1+a,none⟩)),dA,is (.bool (e.testBit f))] _ _ rfl kR kR (a2.out) (fun w1 b5 G _ ah=>Bk.below G ah G.lt) (xD _ _) tA0 ?_ ?_
    · refine aO ?_;refine pH3 0 (.pointer (some b)) ?_;refine pH3 1 (.int .i64 (d:Int)) ?_;refine pV3 1 39 ?_;refine pH3 0 (.pointer (some b)) ?_;refine pH3 1 (.int .i64 (d:Int)) ?_;refine pV3 4 42 ?_;refine pV3 3 41 ?_;refine pV3 6 44 ?_;refine pW3 7 45 5 43 ?_;refine sC3 (fun _ r _ H _ _ _ g _ _ _ n=>?_) ?_
      · have o:=H rfl;have bd:_=_:=g 8 46 kR rfl;have V:r.cell? ⟨b,1+a,none⟩=some (.int .u64 (e:Int)):=(o.cell (1+a)).trans L.out;go_simp;exact kq n rfl
      refine pH3 1 (.int .i64 (d:Int)) ?_;refine pV3 10 48 ?_;refine pH3 7 (.bool v) ?_;refine sC3 (fun _ r _ _ _ _ _ g _ _ _ n=>?_) ?_
      · have be:_=_:=g 9 47 kR rfl;have bf:_=_:=g 11 49 kR rfl;have bg:_=_:=g 12 50 kR rfl;go_simp;refine (aDG e f v Z b2 r).mono ?_;rintro z b6 ⟨rfl,rfl⟩;rw [a6.out];exact kq n rfl
      refine pV3 13 51 ?_;refine pV3 14 37 ?_;refine pV3 14 37 ?_;refine pV3 0 38 ?_;refine pV3 17 54 ?_;refine pW3 18 55 2 40 ?_;refine sC3 (fun _ r _ H _ _ _ g _ _ _ n=>?_) ?_
      · have o:=H rfl;have bi:_=_:=g 19 56 kR rfl;have bh:_=_:=g 15 52 kR rfl;have V:r.cell? ⟨b,1+a,none⟩=some (.int .u64 (e:Int)):=(o.cell (1+a)).trans L.out;have aq:=o.frozen (1+a);go_simp;exact n (.bool true) _ (aU (Keep.setCell (F:=fun i=>i=b) (Keep.refl _ _) (p:=⟨b,1+a,none⟩) (.inl rfl) _)) (o.set (1+a) _)
      refine pV3 16 53 ?_;exact aD
    · intro ac D y g N;replace y:Keep (fun i=>i=b) wr D:=kD y;have ab:ac (.tmp 7)=.bool (e.testBit f):=g 21 7 rfl;obtain ⟨b4,U⟩:∃al,(aEL b (E.setIfInBounds (1+a) (.int .u64 (k:Int)))) al D:=N 20 dC;simp only [zqq];rw [ab];clear g N;have s:Bk D b 230 _:=U;rw [a5.out] at s;have T:=a3.out.trans y;have V:D.cell? b=some (.int .i64 (j:Int)):=(s.cell 0).trans rfl;have aq:=s.frozen 0;have bm:=s.lt;obtain ⟨a1,a4⟩:=hqq2 s T;have M:IntKind.i64.wrap ((j:Int) - 1)=(j:Int) - 1:=(by rw [IntKind.wrap_i64];omega);rw [a0.out];clear s T U y;go_wp2_with fail;go_ret2;exact ⟨rfl,aL.out _ (aAs a1.out _),Keep.setCell (F:=fun i=>i=b) a4.out (p:=b) (.inl rfl) _⟩
end
end Go.Proofs.YthldmddkfbijhaaGreatDoor
