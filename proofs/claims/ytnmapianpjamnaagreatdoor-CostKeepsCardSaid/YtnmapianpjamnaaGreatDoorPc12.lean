/- Lemmas of the walk. Conditions: each its own. -/
import Derived.Test.YtnmapianpjamnaaGreatDoorPc9
import Derived.Test.YtnmapianpjamnaaGreatDoorProg
import Derived.Test.YtnmapianpjamnaaGreatDoorShl
set_option linter.all false
set_option maxRecDepth 100000
set_option maxHeartbeats 4000000
open Go.Proofs.Tryz
namespace Go.Proofs.YtnmapianpjamnaaGreatDoor
section
open Go.RowKit
@[irreducible] def tcells (L:List Nat):Array Value:=Array.ofFn (n:=258) fun i=>.int .i64 (((if i.val < 257 then L.count i.val else L.length):Nat):Int)
def cV (b:List Nat) {a:Nat} (c:a < 257):(tcells b)[a]?=some (.int .i64 ((b.count a:Nat):Int)):=by
 unfold tcells;rw [Array.getElem?_ofFn,dif_pos oM,zBx c]
def fB (a:List Nat):(tcells a)[257]?=some (.int .i64 ((a.length:Nat):Int)):=by
 unfold tcells;rw [Array.getElem?_ofFn,dif_pos oM];rfl
def dI (a:List Nat):(tcells a).size=258:=by unfold tcells;simp
def lO (c:Array Value) (b:List Nat) (j:c.size=258) (g:∀e,e < 257->c[e]?=some (.int .i64 ((b.count e:Nat):Int))) (i:c[257]?=some (.int .i64 ((b.length:Nat):Int))):c=tcells b:=by
 apply Array.ext_getElem?;intro f;rcases zBe f 257 with a | a
 · rw [g f a,cV b a]
 · rcases Nat.eq_or_lt_of_le a with a | a
   · rw [<-a,i,fB]
   · rw [Array.getElem?_eq_none oM,Array.getElem?_eq_none (by rw [dI];omega)]
def aAb (b:List Nat) (a:Nat) (g:a < 257):((tcells b).setIfInBounds a (.int .i64 (((b.count a+1:Nat)):Int))).setIfInBounds 257 (.int .i64 ((b.length+1:Nat):Int))=tcells (b++ [a]):=by
 apply lO
 · simp [dI]
 · intro e f;rw [zCe oM];by_cases c:a=e
   · subst c;rw [Array.getElem?_setIfInBounds_self_of_lt (by rw [dI];omega)];simp
   rw [zCe c,cV b f];have: [a].count e=0:=(by simp [c]);rw [zCc,this];rfl
 · rw [Array.getElem?_setIfInBounds_self_of_lt (by simp [dI])];simp
def yW (f:Nat) (b:List Nat) (a:Nat) (c:World) (i:Bk c f 236 (tcells b)) (k:a < 257):
 Calls prog 167 #[f,(a:Int)] c fun g w'=>g=.returned (.int .i64 ((b.count a:Nat):Int))/\Below c.heap.size c w':=by
 have e:=lhd i;clear i;go_enter func167,ntmps167;go_wp2_with fail;refine (eP a _ k).mono ?_;rintro g w1 ⟨rfl,j⟩;have o:w1.cell? ⟨f,a,none⟩=some (.int .i64 ((b.count a:Nat):Int)):=((e.out.below j e.out.lt).cell a).trans (cV b k);have p:¬((a:Int) < 0):=oM;have q:((a:Int) < 257):=oM;clear e;go_wp2_with fail;go_ret;exact ⟨rfl,j⟩
def oP (c:List Nat) (b:Nat):c.countP (fun a=>decide (a < b+1))=c.countP (fun a=>decide (a < b))+c.count b:=by
 induction c with
 | nil=>rfl
 | cons a l i=>
   rw [zBn,zBn,List.count_cons,i];by_cases g:a < b;have e:a < b+1:=oM;have f:a≠b:=oM;simp [g,e,f];omega
   · by_cases e:a=b;subst e;simp;omega
     · have f:¬a < b+1:=oM;simp [g,e,f]
def kG (j:Nat) (c:List Nat) (b:Nat) (f:World) (s:Bk f j 236 (tcells c)) (E:b < 257) (z:c.length<=1000):
 Calls prog 168 #[j,(b:Int)] f fun r w'=>r=.returned (.int .i64 ((c.countP (fun e=>decide (e < b)):Nat):Int))/\Below f.heap.size f w':=by
 have q:=lhd s;clear s;have F:max (b:Int) 0=(b:Int):=oM;have G:min (b:Int) 257=(b:Int):=oM;go_enter func168,ntmps168;go_wp2_with fail;go_loopw [5,10] (fun B p wr=>∃a:Nat,a<=b/\p=.int .i64 a/\B=.int .i64 ((c.countP (fun e=>decide (e < a)):Nat):Int)/\Below f.heap.size f wr) (fun _ p _=>b -(intOf p).toNat)
 case atStart=>exact ⟨0,by omega,rfl,by simp,Below.refl _ _⟩
 case round=>
  obtain ⟨a,C,rfl,rfl,g⟩:=hrel;have A:=g.size;by_cases D:a < b
  · go_wp2_with fail;refine (yW j c a wr (q.out.below g q.out.lt) oM).mono ?_;rintro r w1 ⟨rfl,w⟩;have x:=g.trans (w.mono A);have i:=oP c a;have t:c.countP (fun e=>decide (e < a+1))<=1000:=zAk zBh z;obtain ⟨u,k⟩:∃u,c.countP (fun e=>decide (e < a))=u:=⟨_,rfl⟩;obtain ⟨H,o⟩:=eqx (c.count a);rw [i] at t;rw [k,o] at i t;rw [o]
    try rw [k]
    have v:=lhd i;clear i k o;go_wp2_with fail;go_roundw
    case rel=>exact ⟨a+1,by omega,by go_num,by rw [v.out];exact dF oM,x⟩
    case measure=>simp [intOf];omega
  · have y:a=b:=oM;subst y;go_wp2_with fail;go_ret;exact ⟨rfl,g⟩
def nG (a:Nat) (c:List Nat) (b:Nat) (B:World) (g:Bk B a 236 (tcells c)) (q:b < 257) (I:c.length<=1000):
 Calls prog 177 #[a,(b:Int),.int .i64 1] B fun G w'=>G=.returned (.int .i64 0)/\Bk w' a 236 (tcells (c++ [b]))/\Keep (fun i=>i=a) B w':=by
 have w:=lhd g;clear g;have a5:¬((b:Int) < 0):=oM;have a6:((b:Int) < 257):=oM;obtain ⟨f,v⟩:=eqx (c.count b);obtain ⟨n,u⟩:=eqx c.length;have a8:f<=1000:=by rw [<-v];exact zAk zBv I
 rw [u] at I;have z:=aAb c b q;rw [v,u] at z;obtain ⟨J,x,E⟩:=hqq3 z v u;clear z v u;go_enter func177,ntmps177;go_wp2_with fail;refine (eP b _ q).mono ?_;rintro G w1 ⟨rfl,A⟩;have t:=w.out.below A w.out.lt;have S:w1.cell? ⟨a,b,none⟩=some (.int .i64 (f:Int)):=by rw [<-x.out];exact (t.cell b).trans (cV c q)
 have T:w1.cell? ⟨a,257,none⟩=some (.int .i64 (n:Int)):=by rw [<-E.out];exact (t.cell 257).trans (fB c)
 have a9:¬((1:Int) < -(f:Int)):=oM;have aa:¬((1:Int) > 2147483648 -(n:Int)):=oM;obtain ⟨K,M⟩:=hqq2 A t;clear A t w;go_wp2_with fail;refine wp_region_any kR ?_;refine bL [33,34,35,36,37,38,39,40,41,42,43] (fun i=>i=a) 11 [5,11] (fun j=>Bk j a 236 (tcells c)) (fun _ j=>Bk j a 236 ((tcells c).setIfInBounds b (.int .i64 ((f+1:Nat):Int)))) [is a,is (b:Int),is a,is a,is (.pointer (some ⟨a,b,none⟩)),is (f:Int),is (.int .i64 1),is (.int .i64 ((f+1:Nat):Int)),is a,is a,is (.pointer (some ⟨a,b,none⟩)),cR] _ _ rfl kR kR (M.out) (fun j ac g _ O=>Bk.below g O g.lt) (fun _ _ _ g P=>Bk.below g P g.lt) tA0 ?_ ?_
 · refine aZ ?_;refine pH3 0 (.pointer (some a)) ?_;refine pH3 1 (.int .i64 (b:Int)) ?_;refine pV3 0 33 ?_;refine pV3 2 35 ?_;refine pW3 3 36 1 34 ?_;refine sC3 (fun _ C _ y _ _ _ e _ _ _ k=>?_) ?_
   · have o:=y rfl;have X:_=_:=e 4 37 kR rfl;have V:C.cell? ⟨a,b,none⟩=some (.int .i64 (f:Int)):=(by rw [<-x.out];exact (o.cell b).trans (cV c q));go_simp;exact kq k rfl
   refine pH3 2 (.int .i64 1) ?_;refine sC3 (fun _ _ _ _ _ _ _ e _ _ _ k=>?_) ?_
   · have Y:_=_:=e 5 38 kR rfl;have Z:_=_:=e 6 39 kR rfl;go_simp;exact k _ _ (aG bR) (dF (by rw [IntKind.wrap_i64];omega))
   refine pV3 0 33 ?_;refine pV3 8 41 ?_;refine pW3 9 42 1 34 ?_;refine sC3 (fun _ C _ y _ _ _ e _ _ _ k=>?_) ?_
   · have o:=y rfl;have a1:_=_:=e 10 43 kR rfl;have a0:_=_:=e 7 40 kR rfl;have W:C.cell? ⟨a,b,none⟩=some (.int .i64 (f:Int)):=(by rw [<-x.out];exact (o.cell b).trans (cV c q));have a4:=o.frozen b;go_simp;exact k (.bool true) _ (aW (Keep.setCell (F:=fun i=>i=a) (Keep.refl _ _) (p:=⟨a,b,none⟩) (.inl rfl) _)) (o.set b _)
   exact aH
 · intro a2 D s e H;replace s:Keep (fun i=>i=a) w1 D:=kD s;obtain ⟨ab,r⟩:∃Q,(fun _ j=>Bk j a 236 ((tcells c).setIfInBounds b (.int .i64 ((f+1:Nat):Int)))) Q D:=H 11 dC;simp only [zqq];clear e H;have U:D.cell? ⟨a,257,none⟩=some (.int .i64 (n:Int)):=(by refine (r.cell 257).trans ?_;rw [zCe oM,<-E.out];exact fB c);have a3:=r.frozen 257;obtain ⟨N,L⟩:=hqq2 r s;have a7:=r.lt;clear r s;go_wp2_with fail;go_ret;refine ⟨rfl,?_,?_⟩;rw [<-J.out];exact N.out.set 257 _;exact ((Keep.of_below K.out).trans L.out).setCell (.inl rfl) _
def aAa:tcells []=Tryz.zeroCells236:=by kernel_rfl
def wJ (t:Option Addr) (m I u:Nat) (c:List Nat) (b:World) (q:Rd b u 1 t m (c.map sv)) (hB:u<=b.heap.size) (V:m<=1000) (w:∀f∈c,f < 257):
 Calls prog 166 #[.slice t m I] b fun o w'=>∃e,o=.returned (.tuple #[.pointer (some ⟨e,0,none⟩),.int .i64 0])/\b.heap.size<=e/\Bk w' e 236 (tcells c)/\Below b.heap.size b w':=by
 have z:c.length=m:=by simpa using q.1
 obtain ⟨G,D,v,C⟩:=hqq4 q w z hB;clear q w z;go_enter func166,ntmps166;go_wp2_with fail;obtain ⟨e,x⟩:=eqx b.heap.size;have L:Bk (b.alloc (.cells Tryz.zeroCells236 236)) e 236 (tcells (c.take 0)):=by rw [List.take_zero,aAa,<-x];exact Bk.new _ _ _
 have J:=(Below.refl b.heap.size b).alloc nL (.cells Tryz.zeroCells236 236)
 try rw [x]
 go_loopw [12] (fun s wr=>∃a:Nat,a<=m/\s=.int .i64 a/\Bk wr e 236 (tcells (c.take a))/\Below b.heap.size b wr) (fun s _=>m -(intOf s).toNat)
 case atStart=>exact ⟨0,by omega,rfl,L,J⟩
 case round=>
  obtain ⟨a,U,rfl,i,g⟩:=hrel;have Q:=g.size;by_cases A:a < m
  · have N:a < c.length:=(by rw [v.out];exact A);obtain ⟨f,j⟩:∃f,c[a]?=some f:=⟨c[a],zAa N⟩;obtain ⟨H,W,X,rfl,T,r,M⟩:=((G.out.mono C.out).below g).get A;rw [zAf,j] at r;simp at r;subst r;have P:f < 257:=D.out f (zAd j);have B:c.take (a+1)=c.take a++ [f]:=(by rw [zAv,j];rfl);have S:(c.take a).length<=1000:=(by rw [zAj];omega);unfold sv at M;obtain ⟨E,k⟩:=hqq2 B i;clear B i j;go_wp2_with fail;refine (nG e (c.take a) f _ k.out P S).mono ?_;rintro o w1 ⟨rfl,p,y⟩;have K:Below b.heap.size b w1:=g.trans (y.to_below Q (fun H g o=>by omega));rw [<-E.out] at p;have F:=lhd p;clear p y;go_wp2_with fail;go_roundw
    case rel=>exact ⟨a+1,by omega,by go_num,F.out,K⟩
    case measure=>simp [intOf];omega
  · have O:a=m:=oM;subst O;rw [zAg (by rw [v.out];omega)] at i;have k:=lhd i;clear i;go_wp2_with fail;go_ret2;exact ⟨e,rfl,by omega,k.out,g⟩
def aF (a:List Nat) (lv b:Nat):List Bool:=(a.filter fun c=>aP c lv==b).map (eH · lv)
def kT (a lv:Nat) (f:lv < 9):aP a (lv+1)=2*aP a lv+(if eH a lv then 1 else 0):=by
 unfold aP eH;have c:9 -(lv+1)=8 - lv:=oM;have e:9 - lv=(8 - lv)+1:=oM;rw [c,e,Nat.pow_succ,<-Nat.div_div_eq_div_mul];generalize a / 2 ^(8 - lv)=q;by_cases b:q % 2=1;simp [b];omega;simp [b];omega
def kS (a:Nat) (b:a < 257):aP a 0=0:=by
 unfold aP;exact Nat.div_eq_of_lt oM
def kU (a:Nat):aP a 9=a:=by
 unfold aP;simp
def iY (a lv:Nat) (b:a < 257) (c:lv<=9):aP a lv < 2 ^ lv:=by
 unfold aP;rw [Nat.div_lt_iff_lt_mul (Nat.pos_of_ne_zero (by simp)),<-Nat.pow_add,show lv+(9 - lv)=9 by omega];omega
def aAP (e:List Nat) (lv a:Nat) (j:lv < 9):(aF e lv (aP a lv)).count (eH a lv)=e.countP (fun o=>aP o (lv+1)==aP a (lv+1)):=by
 induction e with
 | nil=>rfl
 | cons b l k=>
   have f:=kT b lv j;have g:=kT a lv j;unfold aF at k⊢;rw [zBn,<-k,List.filter_cons];by_cases c:aP b lv=aP a lv
   · rw [zBx (by simp [c]),List.map_cons,List.count_cons];by_cases i:eH b lv=eH a lv
     · have:aP b (lv+1)=aP a (lv+1):=(by rw [f,g,c,i]);simp [i,this]
     · have:aP b (lv+1)≠aP a (lv+1):=(by rw [f,g,c];cases p:eH b lv <;> cases q:eH a lv <;> simp_all);simp [i,this]
   · rw [zBw (by simp [c])];have:aP b (lv+1)≠aP a (lv+1):=(by rw [f,g];cases eH b lv <;> cases eH a lv <;> simp <;> omega);simp [this]
def aB8 (c:List Nat) (lv b a:Nat):(aF c lv b).take ((c.take a).countP fun j=>aP j lv==b)=aF (c.take a) lv b:=by
 induction c generalizing a with
 | nil=>simp [aF]
 | cons f l i=>
   rcases a with _ | a
   · simp [aF]
   · have:=i a;unfold aF at this⊢;rw [List.take_succ_cons,zBn,List.filter_cons,List.filter_cons];by_cases e:aP f lv=b
     · simp only [e,beq_self_eq_true,if_true,List.map_cons,List.take_succ_cons,this]
     · have g:(aP f lv==b)=false:=(by simp [e]);simp only [g,Bool.false_eq_true,if_false,zBq,this]
def eW (a:List Nat) (lv b:Nat):(aF a lv b).length=a.countP fun c=>aP c lv==b:=by
 unfold aF;rw [zBc,List.countP_eq_length_filter]
def dZ (a:List Nat) (b e lv:Nat):Nat:=(a.take b).countP fun c=>aP c lv==aP e lv
def iP (a:List Nat) (b e:Nat) (j:b<=a.length) (f:∀c∈a,c < 257) (g:e < 257):dZ a b e 0=b:=by
 unfold dZ;rw [List.countP_eq_length.2 (fun c i=>by
  have:=f c (List.mem_of_mem_take i);simp [kS _ this,kS _ g]),zAj]
 omega
def iQ (b:List Nat) (c a lv:Nat) (e:lv < 9):((aF b lv (aP a lv)).take (dZ b c a lv)).count (eH a lv)=dZ b c a (lv+1):=by
 unfold dZ;rw [aB8,aAP _ _ _ e]
def aBs (a:List Nat) (b c lv:Nat):dZ a b c lv<=(aF a lv (aP c lv)).length:=by
 unfold dZ;rw [eW];exact (List.take_sublist b a).countP_le
def tW (a:List Nat) (b c:Nat):dZ a b c 9=(a.take b).count c:=by
 unfold dZ;rw [List.count_eq_countP];congr 1;funext s;rw [kU,kU]
def cO (b:Nat->Nat) (lv m:Nat):List Value:=(List.range m).flatMap fun a=> [.pointer (some ⟨b a,0,none⟩),.int .i64 (lv:Int),.int .i64 (a:Int)]
def fK (a:Nat->Nat) (lv m:Nat):cO a lv (m+1)=cO a lv m++ [.pointer (some ⟨a m,0,none⟩),.int .i64 (lv:Int),.int .i64 (m:Int)]:=by
 unfold cO;rw [List.range_succ,List.flatMap_append];simp
def pR (a:Nat->Nat) (lv m:Nat):(cO a lv m).length=m*3:=by
 induction m with
 | zero=>rfl
 | succ m b=>rw [fK,zAi,b];simp;omega
def dV (b:Nat->Nat) (lv m a:Nat) (k:a < m):(cO b lv m)[a*3]?=some (.pointer (some ⟨b a,0,none⟩))/\(cO b lv m)[a*3+1]?=some (.int .i64 (lv:Int))/\(cO b lv m)[a*3+2]?=some (.int .i64 (a:Int)):=by
 induction m with
 | zero=>omega
 | succ m j=>
   rw [fK];by_cases e:a=m;subst e;have c:=pR b lv a;refine ⟨?_,?_,?_⟩;rw [zAo oM,c,Nat.sub_self];rfl;rw [zAo oM,c,show a*3+1 - a*3=1 by omega];rfl;rw [zAo oM,c,show a*3+2 - a*3=2 by omega];rfl;have c:=pR b lv m;obtain ⟨f,g,i⟩:=j oM;refine ⟨?_,?_,?_⟩;rw [zAn oM];exact f;rw [zAn oM];exact g;rw [zAn oM];exact i
def uM (b c:Nat->Nat) (lv m:Nat) (e:∀a,a < m->b a=c a):cO b lv m=cO c lv m:=by
 induction m with
 | zero=>rfl
 | succ m f=>rw [fK,fK,f (fun a g=>e a oM),e m oM]
def ShelfRow (e:World) (c:Nat) (g:Value) (f:List Nat) (lv m:Nat):Prop:=
 ∃(b:Nat->Nat),e.ownsRow c 143 3 g m (cO b lv m)/\∀a,a < m->c<=b a/\TreeAt e (b a) (aF f lv a)
def ShelfRow.vis {j w':World} {a:Nat} {i:Value} {b:List Nat} {lv m:Nat} (o:ShelfRow j a i b lv m) (f:Vis j w'):ShelfRow w' a i b lv m:=by
 obtain ⟨k,p,c⟩:=o;exact ⟨k,f.own p dC dC,fun g e=>⟨(c g e).1,(c g e).2.vis f⟩⟩
def ShelfRow.below {a w':World} {B:Nat} {c:Value} {b:List Nat} {lv m:Nat} (e:ShelfRow a B c b lv m) (f:Below a.heap.size a w'):ShelfRow w' B c b lv m:=e.vis (Vis.of_below f)
def WaveAt (f:World) (a e:Nat) (b:List Nat):Prop:=
 a<=e/\∃(c:Nat->Value) (g:Int),Bk f e 135 (wcells c (b.length:Int) g)/\∀lv,lv < 9->ShelfRow f a (c lv) b lv (2 ^ lv)
def WaveAt.vis {f w':World} {a c:Nat} {b:List Nat} (i:WaveAt f a c b) (e:Vis f w'):WaveAt w' a c b:=by
 obtain ⟨j,g,s,k,o⟩:=i;obtain ⟨r,p⟩:=e.waveC k;exact ⟨j,g,r,p,fun lv q=>(o lv q).vis e⟩
def WaveAt.below {a w':World} {B c:Nat} {b:List Nat} (e:WaveAt a B c b) (f:Below a.heap.size a w'):WaveAt w' B c b:=e.vis (Vis.of_below f)
abbrev VB (a:Nat):World->World->Prop:=VisK (fun b=>a<=b)
def bD {b:Nat} {c w':World} (a:VB b c.drew w'):VB b c w':=⟨⟨a.1.os,a.1.tape,a.1.output,a.1.size,a.1.block⟩,⟨a.2.os,a.2.tape,a.2.output,a.2.size,a.2.block⟩⟩
def VB.to_below {a:Nat} {b w':World} (e:VB a b w') (hB:a<=b.heap.size):Below a b w':=e.2.to_below hB (fun f g c=>by have:=c;omega)
def VB.set_wave {c:World} {b a:Nat} {g:Array Value} (i:Bk c a 135 g) (hB:b<=a) (e:Int):VB b c (c.setCell ⟨a,10,none⟩ (.int .i64 e)):=⟨Vis.set_wave i e,Keep.setCell (F:=fun f=>b<=f) (Keep.refl _ _) (p:=⟨a,10,none⟩) (.inl hB) _⟩
end
section
open Go.RowKit Go
open Go.Sort (SortedIn PermIn SWO Holds)
def xN (n:Nat) (j:n<=1000000) (a:World):(Instr.makeSlice 27 (.int .i64 (n:Int)) (.int .i64 (n:Int))).run prog a=.ok (.slice (some a.heap.size) n n) (a.alloc (.cells (Array.replicate n (.int .i64 0)) 3)):=by
 obtain ⟨i,c,e,f,g⟩:=info_parts fN;have:=run_make (P:=prog) a 27 3 i (.int .i64 0) underlying27 c e .i64 .i64 n n oM (Int.le_refl _) (by rw [g];omega) oM;rw [this,f];have b:madeCells #[.int .i64 0] n=Array.replicate n (.int .i64 0):=by apply Array.ext';rw [toList_madeCells_one];simp
 simp only [Value.cells,zBr,zBl];rw [b]
def fQ (n b:Nat):Array Value:=((List.range n).map fun a=>Value.int .i64 (((if a < b then a else 0:Nat)):Int)).toArray
def qP (n a:Nat):(fQ n a).size=n:=by simp [fQ]
def aAD (n:Nat):fQ n 0=Array.replicate n (.int .i64 0):=by
 apply Array.ext
 · simp [fQ]
 · intro c a b;simp [fQ]
def aAE (n a:Nat) (g:a < n):(fQ n a).setIfInBounds a (.int .i64 (a:Int))=fQ n (a+1):=by
 apply Array.ext
 · simp [fQ]
 · intro e i f;rw [Array.getElem_setIfInBounds (by simpa [fQ] using f)];by_cases b:a=e
   · subst b;simp [fQ]
   · rw [zBw b];simp only [fQ,List.getElem_toArray,List.getElem_map,List.getElem_range];by_cases c:e < a
     · rw [zBx c,zBx oM]
     · rw [zBw c,zBw oM]
def aBW (m:Nat):fQ (m+1) (m+1)=(pX m).map (dP m):=by
 apply Array.ext
 · simp [fQ,pX]
 · intro c a e;have b:c < m+1:=(by simpa [fQ] using a);simp [fQ,pX,dP,b]
def aEf {f:World} {b:Nat} {e:TypeId} {a:Array Value} {n c:Nat} (k:Bk f b e a) (hB:c<=b) (j:a.size=n) (g:n<=maxLen):Made f c e 1 (some ⟨b,0,none⟩) n n a.toList:=by
 have i:f.ownsRow c e 1 (.slice (some b) n n) n a.toList:=⟨by simp [j],.inr ⟨b,n,a,rfl,hB,k,zAs _,g,by omega,by rw [zAg (by simp [j])]⟩⟩;exact ⟨i,Rd.of_own i,zAs _,g⟩
def aDW {m:Nat} (d:Array (Fin (m+1))):(d.map (dP m)).toList=(d.toList.map (·.val)).map sv:=by
 simp [dP,sv]
def tM {f:Array Value} {c e:Nat->Nat} {b g:Nat} (j:∀a,a < b->f[c a]?=some (.int .i64 ((e a:Nat):Int))) (o:c b < f.size) (k:∀a,a < b->c a≠c b) (p:e b=g) (a:Nat) (r:a < b+1):(f.setIfInBounds (c b) (.int .i64 (g:Int)))[c a]?=some (.int .i64 ((e a:Nat):Int)):=by
 by_cases i:a=b
 · subst i;rw [zCd,zBx rfl,zBx o,p]
 rw [zCd,zBw (fun q=>k a oM q.symm)];exact j a oM
structure RInv (B0:Nat) (w0:World) (m n:Nat) (l:List Nat) (gn gr gx:Nat) (wr:World) (gw g6 g7 c6 c7 wd:Nat) (d:Array (Fin (m+1))) (R:List Nat):Prop where
 wide:Bk wr gw 3 #[(wd:Int)]
 len:Bk wr gn 3 #[(n:Int)]
 box:Bk wr gr 27 #[.slice (some g6) n c6]
 rank:∃cs:Array Value,Bk wr g6 3 cs/\n<=cs.size/\∀(j:Nat) u,(R.map sv)[j]?=some u->cs[j]?=some u
 next:∃cs:Array Value,Bk wr g7 3 cs/\n<=cs.size
 rows:Bk wr gx 3 (d.map (dP m))
 ok:RowsOk m d
 ap:gx≠gw/\gx≠gn/\gx≠g6/\gx≠g7/\g7≠gw/\g7≠gn/\g7≠g6/\g6≠gw/\g6≠gn
 lo:B0<=gx/\B0<=g6/\B0<=g7/\B0<=gr
 cap:n<=c6/\n<=c7
 rlen:R.length=n
 rle:∀r∈R,r<=1000
 rk:RankOk (aN l) (aN R) wd
 wd1:1<=wd
 wdn:wd<=n
 below:Below B0 w0 wr
structure SetT (B:Nat) (T:TypeId) (w w':World):Prop where
 below:Below B w w'
 other:∀b t cs,t≠T->Bk w b t cs->Bk w' b t cs
 one:∀b c,Bk w b T #[c]->∃c',Bk w' b T #[c']
def SetT.set {g:Nat} {i:TypeId} {f:World} {a:Nat} {k:Value} (q:Bk f a i #[k]) (r:g<=a) (e:Value):SetT g i f (f.setCell a e):=by
 refine ⟨bR.setCell r _,fun j t s ht b=>?_,fun j o b=>?_⟩;exact b.far (fun c=>ht (by subst c;exact (aJ b q).1)) _;by_cases c:j=a;subst c;exact ⟨e,b.set 0 e⟩;exact ⟨o,b.far (p:=a) c _⟩
section
variable {B0 : Nat} {w0 : World} {m n : Nat} {l : List Nat} {gn gr gx : Nat} {wr w' : World} {gw g6 g7 c6 c7 wd : Nat} {d d' : Array (Fin (m + 1))} {R : List Nat}
def xQ {f:World} {e n:Nat} {R:List Nat} (k:R.length=n) (i:∃a:Array Value,Bk f e 3 a/\n<=a.size/\∀(b:Nat) c,(R.map sv)[b]?=some c->a[b]?=some c):Rd f f.heap.size 1 (some ⟨e,0,none⟩) n (R.map sv):=by
 obtain ⟨a,g,p,j⟩:=i;refine ⟨by simp [k],fun _=>⟨e,0,rfl,g.lt,fun b c o=>?_⟩⟩;rw [zBi,g.cell];exact j b c o
def RInv.ordk (a:RInv B0 w0 m n l gn gr gx wr gw g6 g7 c6 c7 wd d R) (b:Keep (fun g=>g=gx) wr w'):OrdAt w' gw gn gr wd n (some ⟨g6,0,none⟩) c6 R:=by
 obtain ⟨c,e,f,p,q,r,s,t,u⟩:=a.ap;obtain ⟨i,j,k,o⟩:=a.rank;exact ⟨((b.bk a.wide c.symm).cell 0).trans rfl,((b.bk a.len e.symm).cell 0).trans rfl,((b.bk a.box (Bk.ne a.box a.rows dC)).cell 0).trans rfl,xQ a.rlen ⟨i,b.bk j f.symm,k,o⟩⟩
def RInv.keepx (a:RInv B0 w0 m n l gn gr gx wr gw g6 g7 c6 c7 wd d R) (b:Keep (fun c=>c=gx) wr w') (u:Bk w' gx 3 (d'.map (dP m))) (t:RowsOk m d'):RInv B0 w0 m n l gn gr gx w' gw g6 g7 c6 c7 wd d' R:=by
 obtain ⟨e,f,g,i,v,w,x,y,z⟩:=a.ap;obtain ⟨j,o,p,q⟩:=a.rank;obtain ⟨k,r,s⟩:=a.next
 exact ⟨b.bk a.wide e.symm,b.bk a.len f.symm,b.bk a.box (Bk.ne a.box a.rows dC),⟨j,b.bk o g.symm,p,q⟩,⟨k,b.bk r i.symm,s⟩,u,t,a.ap,a.lo,a.cap,a.rlen,a.rle,a.rk,a.wd1,a.wdn,
  a.below.trans (b.to_below (by have:=a.lo.1;have:=a.rows.lt;omega) (fun c B A=>by have:=a.lo.1;omega))⟩
def RInv.keep7 (a:RInv B0 w0 m n l gn gr gx wr gw g6 g7 c6 c7 wd d R) (b:Keep (fun e=>e=g7) wr w') (r:∃c:Array Value,Bk w' g7 3 c/\n<=c.size):RInv B0 w0 m n l gn gr gx w' gw g6 g7 c6 c7 wd d R:=by
 obtain ⟨s,t,u,f,g,i,j,v,w⟩:=a.ap;obtain ⟨c,k,o,p⟩:=a.rank;obtain ⟨x,q,z⟩:=a.next
 exact ⟨b.bk a.wide g.symm,b.bk a.len i.symm,b.bk a.box (Bk.ne a.box q dC),⟨c,b.bk k j.symm,o,p⟩,r,b.bk a.rows f,a.ok,a.ap,a.lo,a.cap,a.rlen,a.rle,a.rk,a.wd1,a.wdn,
  a.below.trans (b.to_below (by have:=a.lo.1;have:=a.rows.lt;omega) (fun e A y=>by have:=a.lo.2.2.1;omega))⟩
def RInv.grow (a:RInv B0 w0 m n l gn gr gx wr gw g6 g7 c6 c7 wd d R) (c:Below wr.heap.size wr w'):RInv B0 w0 m n l gn gr gx w' gw g6 g7 c6 c7 wd d R:=
 a.keep7 (Keep.of_below c) (by
  obtain ⟨e,b,f⟩:=a.next;exact ⟨e,b.below c b.lt,f⟩)
end
def kH (G:Option Addr) (m k ce:Nat) (K:List UInt8) (B:World) (a3:Rd B ce 1 G m (K.map bv)) (hB:ce<=B.heap.size) (fb:m<=895):
 Calls prog 72 #[.slice G m k] B fun q w'=>∃dB ar a8,IsSuf (aY K) dB/\q=.returned (.slice ar (m+1) a8)/\Made w' B.heap.size 3 1 ar (m+1) a8 (dB.map sv)/\Below B.heap.size B w':=by
 have dp:K.length=m:=by simpa using a3.1
 obtain ⟨dI,cA⟩:=hqq2 a3 dp;clear a3 dp;go_enter func72,ntmps72;go_wp2_with fail;obtain ⟨n,bU⟩:=eqx (m+1);have c0:=rJ B.heap.size 0 G m k B.heap.size K (B.alloc (.cells #[.slice G m k] 22)) (Bk.new _ _ _) ((dI.out.mono hB).alloc nL _) (by simp) oM;rw [bU] at c0;have fd:n<=896:=oM;have ed:1<=n:=oM;have u:=lhd bU;clear bU;refine c0.mono ?_;clear c0;rintro q w1 ⟨bg,bA,rfl,dg,d0⟩;have d1:=((Below.refl B.heap.size B).alloc nL _).trans (d0.mono (by simp));obtain ⟨cu,aD⟩:=hqq2 dg d1;clear dg d0 d1;go_wp2_with fail;obtain ⟨gn,aX⟩:=eqx w1.heap.size;have az:Bk (w1.alloc (.cells #[(n:Int)] 3)) gn 3 #[(n:Int)]:=aX ▸ Bk.new _ _ _;have b5:=cu.out.below (bR.alloc nL (.cells #[(n:Int)] 3));have bG:=aD.out.alloc aD.out.size (.cells #[(n:Int)] 3);have bF:=b5.rd;have eU:B.heap.size<=gn:=aX ▸ aD.out.size;rw [aX];generalize w1.alloc (.cells #[(n:Int)] 3)=W0 at az b5 bG bF⊢;clear cu aD aX;have d5:=az.cell 0;have dt:=az.lt;have bp:Hid (W0.cell? gn=some (.int .i64 (n:Int))):=lhd d5;obtain ⟨bq,ck,dF,aC,bl⟩:=hqq5 dt bF b5 bG az;clear d5 dt bF b5 bG az;refine wp_region_any kR ?_;refine zT [18,19,20,21,22,23,6,5,7] [6,19,21,23] 8 (SetT W0.heap.size 27) (Below W0.heap.size W0) [k0 (is (n:Int)),k0 (fun e s=>∃b,e=.slice (some ⟨b,0,none⟩) n n/\W0.heap.size<=b/\Bk s b 3 (Array.replicate n (.int .i64 0))),k0 (is (.slice bg n bA)),k0 (fun e s=>∃G k,e=.slice G n k/\Made s W0.heap.size 3 1 G n k ((aY K).map sv)),k0 (is (n:Int)),k0 (fun e s=>∃b,e=.slice (some ⟨b,0,none⟩) n n/\W0.heap.size<=b/\Bk s b 3 (Array.replicate n (.int .i64 0))),k0 (fun e s=>∃b k,e=.pointer (some ⟨b,0,none⟩)/\W0.heap.size<=b/\Bk s b 27 #[k]),kEq 19,kLk 6 21 (fun a4 e s=>∃b,a4=.pointer (some ⟨b,0,none⟩)/\W0.heap.size<=b/\Bk s b 27 #[e]),kEq 23] _ _ rfl kR kR (bR.drew) (aAS rfl) (fun B w' H a=>a.elim (fun a=>H.trans (a.mono H.size)) (fun a=>H.trans a.below)) (by repeat' (first | exact aDq _ | exact aEk _ | exact aEj _ _ _ |(refine zAe.2 ⟨?_,?_⟩)|(intro F Q;cases Q))) (by repeat' (first | exact aA5 _ _ | exact xK _ | exact xJ _ _ | exact iW (fun _ _ _ ⟨b,y,r,z⟩ a=>⟨b,y,r,z.below a z.lt⟩)| exact iW (fun _ _ _ ⟨G,k,y,r⟩ a=>⟨G,k,y,r.below a⟩)| exact iW (fun _ _ _ ⟨b,k,y,r,z⟩ a=>⟨b,k,y,r,z.below a z.lt⟩)| exact iW (fun _ _ _ _ ⟨b,y,r,z⟩ a=>⟨b,y,r,z.below a z.lt⟩)| exact mG (fun _ _ _ ⟨b,y,r,z⟩ a=>⟨b,y,r,z.below a z.lt⟩)| exact mG (fun _ _ _ ⟨G,k,y,r⟩ a=>⟨G,k,y,r.below a⟩)| exact mG (fun _ _ _ ⟨b,k,y,r,z⟩ a=>⟨b,k,y,r,z.below a z.lt⟩)| exact mG (fun _ _ _ _ ⟨b,y,r,z⟩ a=>⟨b,y,r,z.below a z.lt⟩)|(refine zAe.2 ⟨?_,?_⟩)|(intro F Q;cases Q))) (by simp only [List.eraseIdx_cons_zero,List.eraseIdx_cons_succ,List.eraseIdx_nil];repeat' (first | exact aA5 _ _ | exact xK _ | exact xJ _ _ | exact iW (fun _ _ _ ⟨b,y,r,z⟩ a=>⟨b,y,r,a.other _ _ _ dC z⟩)| exact iW (fun _ _ _ ⟨G,k,y,r⟩ a=>⟨G,k,y,tN r fun S C W=>a.other _ _ _ dC W⟩)| exact iW (fun _ _ _ ⟨b,k,y,r,z⟩ a=>let ⟨a8,cT⟩:=a.one _ _ z;⟨b,a8,y,r,cT⟩)|(refine zAe.2 ⟨?_,?_⟩)|(intro F Q;cases Q))) ?_ ?_
 · refine aZ ?_;refine aS (eD rfl rfl fun x _ I _ _ _ A _ _ _ _ J=>?_) ?_
   · obtain ⟨D,P⟩:=I;have e0:x (.tmp 4)=.pointer (some gn):=A 4 kR;clear A;have e7:=(D.cell (p:=gn) bq.out).trans bp.out;go_simp;exact J _ _ (gL bR rfl rfl) rfl
   refine aS (eD rfl rfl fun _ _ I _ _ _ A E _ _ _ J=>?_) ?_
   · obtain ⟨D,P⟩:=I;have eG:_=_:=E 0 18 kR rfl;clear A;have em:=xN n oM;go_simp;exact J _ _ (kY (bR.alloc nL _) rfl (fun b N=>by simp [blk?] at N;subst N;simp)) ⟨_,rfl,D.size,Bk.new _ _ _⟩
   refine aS (eD rfl rfl fun x _ I _ _ _ A _ _ _ _ J=>?_) ?_
   · obtain ⟨D,P⟩:=I;have eJ:x (.tmp 3)=.slice bg n bA:=A 3 kR;clear A;go_simp;exact J _ _ (gL bR rfl rfl) rfl
   refine aS (eD rfl rfl fun _ _ I _ _ _ A E cE _ _ J=>?_) ?_
   · obtain ⟨D,P⟩:=I;have eH:_=_:=E 2 20 kR rfl;clear A;go_simp;refine (sU bg n bA W0.heap.size (aY K) _ (ck.out.below D) D.size oM).mono ?_;rintro q fx ⟨ar,a8,rfl,bT,e5⟩;refine J _ _ (kY e5 rfl (fun b N=>?_)) ⟨ar,a8,rfl,bT.mono D.size⟩;obtain ⟨_,_,_,_,fm⟩:=aM bT.own;rcases ar with _ | cE
     · simp [blk?] at N
     obtain ⟨et,dU,a2,_,aW⟩:=aM bT.own;injection a2 with a2;have:=aW cE a2.symm;simp [blk?] at N;subst N;exact this
   refine aS (eD rfl rfl fun x _ I _ _ _ A _ _ _ _ J=>?_) ?_
   · obtain ⟨D,P⟩:=I;have e0:x (.tmp 4)=.pointer (some gn):=A 4 kR;clear A;have e7:=(D.cell (p:=gn) bq.out).trans bp.out;go_simp;exact J _ _ (gL bR rfl rfl) rfl
   refine aS (eD rfl rfl fun _ _ I _ _ _ A E _ _ _ J=>?_) ?_
   · obtain ⟨D,P⟩:=I;have eI:_=_:=E 4 22 kR rfl;clear A;have em:=xN n oM;go_simp;exact J _ _ (kY (bR.alloc nL _) rfl (fun b N=>by simp [blk?] at N;subst N;simp)) ⟨_,rfl,D.size,Bk.new _ _ _⟩
   refine aS (eD rfl rfl fun _ _ I _ _ _ A _ _ _ _ J=>?_) ?_
   · obtain ⟨D,P⟩:=I;clear A;go_simp;exact J _ _ (kY (bR.alloc nL _) rfl (fun b N=>by simp [blk?] at N;subst N;simp)) ⟨_,_,rfl,D.size,Bk.new _ _ _⟩
   refine aS (eD rfl rfl fun x aq I _ _ _ A E _ _ _ J=>?_) ?_
   · obtain ⟨D,P⟩:=I;have c8:(fun e s=>∃b,e=.slice (some ⟨b,0,none⟩) n n/\W0.heap.size<=b/\Bk s b 3 (Array.replicate n (.int .i64 0))) (x (.tmp 19)) aq:=E 1 19 kR rfl;clear A;clear c8;go_simp;exact J _ _ (gL bR rfl rfl) (by first | exact e19.symm | rfl)
   refine aS (eD rfl rfl fun x aq I _ _ _ A E _ _ _ J=>?_) ?_
   · obtain ⟨D,P⟩:=I;have cb:(fun e s=>∃b k,e=.pointer (some ⟨b,0,none⟩)/\W0.heap.size<=b/\Bk s b 27 #[k]) (x (.tmp 6)) aq:=E 6 6 kR rfl;have c9:(fun e s=>∃G k,e=.slice G n k/\Made s W0.heap.size 3 1 G n k ((aY K).map sv)) (x (.tmp 21)) aq:=E 3 21 kR rfl;clear A;obtain ⟨b,k,e1,N,W⟩:=cb;obtain ⟨es,ez,dZ,fc⟩:=c9;have c6:=W.cell 0;have eK:=W.frozen 0;have eT:=W.lt;go_simp;exact J (.bool true) _ (aDa (SetT.set W N _) (by simp [World.setCell]) rfl) ⟨b,e1,N,by rw [dZ];exact W.set 0 _⟩
   refine aS (eD rfl rfl fun x aq I _ _ _ A E _ _ _ J=>?_) ?_
   · obtain ⟨D,P⟩:=I;have ca:(fun e s=>∃b,e=.slice (some ⟨b,0,none⟩) n n/\W0.heap.size<=b/\Bk s b 3 (Array.replicate n (.int .i64 0))) (x (.tmp 23)) aq:=E 5 23 kR rfl;clear A;clear ca;go_simp;exact J _ _ (gL bR rfl rfl) (by first | exact e23.symm | rfl)
   exact aH
 · intro x a5 D P E cY;have cQ:x (.tmp 5)=x (.tmp 19):=E 7 5 rfl;have cb:(fun e s=>∃b k,e=.pointer (some ⟨b,0,none⟩)/\W0.heap.size<=b/\Bk s b 27 #[k]) (x (.tmp 6)) a5:=E 6 6 rfl;have cR:x (.tmp 7)=x (.tmp 23):=E 9 7 rfl;have c8:(fun e s=>∃b,e=.slice (some ⟨b,0,none⟩) n n/\W0.heap.size<=b/\Bk s b 3 (Array.replicate n (.int .i64 0))) (x (.tmp 19)) a5:=E 1 19 rfl;have c9:(fun e s=>∃G k,e=.slice G n k/\Made s W0.heap.size 3 1 G n k ((aY K).map sv)) (x (.tmp 21)) a5:=E 3 21 rfl;have ca:(fun e s=>∃b,e=.slice (some ⟨b,0,none⟩) n n/\W0.heap.size<=b/\Bk s b 3 (Array.replicate n (.int .i64 0))) (x (.tmp 23)) a5:=E 5 23 rfl;obtain ⟨fw,dz⟩:=cY 8 dC;have eo:(fun a4 e s=>∃b,a4=.pointer (some ⟨b,0,none⟩)/\W0.heap.size<=b/\Bk s b 27 #[e]) (x (.tmp 6)) (x (.tmp 21)) a5:=dz;clear dz;simp only [zqq];clear E cY;obtain ⟨gx,b9,ds,c3⟩:=c8;obtain ⟨g7,aV,eQ,cW⟩:=ca;obtain ⟨dE,c6,aU,bE⟩:=c9;obtain ⟨gr,dk,fi,bZ⟩:=eo;rw [aU] at bZ;obtain ⟨g6,rfl,eP,cU⟩:∃g6,dE=some ⟨g6,0,none⟩/\W0.heap.size<=g6/\∃C:Array Value,Bk a5 g6 3 C/\n<=C.size/\∀(c:Nat) a4,((aY K).map sv)[c]?=some a4->C[c]?=some a4:=by
    rcases bE.own.2 with ⟨H,_⟩|⟨b,eA,dW,H,r,z,cT,eN,eO,e4⟩;injection H with aW a2;omega
    · injection H with aW a2 h10;refine ⟨b,aW,r,dW,z,by omega,fun c a4 b7=>?_⟩;rw [<-e4,zBs,Array.getElem?_toList] at b7;split at b7;exact b7
      · cases b7
   have d6:gx≠g7:=fun q=>P.2 19 (by simp) 23 (by simp) dC gx (by rw [b9];rfl) (by rw [aV,q];rfl);have d7:gx≠g6:=fun q=>P.2 19 (by simp) 21 (by simp) dC gx (by rw [b9];rfl) (by rw [aU,q];rfl);have d8:g7≠g6:=fun q=>P.2 23 (by simp) 21 (by simp) dC g7 (by rw [aV];rfl) (by rw [aU,q];rfl);have e8:=bl.out.lt;have d2:=bl.out.below D e8;have db:=aC.out.trans (D.mono aC.out.size);have eV:=aC.out.size;rw [<-aAD] at c3;have ag:n<=c6:=bE.cap;rw [cQ,cR,b9,aV,dk];obtain ⟨aL,bi,cf,aJ,bm,Z⟩:=hqq6 c3 cW cU bZ d2 db;have co:gx≠g7/\gx≠g6/\g7≠g6:=⟨d6,d7,d8⟩;have cj:=lhd co;clear cQ cR b9 aV dk c3 cW cU bZ d2 db co d6 d7 d8 D P cb aU bE ck dF aC bl bp bq;go_wp2_with fail;go_loopw [26,8] (fun o _ wr=>∃a:Nat,a<=n/\o=.int .i64 a/\Bk wr gx 3 (fQ n a)/\Keep (fun S=>S=gx) a5 wr) (fun o _ _=>n -(intOf o).toNat)
   case atStart=>exact ⟨0,by omega,rfl,aL.out,Keep.refl _ _⟩
   case round=>
    obtain ⟨a,ea,rfl,ae,Y⟩:=hrel;by_cases b4:a < n
    · have cF:=ae.cell a;have e2:=ae.frozen a;rw [zAq (by rw [qP];exact b4)] at cF;obtain ⟨aE,a1⟩:=hqq2 ae Y;clear ae Y;generalize (fQ n a)[a]'(by rw [qP];exact b4)=u0 at cF;go_wp2_with fail;go_roundw
      case rel=>exact ⟨a+1,by omega,by go_num,by rw [<-aAE _ _ b4];exact aE.out.set a _,a1.out.setCell (.inl rfl) _⟩
      case measure=>simp [intOf];omega
    · obtain rfl:n=a:=oM;obtain ⟨aE,a1⟩:=hqq2 ae Y;clear ae Y;go_wp2_with fail;obtain ⟨gw,bP⟩:=eqx wr.heap.size;have d3:Bk (wr.alloc (.cells #[(1:Int)] 3)) gw 3 #[(1:Int)]:=bP ▸ Bk.new _ _ _
      have aj:RInv B.heap.size B m n (aY K) gn gr gx (wr.alloc (.cells #[(1:Int)] 3)) gw g6 g7 c6 n 1 (pX m) (aY K):=by
         obtain ⟨cO,cP,dX⟩:=cj.out;obtain ⟨C,du,ei,ej⟩:=cf.out;have ak:=a1.out;have ba:=ak.size;have fo:=aL.out.lt;have fp:=bm.out.lt;have fq:=bi.out.lt;have en:=du.lt;have ft:=aJ.out.lt;refine ⟨d3,(ak.bk bm.out (fun q=>by have:=ds;omega)).alloc _,(ak.bk aJ.out (fun q=>by subst q;exact Bk.ne aJ.out aL.out dC rfl)).alloc _,⟨C,(ak.bk du (fun q=>cP q.symm)).alloc _,ei,ej⟩,⟨_,(ak.bk bi.out (fun q=>cO q.symm)).alloc _,by simp⟩,?_,aCM m,?_,?_,⟨ag,zAs _⟩,?_,?_,aAl _,zAs _,ed,?_⟩;have:=aE.out;rw [<-u.out,aBW] at this;exact this.alloc _
         · refine ⟨?_,?_,cP,cO,?_,?_,dX,?_,?_⟩<;> omega
         · refine ⟨?_,?_,?_,?_⟩<;> omega
         · rw [bO,cA.out,u.out]
         intro cd a3;have:=iV K cd a3;omega;refine (Z.out.trans ?_).alloc oM _;exact ak.to_below (by have:=Z.out.size;omega) (fun S W q=>by have:=ds;omega)
      rw [bP];generalize wr.alloc (.cells #[(1:Int)] 3)=W8 at aj⊢;have av:=lhd aj;clear aj d3 bP aE a1 cj cf bm aJ bi aL Z
      go_loopg [7,9] (n) (fun gk bd be wr=>∃gw g6 g7 c6 c7 wd d R,bd=.slice (some ⟨g7,0,none⟩) n c7/\be=.pointer (some ⟨gw,0,none⟩)/\n - wd<=gk/\RInv B.heap.size B m n (aY K) gn gr gx wr gw g6 g7 c6 c7 wd d R)
      case atStart=>exact ⟨_,_,_,_,_,_,_,_,rfl,rfl,by omega,av.out⟩
      case round=>
         clear av;obtain ⟨gw,g6,g7,c6,c7,wd,d,R,rfl,rfl,eW,aj⟩:=hrel;have av:=lhd aj;clear aj;go_wp2_with fail;obtain ⟨ab,bN⟩:=eqx wr.heap.size;have ad:Bk (wr.alloc (.cells #[.func (.func 152) #[] #[.pointer (some ⟨gw,0,none⟩),gn,gr]] 64)) ab 64 #[.func (.func 152) #[] #[.pointer (some ⟨gw,0,none⟩),gn,gr]]:=bN ▸ Bk.new _ _ _;have M:=av.out.grow ((Below.refl wr.heap.size wr).alloc nL (.cells #[.func (.func 152) #[] #[.pointer (some ⟨gw,0,none⟩),gn,gr]] 64));rw [bN];generalize wr.alloc (.cells #[.func (.func 152) #[] #[.pointer (some ⟨gw,0,none⟩),gn,gr]] 64)=W1 at ad M⊢;have bK:d.size=n:=(by rw [M.ok.size,u.out]);have d4:CmpReads prog 153 #[gr,ab] (dP m) (cfF m wd R) gx 0 d.size W1:=fun t am dY eS bd be=>by have a:=gI (enc:=dP m) M.rows.lt 0 t dY am;exact tY gw gn gr ab wd n c6 (some ⟨g6,0,none⟩) R bd.val be.val _ (M.ordk a) (((a.bk ad (Bk.ne ad M.rows dC)).cell 0).trans rfl) (by have:=M.wdn;omega) oM M.rle (by have:=bd.isLt;have:=u.out;omega) (by have:=be.isLt;have:=u.out;omega)
         have c1:=Any.slices_SortFunc shSort (dP m) (jB m) (cfF m wd R) (aEK m M.rk) 153 #[gr,ab] gx 0 n d W1 (enters_of func153 kR rfl) d4.lays (aDB M.rows) M.rows.lt oM;rw [bK] at c1;refine c1.mono ?_;clear c1 d4;rintro q aO ⟨rfl,d',nq,am,bW,c2,rfl⟩;have dj:RowsOk m d':=M.ok.of_perm (by rw [bK];exact bW);have b0:=M.keepx (gI (enc:=dP m) M.rows.lt 0 nq d' am) (aDS M.rows bW.1 nq am) dj;have bH:=(gI (enc:=dP m) M.rows.lt 0 nq d' am).bk ad (Bk.ne ad M.rows dC);generalize Go.Proofs.sortWorld (dP m) W1 gx 0 nq d' am=aO at b0 bH⊢;have dm:∀o,o+1 < n->¬ltW (aN (aY K)) (wd+wd) (cZ d' (o+1)) (cZ d' o):=(by rw [<-u.out] at c2⊢;exact fun o ai=>aCC b0.rk dj.size c2 o ai);obtain ⟨cz,a6,cl⟩:=hqq3 dm b0 bH;clear dm M b0 ad bH bW c2 bK av bN;have ay:=u.out;have df:=a6.out.ok.lt 0;have cM:aO.cell? gx=some (.int .i64 ((cZ d' 0:Nat):Int)):=(a6.out.rows.cell 0).trans (a6.out.ok.cell oM);obtain ⟨dV,bc,dw⟩:=a6.out.next;obtain ⟨an,bV⟩:=eqx (cZ d' 0);rw [bV] at cM df;have bB:=bc.cell an;rw [zAq oM] at bB;have e3:=bc.frozen an;generalize dV[an]' oM=u7 at bB;have ee:an < n:=oM;obtain ⟨cC,cw⟩:=hqq2 bc bV;clear bc bV ay df;go_wp2_with fail;clear cM bB e3;go_loopw [12] (fun o dD=>∃a:Nat,1<=a/\a<=n/\o=.int .i64 a/\∃C:Array Value,Bk dD g7 3 C/\n<=C.size/\(∀c,c < a->C[cZ d' c]?=some (.int .i64 ((cN (gW (aN R) wd) (cZ d') c:Nat):Int)))/\Keep (fun S=>S=g7) aO dD) (fun o _=>n -(intOf o).toNat)
         case atStart=>refine ⟨1,by omega,by omega,rfl,_,cC.out.set an _,by simpa using dw,fun c aB=>?_,(Keep.refl (fun S=>S=g7) aO).setCell (p:=⟨g7,an,none⟩) (.inl rfl) _⟩;obtain rfl:c=0:=oM;rw [cw.out,zCd,zBx rfl,zBx oM];rfl
         case round=>
          clear cC cw ee dw;obtain ⟨a,eZ,ea,rfl,C,X,aA,af,Y⟩:=hrel;have L:=a6.out.keep7 Y ⟨C,X,aA⟩;by_cases b4:a < n
          · obtain ⟨c,aB⟩:∃c,a=c+1:=⟨a - 1,by omega⟩;have ay:=u.out;have a0:wr.cell? ⟨gx,a,none⟩=some (.int .i64 ((cZ d' a:Nat):Int)):=(L.rows.cell a).trans (L.ok.cell oM);have a9:wr.cell? ⟨gx,c,none⟩=some (.int .i64 ((cZ d' c:Nat):Int)):=(L.rows.cell c).trans (L.ok.cell oM);have aQ:=(X.cell (cZ d' c)).trans (af c oM);have dy:=L.ok.lt a;have dx:=L.ok.lt c;have ax:=X.cell (cZ d' a);rw [zAq oM] at ax;have bD:=X.frozen (cZ d' a);generalize C[cZ d' a]' oM=uk at ax;have aP:=(L.len.cell 0).trans rfl;have aT:IntKind.i64.wrap ((a:Int) - 1)=(c:Int):=(by rw [IntKind.wrap_i64];omega);have eb:decide ((a:Int) < (n:Int))=true:=(by simp;omega);obtain ⟨O,bY⟩:=eqx (cZ d' a);obtain ⟨ao,bX⟩:=eqx (cZ d' c);obtain ⟨e,b8⟩:=eqx (cN (gW (aN R) wd) (cZ d') c);have dq:=oQ (gW (aN R) wd) (cZ d') 0 c;rw [zBi,b8] at dq;have fj:e<=1000:=(by have:cN (gW (aN R) wd) (cZ d') 0=0:=rfl;omega);rw [bY] at a0 dy ax bD;rw [bX] at a9 dx aQ;rw [b8] at aQ;have eg:O < n:=oM;have ef:ao < n:=oM;have eY:c < n:=oM;obtain ⟨au,U,aF,a1,g,aw,cx,dK,aI⟩:=hqq9 X aA af Y L bY bX b8 aB;clear X aA af Y L bY bX b8 dq ay dy dx aB;go_wp2_with fail;refine wp_region_still_tail 14 kR kR ?_;simp only [List.take_succ_cons,List.take_zero,List.drop_succ_cons,List.drop_zero];change wpStill _ _ wr.drew (fun dM=>wpList _ _ _ _ dM wr.drew) _ _;have cI:wr.drew.cell? ⟨gx,a,none⟩=_:=a0;have cH:wr.drew.cell? ⟨gx,c,none⟩=_:=a9;have cK:wr.drew.cell? ⟨g7,ao,none⟩=_:=aQ;have cL:wr.drew.cell? ⟨g7,O,none⟩=_:=ax;have cS:wr.drew.frozen? ⟨g7,O,none⟩=false:=bD;obtain ⟨bn,bs,br⟩:=hqq3 au.out.drew a1.out.drew (g.out.keep7 (Keep.refl _ _).drew ⟨C,au.out.drew,U.out⟩);clear a0 a9 aQ ax bD aP au a1 g;generalize wr.drew=W5 at cI cH cK cL cS bn bs br⊢
            iterate 14 still_step
            refine wpStill_nil ?_;go_wp2_with fail;have ag:=bn.out.set O (.int .i64 (e:Int));have b2:=bs.out.setCell (p:=⟨g7,O,none⟩) (.inl rfl) (.int .i64 (e:Int));have T:=br.out.keep7 ((Keep.refl (fun S=>S=g7) W5).setCell (p:=⟨g7,O,none⟩) (.inl rfl) (.int .i64 (e:Int))) ⟨_,ag,by simpa using U.out⟩
            have bI:=b2.bk cl.out (fun q=>by
               obtain ⟨eE,a2,_⟩:=a6.out.next;subst q;exact Bk.ne cl.out a2 dC rfl)
            generalize W5.setCell ⟨g7,O,none⟩ (.int .i64 (e:Int))=W6 at ag b2 T bI⊢;clear cI cH cK cL cS bn bs br;have a0:W6.cell? ⟨gx,a,none⟩=some (.int .i64 (O:Int)):=(by rw [<-aw.out];exact (T.rows.cell a).trans (T.ok.cell (by have:=u.out;omega)));have a9:W6.cell? ⟨gx,c,none⟩=some (.int .i64 (ao:Int)):=(by rw [<-cx.out];exact (T.rows.cell c).trans (T.ok.cell (by have:=u.out;omega)));obtain ⟨bf,ba⟩:=eqx (gW (aN R) wd ao O);have c5:∀t:Nat,Calls prog 153 #[(ao:Int),(O:Int),gr,ab] (W6.drewN t) fun q w'=>q=.returned (.int .i64 bf)/\∃cc,w'=W6.drewN cc:=fun t=>by have H:=tY gw gn gr ab wd n c6 (some ⟨g6,0,none⟩) R ao O (W6.drewN t) ((T.ordk (Keep.refl _ _)).drewN t) ((bI.drewN t).cell 0) (by have:=T.wdn;omega) oM T.rle ef eg;rw [ba] at H;exact H.mono fun _ _ ⟨bL,cc,b6⟩=>⟨bL,t+cc,by rw [b6,World.drewN_drewN]⟩
            obtain ⟨aG,cr,dH,dL⟩:=hqq4 ag b2 T ba;have aR:((a:Int) - 1).toNat=c:=(by have:=aI.out;omega);have aa:(0:Int)<=(a:Int) - 1:=(by have:=aI.out;omega);clear ag b2 T bI ba;go_quiet ((with_reducible exact c5 _));have bM:cZ d' a < C.size:=(by rw [aw.out];have:=U.out;omega);have bQ:∀bb,bb < a->cZ d' bb≠cZ d' a:=fun bb eX q=>by have:=dH.out.ok.inj (i:=bb) (j:=a) (by have:=u.out;omega) (by have:=u.out;omega) q;omega
            have ah:cN (gW (aN R) wd) (cZ d') a=e+(if bf≠0 then 1 else 0):=(by rw [aI.out,<-dK.out];show cN _ _ c+(if gW (aN R) wd (cZ d' c) (cZ d' (c+1))≠0 then 1 else 0)=_;rw [<-aI.out,aw.out,cx.out,dL.out]);obtain ⟨cp,cq⟩:=hqq2 bM bQ;by_cases c4:bf=0
            · subst c4;rw [zBw (by simp),zBq] at ah;have bo:=lhd ah;clear ah bM bQ a0 a9 c5 aR aa aT;go_wp2_with fail;go_roundw
              case rel=>refine ⟨a+1,by omega,by omega,by go_num,_,aG.out.drewN _,by simpa using U.out,?_,cr.out.drewN _⟩;have:=tM aF.out cp.out cq.out bo.out;rw [aw.out] at this;exact this
              case measure=>simp [intOf];omega
            · rw [zBx c4] at ah;have bo:=lhd ah;have dU:W6.cell? ⟨g7,O,none⟩=some (.int .i64 (e:Int)):=(by rw [aG.out.cell,zCd,zBx rfl,zBx (by have:=U.out;omega)]);have eL:=aG.out.frozen O;have fk:IntKind.i64.wrap ((e:Int)+1)=((e+1:Nat):Int):=(by rw [IntKind.wrap_i64];omega);have fn:(bf==0)=false:=(by simpa using c4);clear ah bM bQ a9 c5 aR aa aT;go_wp2_with fail;go_roundw
              case rel=>refine ⟨a+1,by omega,by omega,by go_num,_,(aG.out.drewN nq).set O _,by simpa using U.out,?_,(cr.out.drewN nq).setCell (p:=⟨g7,O,none⟩) (.inl rfl) _⟩;have:=tM aF.out cp.out cq.out bo.out;rw [aw.out] at this;rw [set_set];exact this
              case measure=>simp [intOf];omega
          · obtain rfl:n=a:=oM;have ay:=u.out;obtain ⟨t,b6⟩:∃t,n=t+1:=⟨n - 1,by omega⟩;obtain ⟨al,b3⟩:=eqx (cN (gW (aN R) wd) (cZ d') t);have d9:=oQ (gW (aN R) wd) (cZ d') 0 t;rw [zBi,b3] at d9;have fa:al<=t:=(by have:cN (gW (aN R) wd) (cZ d') 0=0:=rfl;omega);obtain ⟨F,Q⟩:=eqx (cZ d' t);have ff:F < n:=(by have:=L.ok.lt t;omega);have ac:=L.box;have eB:=(L.len.cell 0).trans rfl;have ev:=ac.cell 0;have e2:=ac.frozen 0;have b1:∀b C,Bk wr b 3 C->Bk (wr.setCell gr (.slice (some ⟨g7,0,none⟩) n c7)) b 3 C:=fun b C H=>H.far (p:=gr) (Bk.ne H ac dC) _;have a0:(wr.setCell gr (.slice (some ⟨g7,0,none⟩) n c7)).cell? ⟨gx,t,none⟩=some (.int .i64 (F:Int)):=(by rw [<-Q];exact ((b1 _ _ L.rows).cell t).trans (L.ok.cell oM));have cJ:(wr.setCell gr (.slice (some ⟨g7,0,none⟩) n c7)).cell? ⟨g7,F,none⟩=some (.int .i64 (al:Int)):=(by rw [<-Q,<-b3];exact ((b1 _ _ X).cell _).trans (af t oM));have aP:=((b1 _ _ L.len).cell 0).trans rfl;have cG:=(ac.set 0 (.slice (some ⟨g7,0,none⟩) n c7)).cell 0;have bC:=((b1 _ _ L.wide).cell 0).trans rfl;have ec:t < n:=oM;have aT:IntKind.i64.wrap ((n:Int) - 1)=(t:Int):=(by rw [IntKind.wrap_i64];omega);obtain ⟨bw,ct,eu,g,au,U,aF,dG,ci⟩:=hqq9 b6 b3 Q L X aA af ac b1;have eb:decide ((n:Int) < (n:Int))=false:=(by simp);clear b6 b3 Q L X aA af Y ac b1 ay d9;go_wp2_with fail;have bJ:=dG.out.set 0 (.slice (some ⟨g7,0,none⟩) n c7);have bS:=(Keep.refl (fun S=>S=gr) wr).setCell (p:=gr) (.inl rfl) (.slice (some ⟨g7,0,none⟩) n c7);have b1:=ci.out;generalize wr.setCell gr (.slice (some ⟨g7,0,none⟩) n c7)=W9 at a0 cJ aP cG bC bJ bS b1⊢;have dl:=b1 _ _ g.out.rows;have cX:=b1 _ _ au.out;have dr:=b1 _ _ g.out.wide;have dh:=b1 _ _ g.out.len;obtain ⟨eC,dv,ek,el⟩:=g.out.rank;have cV:=b1 _ _ dv;have dc:=g.out.below.trans (bS.to_below (by have:=g.out.lo.1;have:=g.out.rows.lt;omega) (fun S W q=>by have:=g.out.lo.2.2.2;omega));obtain ⟨cn,cy,ch,cB,cv,cg,a7⟩:=hqq7 bJ dl cX dr dh cV dc;clear bJ bS b1 dl cX dr dh cV dc dv el ci;have aR:((n:Int) - 1).toNat=t:=(by have:=bw.out;omega);have aa:(0:Int)<=(n:Int) - 1:=(by have:=bw.out;omega);have di:∀o c,gW (aN R) wd o c=0↔eqW (aN (aY K)) (wd+wd) o c:=aD3 g.out.rk;have dd:(aY K).length=n:=(by rw [bO,cA.out,u.out]);obtain ⟨bu,V⟩:=hqq2 di dd;clear di dd;go_quiet (fail);clear aR aa aT a0 cJ aP cG bC;obtain ⟨cm,aK,bj,bx,bt,bh⟩:=hqq6 (cn.out.drewN nq) (cy.out.drewN nq) (ch.out.drewN nq) (cB.out.drewN nq) (cv.out.drewN nq) (cg.out.drewN nq);have da:Below B.heap.size B (W9.drewN nq):=⟨a7.out.os,a7.out.tape,a7.out.output,a7.out.size,a7.out.block⟩;have Z:=lhd da;clear da cn cy ch cB cv cg a7;generalize W9.drewN nq=W10 at cm aK bj bx bt bh Z⊢;by_cases de:al=t
            · subst de;have dn:=g.out.ok.suf (l:=aY K) (by rw [V.out,u.out]) (w:=wd+wd) (fun o c e9 aB=>aE8 bu.out cz.out oM (by have:=bw.out;have:=ct.out;rw [show n - 1=al by omega];exact this) o c e9 (by have:=u.out;omega));have dJ:=lhd dn;clear dn;go_wp2_with fail;go_ret;refine ⟨_,some ⟨gx,0,none⟩,n,dJ.out,by rw [u.out];rfl,?_,Z.out⟩;rw [<-aDW];have:=aEf aK.out g.out.lo.1 (n:=n) (by simp [g.out.ok.size,u.out]) (by unfold maxLen;omega);have e6:∀bz,Made W10 B.heap.size 3 1 (some ⟨gx,0,none⟩) n n bz->Made W10 B.heap.size 3 1 (some ⟨gx,0,none⟩) (m+1) n bz:=fun bz H=>by rw [u.out];exact H
              exact e6 _ this
            · have fg:((al:Int)==(t:Int))=false:=(by simp;omega);have fh:(al==t)=false:=(by simp;omega);have bC:=bx.out.cell 0;have eF:=bx.out.lt;have fl:wd<=896:=(by have:=g.out.wdn;omega);go_wp2_with fail;have fe:wd+wd < n:=by rcases zBe (wd+wd) n with H | H;exact H;exfalso;apply de;rw [<-ct.out];refine aEr (n:=n) (fun o ai bL=>?_) t ec;have:=(bu.out _ _).1 bL;have eR:=u.out;refine aD7 (l:=aY K) (by rw [V.out];exact H) (by rw [V.out];have:=g.out.ok.lt o;omega) (by rw [V.out];have:=g.out.ok.lt (o+1);omega) (fun q=>?_) this;have:=g.out.ok.inj oM oM q;omega
              go_roundg (n -(wd+wd))
              case measure=>have:=g.out.wd1;omega
              case rel=>
               obtain ⟨cD,dA,ep,eq,er⟩:=aCU (cs:=C) (f:=cZ d') (v:=cN (gW (aN R) wd) (cZ d')) U.out (fun c _=>by have:=g.out.ok.lt c;have:=u.out;omega) aF.out (fun F Q=>by
                obtain ⟨o,y,r⟩:=g.out.ok.sur (p:=F) (by have:=u.out;omega);exact ⟨o,by have:=u.out;omega,r⟩)
               have eh:RankOk (aN (aY K)) (aN cD) (wd+wd):=(by refine aBH (by have:=g.out.wd1;omega) bu.out (fun o ai=>cz.out o (by rw [<-V.out];exact ai)) (by rw [dA,V.out]) (fun o ai=>ep o (by rw [<-V.out];exact ai)) (fun F Q=>?_);obtain ⟨o,y,r⟩:=g.out.ok.sur (p:=F) (by have:=u.out;rw [V.out] at Q;omega);exact ⟨o,by have:=u.out;rw [V.out];omega,r⟩);obtain ⟨ew,dN,dO,dQ,ex,dR,dS,ey,dT⟩:=g.out.ap;have fv:=aK.out.lt;have fu:=g.out.wd1;have fr:=bj.out.lt;have en:=bh.out.lt;have fs:=bt.out.lt;have aa:(wd:Int)*2=((wd+wd:Nat):Int):=oM;rw [aa];refine ⟨_,_,_,_,_,wd+wd,d',cD,rfl,rfl,zAs _,Bk.new _ _ _,bt.out.alloc _,cm.out.alloc _,⟨_,bj.out.alloc _,U.out,eq⟩,⟨_,bh.out.alloc _,ek⟩,aK.out.alloc _,g.out.ok,⟨?_,dN,dQ,dO,?_,dT,dS.symm,?_,dR⟩,⟨g.out.lo.1,g.out.lo.2.2.1,g.out.lo.2.1,g.out.lo.2.2.2⟩,⟨g.out.cap.2,g.out.cap.1⟩,dA,?_,eh,by omega,by omega,Z.out.alloc Z.out.size _⟩;omega;omega;omega;intro cd a3;obtain ⟨c,aB,rfl⟩:=er cd a3;have:=oQ (gW (aN R) wd) (cZ d') 0 c;rw [zBi] at this;have eM:cN (gW (aN R) wd) (cZ d') 0=0:=rfl;omega
end
end Go.Proofs.YtnmapianpjamnaaGreatDoor
