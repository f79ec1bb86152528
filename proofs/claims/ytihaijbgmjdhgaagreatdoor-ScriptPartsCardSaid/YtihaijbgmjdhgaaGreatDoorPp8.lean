/- Lemmas of the walk. Conditions: each its own. -/
import Derived.Test.YtihaijbgmjdhgaaGreatDoorPp5
import Derived.Test.YtihaijbgmjdhgaaGreatDoorProg
set_option linter.all false
set_option maxRecDepth 100000
set_option maxHeartbeats 1000000
namespace Go.Proofs.YtihaijbgmjdhgaaGreatDoor
open Tryz
section
open Go.RowKit
def sv (a:Nat):Value:=.int .i64 (a:Int)
def bH (b a:Nat):Nat:=b / 2 ^(9 - a)
def iH (b a:Nat):Bool:=decide (b / 2 ^(8 - a)% 2=1)
theorem eR (a:Nat) (w:World) (g:a < 257):
 Calls prog 155 #[(a:Int)] w fun b c=>b=.returned (.bool true)/\Below w.heap.size w c:=by
 have e:(0:Int)<=(a:Int):=oM;have f:(a:Int) < 257:=oM;go_enter func155,ntmps155;go_wp2;go_ret;exact ⟨rfl,Below.refl _ _⟩
theorem vG (b a:Nat):(b:Int)/ 2 ^ a=((b / 2 ^ a:Nat):Int):=by push_cast;rfl
theorem aEc (a:Nat) (c:a < 257):bits .and .i64 (a:Int) 1=((a % 2:Nat):Int):=by
 have b:=(bits_nat .i64 10 dC (fun f e b=>by rw [IntKind.wrap_i64];omega) a 1 oM oM).1;rw [show ((1:Nat):Int)=1 from rfl] at b;rw [b,Nat.and_one_is_mod]
theorem nI (b a:Nat) (w:World) (f:b < 257) (k:a<=9):
 Calls prog 228 #[(b:Int),(a:Int)] w fun c g=>c=.returned (.int .i64 ((bH b a:Nat):Int))/\Below w.heap.size w g:=by
 have i:¬((a:Int) < 0):=oM;have j:¬((a:Int) > 9):=oM;go_enter func228,ntmps228;go_wp2_with fail;refine (eR b _ f).mono ?_;rintro c w1 ⟨rfl,e⟩;go_wp2_with fail;go_ret;exact ⟨dR (vG _ _),e⟩
theorem pE (b a:Nat) (w:World) (g:b < 257) (s:a < 9):
 Calls prog 231 #[(b:Int),(a:Int)] w fun e p=>e=.returned (.bool (iH b a))/\Below w.heap.size w p:=by
 have q:¬((a:Int) < 0):=oM;have r:¬((a:Int)>=9):=oM;go_enter func231,ntmps231;go_wp2_with fail;refine (eR b _ g).mono ?_;rintro e w1 ⟨rfl,l⟩;go_wp2_with fail;go_ret;refine ⟨bF ?_,l⟩;have o:b / 2 ^(8 - a) < 257:=Nat.lt_of_le_of_lt (Nat.div_le_self _ _) g;rw [vG,aEc _ o];unfold iH;generalize b / 2 ^(8 - a)% 2=j;by_cases f:j=1;subst f;rfl
 · have k:((j:Int)==1)=false:=(by simp;omega);rw [k];simp [f]
@[irreducible] def tcells (c:List Nat):Array Value:=Array.ofFn (n:=258) fun i=>.int .i64 (((if i.val < 257 then c.count i.val else c.length):Nat):Int)
theorem eM (b:List Nat) {a:Nat} (c:a < 257):(tcells b)[a]?=some (.int .i64 ((b.count a:Nat):Int)):=by
 unfold tcells;rw [Array.getElem?_ofFn,dif_pos oM,zBv c]
theorem gV (a:List Nat):(tcells a)[257]?=some (.int .i64 ((a.length:Nat):Int)):=by
 unfold tcells;rw [Array.getElem?_ofFn,dif_pos oM];rfl
theorem eU (a:List Nat):(tcells a).size=258:=by unfold tcells;simp
theorem oB (c:Array Value) (b:List Nat) (j:c.size=258) (g:∀e,e < 257->c[e]?=some (.int .i64 ((b.count e:Nat):Int))) (i:c[257]?=some (.int .i64 ((b.length:Nat):Int))):c=tcells b:=by
 apply Array.ext_getElem?;intro f;rcases zBd f 257 with a | a
 · rw [g f a,eM b a]
 · rcases Nat.eq_or_lt_of_le a with a | a
   · rw [<-a,i,gV]
   · rw [Array.getElem?_eq_none oM,Array.getElem?_eq_none (by rw [eU];omega)]
theorem wH (b:List Nat) (a:Nat) (g:a < 257):((tcells b).setIfInBounds a (.int .i64 (((b.count a+1:Nat)):Int))).setIfInBounds 257 (.int .i64 ((b.length+1:Nat):Int))=tcells (b++ [a]):=by
 apply oB
 · simp [eU]
 · intro e f;rw [zCc oM];by_cases c:a=e
   · subst c;rw [Array.getElem?_setIfInBounds_self_of_lt (by rw [eU];omega)];simp
   rw [zCc c,eM b f];have: [a].count e=0:=(by simp [c]);rw [zCa,this];rfl
 · rw [Array.getElem?_setIfInBounds_self_of_lt (by simp [eU])];simp
theorem nH (e:Nat) (b:List Nat) (a:Nat) (w:World) (g:Bk w e 245 (tcells b)) (j:a < 257):
 Calls prog 247 #[e,(a:Int)] w fun f k=>f=.returned (.int .i64 ((b.count a:Nat):Int))/\Below w.heap.size w k:=by
 have c:=lhd g;clear g;go_enter func247,ntmps247;go_wp2_with fail;refine (eR a _ j).mono ?_;rintro f w1 ⟨rfl,i⟩;have l:w1.cell? ⟨e,a,none⟩=some (.int .i64 ((b.count a:Nat):Int)):=((c.out.below i c.out.lt).cell a).trans (eM b j);have n:¬((a:Int) < 0):=oM;have o:((a:Int) < 257):=oM;clear c;go_wp2_with fail;go_ret;exact ⟨rfl,i⟩
theorem vF (c:List Nat) (b:Nat):c.countP (fun a=>decide (a < b+1))=c.countP (fun a=>decide (a < b))+c.count b:=by
 induction c with
 | nil=>rfl
 | cons a j i=>
   rw [zBl,zBl,List.count_cons,i];by_cases g:a < b;have e:a < b+1:=oM;have f:a≠b:=oM;simp [g,e,f];omega
   · by_cases e:a=b;subst e;simp;omega
     · have f:¬a < b+1:=oM;simp [g,e,f]
theorem iZ (i:Nat) (c:List Nat) (b:Nat) (w:World) (p:Bk w i 245 (tcells c)) (E:b < 257) (y:c.length<=1000):
 Calls prog 232 #[i,(b:Int)] w fun o B=>o=.returned (.int .i64 ((c.countP (fun e=>decide (e < b)):Nat):Int))/\Below w.heap.size w B:=by
 have n:=lhd p;clear p;have F:max (b:Int) 0=(b:Int):=oM;have G:min (b:Int) 257=(b:Int):=oM;go_enter func232,ntmps232;go_wp2_with fail;go_loopw [5,10] (fun A l wr=>∃a:Nat,a<=b/\l=.int .i64 a/\A=.int .i64 ((c.countP (fun e=>decide (e < a)):Nat):Int)/\Below w.heap.size w wr) (fun _ l _=>b -(intOf l).toNat)
 case atStart=>exact ⟨0,by omega,rfl,by simp,Below.refl _ _⟩
 case round=>
  obtain ⟨a,C,rfl,rfl,f⟩:=hrel;have z:=f.size;by_cases D:a < b
  · go_wp2_with fail;refine (nH i c a wr (n.out.below f n.out.lt) oM).mono ?_;rintro o w1 ⟨rfl,u⟩;have v:=f.trans (u.mono z);have g:=vF c a;have q:c.countP (fun e=>decide (e < a+1))<=1000:=zAk zBg y;obtain ⟨r,j⟩:∃r,c.countP (fun e=>decide (e < a))=r:=⟨_,rfl⟩;obtain ⟨H,k⟩:=eqx (c.count a);rw [g] at q;rw [j,k] at g q;rw [k]
    try rw [j]
    have s:=lhd g;clear g j k;go_wp2_with fail;go_roundw
    case rel=>exact ⟨a+1,by omega,by go_num,by rw [s.out];exact cS oM,v⟩
    case measure=>simp [intOf];omega
  · have x:a=b:=oM;subst x;go_wp2_with fail;go_ret;exact ⟨rfl,f⟩
theorem sY (a:Nat) (c:List Nat) (b:Nat) (w:World) (g:Bk w a 245 (tcells c)) (n:b < 257) (I:c.length<=1000):
 Calls prog 214 #[a,(b:Int),.int .i64 1] w fun G J=>G=.returned (.int .i64 0)/\Bk J a 245 (tcells (c++ [b]))/\Keep (fun i=>i=a) w J:=by
 have v:=lhd g;clear g;have a5:¬((b:Int) < 0):=oM;have a6:((b:Int) < 257):=oM;obtain ⟨f,u⟩:=eqx (c.count b);obtain ⟨B,s⟩:=eqx c.length;have a8:f<=1000:=by rw [<-u];exact zAk zBt I
 rw [s] at I;have z:=wH c b n;rw [u,s] at z;obtain ⟨K,x,E⟩:=hqq3 z u s;clear z u s;go_enter func214,ntmps214;go_wp2_with fail;refine (eR b _ n).mono ?_;rintro G w1 ⟨rfl,A⟩;have r:=v.out.below A v.out.lt;have S:w1.cell? ⟨a,b,none⟩=some (.int .i64 (f:Int)):=by rw [<-x.out];exact (r.cell b).trans (eM c n)
 have T:w1.cell? ⟨a,257,none⟩=some (.int .i64 (B:Int)):=by rw [<-E.out];exact (r.cell 257).trans (gV c)
 have a9:¬((1:Int) < -(f:Int)):=oM;have aa:¬((1:Int) > 2147483648 -(B:Int)):=oM;obtain ⟨L,N⟩:=hqq2 A r;clear A r v;go_wp2_with fail;refine wp_region_any kR ?_;refine bB [33,34,35,36,37,38,39,40,41,42,43] (fun i=>i=a) 11 [5,11] (fun j=>Bk j a 245 (tcells c)) (fun _ j=>Bk j a 245 ((tcells c).setIfInBounds b (.int .i64 ((f+1:Nat):Int)))) [is a,is (b:Int),is a,is a,is (.pointer (some ⟨a,b,none⟩)),is (f:Int),is (.int .i64 1),is (.int .i64 ((f+1:Nat):Int)),is a,is a,is (.pointer (some ⟨a,b,none⟩)),dJ] _ _ rfl kR kR (N.out) (fun j ac g _ P=>Bk.below g P g.lt) (fun _ _ _ g Q=>Bk.below g Q g.lt) tA1 ?_ ?_
 · refine aG ?_;refine pH3 0 (.pointer (some a)) ?_;refine pH3 1 (.int .i64 (b:Int)) ?_;refine pV3 0 33 ?_;refine pV3 2 35 ?_;refine pW3 3 36 1 34 ?_;refine sC3 (fun _ C _ y _ _ _ e _ _ _ k=>?_) ?_
   · have l:=y rfl;have X:_=_:=e 4 37 kR rfl;have V:C.cell? ⟨a,b,none⟩=some (.int .i64 (f:Int)):=(by rw [<-x.out];exact (l.cell b).trans (eM c n));go_simp;exact kq k rfl
   refine pH3 2 (.int .i64 1) ?_;refine sC3 (fun _ _ _ _ _ _ _ e _ _ _ k=>?_) ?_
   · have Y:_=_:=e 5 38 kR rfl;have Z:_=_:=e 6 39 kR rfl;go_simp;exact k _ _ (aA bR) (cS (by rw [IntKind.wrap_i64];omega))
   refine pV3 0 33 ?_;refine pV3 8 41 ?_;refine pW3 9 42 1 34 ?_;refine sC3 (fun _ C _ y _ _ _ e _ _ _ k=>?_) ?_
   · have l:=y rfl;have a1:_=_:=e 10 43 kR rfl;have a0:_=_:=e 7 40 kR rfl;have W:C.cell? ⟨a,b,none⟩=some (.int .i64 (f:Int)):=(by rw [<-x.out];exact (l.cell b).trans (eM c n));have a4:=l.frozen b;go_simp;exact k (.bool true) _ (aV (Keep.setCell (F:=fun i=>i=a) (Keep.refl _ _) (p:=⟨a,b,none⟩) (.inl rfl) _)) (l.set b _)
   exact aC
 · intro a2 D q e H;replace q:Keep (fun i=>i=a) w1 D:=kD q;obtain ⟨ab,o⟩:∃R,(fun _ j=>Bk j a 245 ((tcells c).setIfInBounds b (.int .i64 ((f+1:Nat):Int)))) R D:=H 11 dC;simp only [zqq];clear e H;have U:D.cell? ⟨a,257,none⟩=some (.int .i64 (B:Int)):=(by refine (o.cell 257).trans ?_;rw [zCc oM,<-E.out];exact gV c);have a3:=o.frozen 257;obtain ⟨O,M⟩:=hqq2 o q;have a7:=o.lt;clear o q;go_wp2_with fail;go_ret;refine ⟨rfl,?_,?_⟩;rw [<-K.out];exact O.out.set 257 _;exact ((Keep.of_below L.out).trans M.out).setCell (.inl rfl) _
theorem wG:tcells []=Tryz.zeroCells245:=by kernel_rfl
theorem lU (r:Option Addr) (m J s:Nat) (b:List Nat) (w:World) (o:Rd w s 1 r m (b.map sv)) (K:s<=w.heap.size) (Y:m<=1000) (v:∀f∈b,f < 257):
 Calls prog 180 #[.slice r m J] w fun l C=>∃e,l=.returned (.tuple #[.pointer (some ⟨e,0,none⟩),.int .i64 0])/\w.heap.size<=e/\Bk C e 245 (tcells b)/\Below w.heap.size w C:=by
 have z:b.length=m:=by simpa using o.1
 obtain ⟨H,E,u,D⟩:=hqq4 o v z K;clear o v z;go_enter func180,ntmps180;go_wp2_with fail;obtain ⟨e,x⟩:=eqx w.heap.size;have N:Bk (w.alloc (.cells Tryz.zeroCells245 245)) e 245 (tcells (b.take 0)):=by rw [List.take_zero,wG,<-x];exact Bk.new _ _ _
 have L:=(Below.refl w.heap.size w).alloc nL (.cells Tryz.zeroCells245 245)
 try rw [x]
 go_loopw [12] (fun q wr=>∃a:Nat,a<=m/\q=.int .i64 a/\Bk wr e 245 (tcells (b.take a))/\Below w.heap.size w wr) (fun q _=>m -(intOf q).toNat)
 case atStart=>exact ⟨0,by omega,rfl,N,L⟩
 case round=>
  obtain ⟨a,X,rfl,i,g⟩:=hrel;have S:=g.size;by_cases A:a < m
  · have P:a < b.length:=(by rw [u.out];exact A);obtain ⟨f,j⟩:∃f,b[a]?=some f:=⟨b[a],zAa P⟩;obtain ⟨I,Z,a0,rfl,W,p,O⟩:=((H.out.mono D.out).below g).get A;rw [zAf,j] at p;simp at p;subst p;have R:f < 257:=E.out f (zAd j);have B:b.take (a+1)=b.take a++ [f]:=(by rw [zAu,j];rfl);have T:(b.take a).length<=1000:=(by rw [zAj];omega);unfold sv at O;obtain ⟨F,k⟩:=hqq2 B i;clear B i j;go_wp2_with fail;refine (sY e (b.take a) f _ k.out R T).mono ?_;rintro l w1 ⟨rfl,n,y⟩;have M:Below w.heap.size w w1:=g.trans (y.to_below S (fun I g l=>by omega));rw [<-F.out] at n;have G:=lhd n;clear n y;go_wp2_with fail;go_roundw
    case rel=>exact ⟨a+1,by omega,by go_num,G.out,M⟩
    case measure=>simp [intOf];omega
  · have Q:a=m:=oM;subst Q;rw [zAg (by rw [u.out];omega)] at i;have k:=lhd i;clear i;go_wp2_with fail;go_ret2;exact ⟨e,rfl,by omega,k.out,g⟩
@[irreducible] def wcells (c:Nat->Value) (U V:Int):Array Value:=#[c 0,c 1,c 2,c 3,c 4,c 5,c 6,c 7,c 8,.int .i64 U,.int .i64 V]
theorem bJ (a:Nat->Value) (b c:Int):(wcells a b c)[0]?=some (a 0)/\(wcells a b c)[1]?=some (a 1)/\(wcells a b c)[2]?=some (a 2)/\(wcells a b c)[3]?=some (a 3)/\(wcells a b c)[4]?=some (a 4)/\(wcells a b c)[5]?=some (a 5)/\(wcells a b c)[6]?=some (a 6)/\(wcells a b c)[7]?=some (a 7)/\(wcells a b c)[8]?=some (a 8)/\(wcells a b c)[9]?=some (.int .i64 b)/\(wcells a b c)[10]?=some (.int .i64 c):=by
 unfold wcells;exact ⟨rfl,rfl,rfl,rfl,rfl,rfl,rfl,rfl,rfl,rfl,rfl⟩
theorem cM (a:Nat->Value) (b e c:Int):(wcells a b e).setIfInBounds 10 (.int .i64 c)=wcells a b c:=by
 unfold wcells;rfl
theorem qL (b:Nat->Value) (c e:Int) (a:Nat) (q:a < 9):(wcells b c e)[a]?=some (b a):=by
 obtain ⟨f,g,i,j,k,l,n,o,p,_⟩:=bJ b c e;rcases a with _ | _ | _ | _ | _ | _ | _ | _ | _ | a
 all_goals first | assumption | omega
theorem wE (b:Nat->Value) (e g:Int) (a:Nat) (i:a < 9) (f:Value):(wcells b e g).setIfInBounds a f=wcells (fun c=>if c=a then f else b c) e g:=by
 unfold wcells;rcases a with _ | _ | _ | _ | _ | _ | _ | _ | _ | a
 all_goals first | rfl | omega
theorem Vis.waveC {w i:World} {e:Nat} {c:Nat->Value} {f g:Int} (j:Vis w i) (k:Bk w e 229 (wcells c f g)):∃b,Bk i e 229 (wcells c f b):=by
 rcases j.wave k with a |⟨b,a⟩;exact ⟨g,a⟩;rw [cM] at a;exact ⟨b,a⟩
theorem aA4 (c gk i b:Nat) (z A:Int) (o:Value) (f:List Bool) (e:Nat) (a:Bool) (w:World) (q:TreeAt w c f) (k:Bk w gk 3 #[(e:Int)]) (j:Bk w i 4 #[.bool a]) (l:Bk w b 3 #[o]) (y:e<=f.length):
 Calls prog 284 #[.agg #[c,.int .i64 z,.int .i64 A],gk,i,b] w fun p B=>p=.returned (.tuple #[])/\
  ∃w1,VisK (fun a=>a=c) w w1/\Bk w1 b 3 #[o]/\B=w1.setCell b (.int .i64 (((f.take e).count a:Nat):Int)):=by
 have C:w.cell? gk=some (.int .i64 (e:Int)):=(k.cell 0).trans rfl;have D:w.cell? i=some (.bool a):=(j.cell 0).trans rfl;have G:=k.lt;have H:=j.lt;have I:=l.lt;obtain ⟨x,u⟩:=hqq2 q l;clear q k j l;go_enter func284,ntmps284;go_wp2_with fail;refine (sX c f e a _ (x.out.below (bR.alloc nL _)) y).mono ?_;rintro p w1 ⟨rfl,r⟩;have n:VisK (fun a=>a=c) w w1:=(VisK.of_below (bR.alloc nL _)).trans r;have g:=n.1.bk u.out dC dC;have E:w1.cell? b=some o:=(g.cell 0).trans rfl;have F:=g.frozen 0;obtain ⟨s,v⟩:=hqq2 n g;clear r n g;go_wp2_with fail;go_end0;exact ⟨rfl,w1,s.out,v.out,rfl⟩
theorem Vis.of_wave {w e:World} {c:Nat} {f:Nat->Value} {i o j:Int} (a:Keep (fun b=>b=c) w e) (k:Bk w c 229 (wcells f i o)) (l:Bk e c 229 (wcells f i j)):Vis w e:=by
 refine ⟨a.os,a.tape,a.output,a.size,fun b n _=>?_⟩;by_cases g:b=c;subst g;exact .inr (.inr ⟨_,j,k,by rw [cM];exact l⟩);exact .inl (a.block b n g)
theorem aA7 (b e gk O c:Nat) (x:Nat->Value) (C ae M l:Int) (ag:Value) (j:List Bool) (i:Nat) (a:Bool) (w:World) (L:Bk w b 229 (wcells x C ae)) (a9:TreeAt w e j) (S:Bk w gk 3 #[(i:Int)]) (Q:Bk w O 4 #[.bool a]) (J:Bk w c 3 #[ag]) (aB:i<=j.length):
 Calls prog 208 #[b,.agg #[e,.int .i64 M,.int .i64 l],.func (.func 284) #[] #[gk,O,c]] w fun k Y=>k=.returned (.tuple #[])/\
  VisF (fun a=>a=c) w Y/\Keep (fun a=>a=b∨a=e∨a=c) w Y/\Bk Y c 3 #[.int .i64 (((j.take i).count a:Nat):Int)]:=by
 obtain ⟨aF,V⟩:=eqx (Obj.cells #[e,.int .i64 M,.int .i64 l] 232);have a6:=(Below.refl w.heap.size w).alloc nL aF;have W:=Bk.new w 232 #[e,.int .i64 M,.int .i64 l];rw [V] at W;have aU:=S.lt;have aW:=Q.lt;have aX:=J.lt;have aY:=L.lt;have aE:=Bk.ne J L dC;obtain ⟨N,a1,a0,Z,a3,s,a2,an⟩:=hqq8 a9 J S Q L a6 W V;clear a9 S Q J L a6 W V;go_enter func208,ntmps208;go_wp2_with fail;rw [an.out];refine (aA4 e gk O c M l ag j i a _ (N.out.below s.out) (a0.out.alloc _) (Z.out.alloc _) (a1.out.alloc _) aB).mono ?_;rintro k r ⟨rfl,w1,v,U,rfl⟩;obtain ⟨q,ac⟩:=((Vis.of_below s.out).trans v.1).waveC a3.out;have B:=ac.far (p:=c) (fun f=>aE f.symm) (.int .i64 (((j.take i).count a:Nat):Int));have aa:=N.out.vis ((Vis.of_below s.out).trans v.1);have A:TreeAt (w1.setCell c (.int .i64 (((j.take i).count a:Nat):Int))) e j:=aa.same fun ar t aL a8 f=>f.far (fun k=>by
  have au:ar=c:=k;subst au;rw [<-(bL U f).1] at a8;exact absurd a8 dC) _
 obtain ⟨D,X⟩:=A.visits;have u:=(v.1.bk a2.out dC dC).far (p:=c) (fun f=>absurd (show w.heap.size=c from f) oM) (.int .i64 (((j.take i).count a:Nat):Int));have K:=U.set 0 (.int .i64 (((j.take i).count a:Nat):Int));have R:VisF (fun a=>a=c) w (w1.setCell c (.int .i64 (((j.take i).count a:Nat):Int))):=VisF.put (F:=fun a=>a=c) (VisF.of_vis ((Vis.of_below s.out).trans v.1)) (p:=c) (.inl rfl) _;have T:Keep (fun a=>a=b∨a=e∨a=c) w (w1.setCell c (.int .i64 (((j.take i).count a:Nat):Int))):=Keep.setCell (F:=fun a=>a=b∨a=e∨a=c) ((Keep.of_below s.out).trans (v.2.mono fun a _ k=>.inr (.inl k))) (p:=c) (.inl (.inr (.inr rfl))) _;obtain ⟨G,a5⟩:=eqx (w1.setCell c (.int .i64 (((j.take i).count a:Nat):Int)));rw [a5] at B A X u K R T⊢;have aH:G.cell? w.heap.size=some (.pointer (some e)):=(u.cell 0).trans rfl;obtain ⟨E,ao,am,ak,al,ap,aq⟩:=hqq7 B u K R T A X;have aD:=A.lt;have aT:=u.lt;have ay:=Bk.ne B u dC;have ax:=Bk.ne B K dC;have az:e≠b:=by rintro rfl;obtain ⟨aS,ae,⟨_,_,H⟩|⟨_,_,_,_,_,I⟩⟩:=ap.out;exact absurd (bL H E.out).1 dC;exact absurd (bL I.tree E.out).1 dC
 clear B u K R T A X a5 ac aa U v s N a1 a0 Z a3 a2 aH;go_wp2_with fail;refine wp_region_any kR ?_;refine bB [9,10,11,12,13,14,15,16,17,18] (fun a=>a=b) 10 [3,10] (fun r=>Bk r b 229 (wcells x C q)) (fun _ r=>Bk r b 229 (wcells x C (IntKind.i64.wrap (q+D)))) [is b,is b,is (.pointer (some ⟨b,10,none⟩)),is (.int .i64 q),is w.heap.size,is e,is (.int .i64 D),is (.int .i64 (IntKind.i64.wrap (q+D))),is b,is (.pointer (some ⟨b,10,none⟩)),dJ] _ _ rfl kR kR (E.out) (fun r b0 f _ aw=>Bk.below f aw f.lt) (fun _ _ _ f i=>Bk.below f i f.lt) tA1 ?_ ?_
 · refine aG ?_;refine pH3 0 (.pointer (some b)) ?_;refine pV3 0 9 ?_;refine pV3 1 10 ?_;refine sC3 (fun _ n _ P _ _ _ o _ _ _ y=>?_) ?_
   · have z:=P rfl;have aM:_=_:=o 2 11 kR rfl;have aJ:n.cell? ⟨b,10,none⟩=some (.int .i64 q):=(z.cell 10).trans (bJ _ _ _).2.2.2.2.2.2.2.2.2.2;go_simp;exact kq y rfl
   refine pH3 4 (.pointer (some w.heap.size)) ?_;refine pL3 4 13 (fun n g=>have g:Keep (fun a=>a=b) G n:=kD g;(((g.bk ao.out (fun f=>ay (show w.heap.size=b from f).symm)).cell 0).trans rfl:n.cell? w.heap.size=some (.pointer (some e)))) ?_;refine sC3 (fun _ n g _ _ _ _ o _ _ _ y=>?_) ?_
   · replace g:Keep (fun a=>a=b) G n:=kD g;have aN:_=_:=o 5 14 kR rfl;go_simp;refine (iY e D n ((g.cell aD az).trans aq.out)).mono ?_;rintro k b1 ⟨rfl,av⟩;exact y _ _ (aA av) rfl
   refine pW3 3 12 6 15 ?_;refine pV3 0 9 ?_;refine pV3 8 17 ?_;refine sC3 (fun _ n _ P _ _ _ o _ _ _ y=>?_) ?_
   · have z:=P rfl;have aP:_=_:=o 9 18 kR rfl;have aO:_=_:=o 7 16 kR rfl;have aK:n.cell? ⟨b,10,none⟩=some (.int .i64 q):=(z.cell 10).trans (bJ _ _ _).2.2.2.2.2.2.2.2.2.2;have aR:=z.frozen 10;go_simp;refine y (.bool true) _ (aV (Keep.setCell (F:=fun a=>a=b) (Keep.refl _ _) (p:=⟨b,10,none⟩) (.inl rfl) _)) ?_;rw [<-cM x C q];exact z.set 10 _
   exact aC
 · intro aQ af g o a7;replace g:Keep (fun a=>a=b) G af:=kD g;obtain ⟨aZ,ad⟩:∃aI,(fun _ r=>Bk r b 229 (wcells x C (IntKind.i64.wrap (q+D)))) aI af:=a7 10 dC;simp only [zqq];clear o a7;have ab:=Vis.of_wave g E.out ad;have a4:=VisF.trans ak.out (VisF.of_vis ab);have H:=al.out.trans (g.mono fun a _ k=>.inl k);have I:=g.bk am.out (fun k=>ax (show c=b from k).symm);obtain ⟨ah,ai,aj⟩:=hqq3 a4 H I;clear ab a4 H I ad g;go_wp2_with fail;go_end0;exact ⟨rfl,ah.out,ai.out,aj.out⟩
theorem pC (n b:Nat) (r:Nat->Value) (H I f g:Int) (l:List Bool) (c:Nat) (a:Bool) (w:World) (p:Bk w n 229 (wcells r H I)) (D:TreeAt w b l) (S:c<=l.length):
 Calls prog 211 #[n,.agg #[b,.int .i64 f,.int .i64 g],(c:Int),.bool a] w fun e T=>e=.returned (.int .i64 (((l.take c).count a:Nat):Int))/\VisK (fun a=>a=n∨a=b) w T:=by
 have V:∀(u:Fn) (first s:Array Value) (w:World),(Instr.makeFunc u first s).run prog w=.ok (.func u first s) w:=fun _ _ _ _=>rfl;obtain ⟨k,j⟩:=eqx ((((w.alloc (.cells #[b,.int .i64 f,.int .i64 g] 232)).alloc (.cells #[(c:Int)] 3)).alloc (.cells #[.bool a] 4)).alloc (.cells #[.int .i64 0] 3));have o:Below w.heap.size w k:=by rw [<-j];exact (((bR.alloc nL _).alloc (by simp) _).alloc (by simp;omega) _).alloc (by simp;omega) _
 have v:Bk k (w.heap.size+1) 3 #[(c:Int)]:=by rw [<-j];have i:=Bk.new (w.alloc (.cells #[b,.int .i64 f,.int .i64 g] 232)) 3 #[(c:Int)];rw [show (w.alloc (.cells #[b,.int .i64 f,.int .i64 g] 232)).heap.size=w.heap.size+1 from by simp] at i;exact (i.alloc _).alloc _
 have x:Bk k (w.heap.size+1+1) 4 #[.bool a]:=by rw [<-j];have i:=Bk.new ((w.alloc (.cells #[b,.int .i64 f,.int .i64 g] 232)).alloc (.cells #[(c:Int)] 3)) 4 #[.bool a];rw [show ((w.alloc (.cells #[b,.int .i64 f,.int .i64 g] 232)).alloc (.cells #[(c:Int)] 3)).heap.size=w.heap.size+1+1 from by simp] at i;exact i.alloc _
 have y:Bk k (w.heap.size+1+1+1) 3 #[.int .i64 0]:=by rw [<-j];have i:=Bk.new (((w.alloc (.cells #[b,.int .i64 f,.int .i64 g] 232)).alloc (.cells #[(c:Int)] 3)).alloc (.cells #[.bool a] 4)) 3 #[.int .i64 0];rw [show (((w.alloc (.cells #[b,.int .i64 f,.int .i64 g] 232)).alloc (.cells #[(c:Int)] 3)).alloc (.cells #[.bool a] 4)).heap.size=w.heap.size+1+1+1 from by simp] at i;exact i
 have G:=p.below o p.lt;have E:=D.below o;obtain ⟨Q,P,J,K,L,O,q⟩:=hqq7 G E v x y j o;clear p D G E v x y j o;go_enter func211,ntmps211;go_wp2_with fail;rw [O.out];refine (aA7 n b _ _ _ r H I f g _ l c a k Q.out P.out J.out K.out L.out S).mono ?_;rintro e w1 ⟨rfl,F,B,C⟩;have z:Vis w w1:=VisF.to_vis (VisF.trans (VisF.of_vis (Vis.of_below q.out)) F) (fun a R e=>by omega);have A:Keep (fun a=>a=n∨a=b) w w1:=(Keep.of_below q.out).trans' B (fun a R e=>by
  rcases e with e | e | e;exact .inl e;exact .inr e
  · omega)
 have U:w1.cell? ⟨w.heap.size+1+1+1,0,none⟩=some (.int .i64 (((l.take c).count a:Nat):Int)):=(C.cell 0).trans rfl;obtain ⟨M,N⟩:=hqq2 z A;clear F B C z A;go_wp2_with fail;go_ret;exact ⟨rfl,M.out,N.out⟩
theorem gQ:(prog.info? 3).map (fun a=>(a.zero,a.size,a.bytes))=some (some (.int .i64 0),1,8):=by kernel_rfl
theorem xB (c:List Nat):∀a∈c.map sv,a.oneCell'=true:=by
 intro a b;obtain ⟨e,_,rfl⟩:=zAx.1 b;rfl
def pT (t:List UInt8):List Nat:=t.map (fun a=>a.toNat+1)
def aJ (t:List UInt8):List Nat:=pT t++ [0]
theorem aT (t:List UInt8):(aJ t).length=t.length+1:=by simp [aJ,pT]
theorem jE (t:List UInt8):∀c∈aJ t,c < 257:=by
 intro c b;unfold aJ pT at b;rcases zCk.1 b with a | a;obtain ⟨e,_,rfl⟩:=zAx.1 a;have:=e.toNat_lt;omega;simp at a;omega
theorem aAN (a:UInt8) (w:World):
 Calls prog 144 #[.int .u8 (a.toNat:Int)] w fun b c=>b=.returned (.int .i64 ((a.toNat+1:Nat):Int))/\Below w.heap.size w c:=by
 have f:=a.toNat_lt;have e:IntKind.i64.wrap (a.toNat:Int)=(a.toNat:Int):=by rw [IntKind.wrap_i64];omega
 go_enter func144,ntmps144;go_wp2;go_ret;exact ⟨dR oM,Below.refl _ _⟩
theorem pF (k ae:Nat) (f:Option Addr) (m q A:Nat) (t:List UInt8) (w:World) (v:Bk w k 22 #[.slice f m q]) (u:Rd w A 1 f m (t.map bv)) (a0:A<=w.heap.size) (ag:m<=1000):
 Calls prog 109 #[.slice (some k) 1 1] w fun E T=>∃g j,E=.returned (.slice g (m+1) j)/\Made T w.heap.size 3 1 g (m+1) j ((aJ t).map sv)/\Below w.heap.size w T:=by
 obtain ⟨S,I,P,Q,R⟩:=info_parts gQ;have O:t.length=m:=by simpa using u.1
 have Z:w.cell? k=some (.slice f m q):=(v.cell 0).trans rfl;have a3:=v.lt;obtain ⟨Y,C⟩:=hqq2 (u.mono a0) O;clear v u O;go_enter func109,ntmps109;go_wp2_with fail;go_loopw [3,10] (fun z e wr=>∃a:Nat,a<=1/\e=.int .i64 a/\wr.ownsRow w.heap.size 3 1 z (if a=0 then 0 else m) ((if a=0 then [] else pT t).map sv)/\Below w.heap.size w wr) (fun _ e _=>1 -(intOf e).toNat)
 case atStart=>exact ⟨0,by omega,rfl,World.ownsRow_nil _ _ _ _,Below.refl _ _⟩
 case round=>
  obtain ⟨a,a4,rfl,b,c⟩:=hrel;have n:=c.size;rcases a with _ | a
  · have ad:wr.cell? k=some (.slice f m q):=(c.cell a3).trans Z;obtain ⟨i,W⟩:=hqq2 b c;clear b c;go_wp2_with fail;obtain ⟨D,a1⟩:∃D,D=wr:=⟨_,rfl⟩;subst a1;go_loopw [3,16] (fun z e U=>∃a:Nat,a<=m/\e=.int .i64 a/\U.ownsRow w.heap.size 3 1 z a ((pT (t.take a)).map sv)/\Below w.heap.size w U) (fun _ e _=>m -(intOf e).toNat)
    case atStart=>exact ⟨0,by omega,rfl,i.out,W.out⟩
    case round=>
        obtain ⟨a,a4,rfl,b,c⟩:=hrel;have n:=c.size;by_cases K:a < m
        · have a6:a < t.length:=(by rw [C.out];exact K);obtain ⟨o,y⟩:∃o,t[a]?=some o:=⟨t[a],zAa a6⟩;obtain ⟨ac,ah,ai,rfl,af,x,a2⟩:=(Y.out.below c).get K;rw [zAf,y] at x;simp at x;subst x;have N:t.take (a+1)=t.take a++ [o]:=(by rw [zAu,y];rfl);unfold bv at a2;obtain ⟨V,p⟩:=hqq2 N b;clear N y b;go_wp2_with fail;refine (aAN o _).mono ?_;rintro E w1 ⟨rfl,G⟩;have L:=aH p.out G;have H:=c.trans (G.mono n);have M:=H.size;have B:=lhd L;clear L;go_wp2_with (at_builtin;refine aY _ rfl (.tmp 20) (.tmp 23) _ rfl w.heap.size 3 S (.int .i64 0) 1 8 underlying39 I P Q R rfl dC _ a _ rfl B.out rfl rfl (by simp [Value.oneCell']) (by unfold maxLen;omega) oM M ?_;intro aa ab s l a9 F);have r:=aL H B.out l M;clear l F;go_roundw
          case rel=>refine ⟨a+1,by omega,by go_num,?_,r⟩;rw [V.out,pT,zAy,zAy];exact s
          case measure=>simp [intOf];omega
        · have a7:a=m:=oM;subst a7;rw [zAg (by rw [C.out];omega)] at b;have p:=lhd b;clear b;go_wp2_with fail;go_roundw
          case rel=>exact ⟨1,by omega,by go_num,p.out,c⟩
          case measure=>simp [intOf]
  · have a5:a=0:=oM;subst a5;rw [zBu oM,zBu oM] at b;have i:=lhd b;have J:(aJ t).map sv=(pT t).map sv++ [.int .i64 0]:=(by simp [aJ,sv]);have X:=lhd J;clear b J;go_wp2_with (at_builtin;refine aY _ rfl (.tmp 27) (.tmp 28) _ rfl w.heap.size 3 S (.int .i64 0) 1 8 underlying39 I P Q R rfl dC _ m _ rfl i.out rfl rfl (by simp [Value.oneCell']) (by unfold maxLen;omega) oM n ?_;intro aa ab s l a9 F);have r:=aL c i.out l n;obtain ⟨g,j,rfl,a8⟩:=aF s;go_ret;exact ⟨g,j,rfl,by rw [X.out];exact a8,r⟩
theorem qH (j:Option Addr) (a c l:Nat) (k:List Nat) (w:World) (i:Rd w l 1 j a (k.map sv)) (r:l<=w.heap.size) (F:a<=1073741824):
 Calls prog 110 #[.slice j a c] w fun q o=>∃f g,q=.returned (.slice f a g)/\Made o w.heap.size 3 1 f a g (k.map sv)/\Below w.heap.size w o:=by
 obtain ⟨D,v,A,B,C⟩:=info_parts gQ;have G:∀(w:World) (b:Option Addr) (a c:Nat),(binOp .eql 39 (.slice b a c) (.slice none 0 0)).run prog w=.ok (.bool b.isNone) w:=fun w b a c=>Lib.run_eql_slice_nil w _ _ b a c _ _ underlying39;rcases j with _ | b
 · have z:a=0:=by
    rcases zAz a with e | e;exact e
    · obtain ⟨_,_,e,_⟩:=i.2 e;cases e
   subst z;have x:k= []:=(by have:=i.1;simp only [zBb,Nat.zero_mul] at this;exact zBj this);subst x;go_enter func110,ntmps110;go_wp2;go_ret;exact ⟨none,0,rfl,⟨World.ownsRow_nil _ _ _ _,Rd.nil _ _ _ _,zAs _,zAp _⟩,Below.refl _ _⟩
 · have p:=lhd i;clear i;go_enter func110,ntmps110;go_wp2_with (at_builtin;refine aP _ rfl (.tmp 5) (.tmp 6) _ rfl w.heap.size 3 D (.int .i64 0) 1 8 underlying39 v A B C rfl dC (.slice (some ⟨w.heap.size,0,none⟩) 0 0) 0 [] rfl (jJ w 3 1) w.heap.size (some b) a c _ rfl ((p.out.mono r).alloc nL _) (xB _) (by unfold maxLen;omega) oM (by simp) ?_;intro H I n u E);have s:=aL ((Below.refl w.heap.size w).alloc nL _) (jJ w 3 1) u (by simp);rw [zBh,List.nil_append] at n;obtain ⟨f,g,rfl,y⟩:=aF n;go_wp2;go_ret;exact ⟨f,g,rfl,y,s⟩
structure OrdAt (W:World) (gw gn gr:Nat) (w n:Nat) (A:Option Addr) (c:Nat) (R:List Nat):Prop where
 wide:W.cell? gw=some (.int .i64 (w:Int))
 len:W.cell? gn=some (.int .i64 (n:Int))
 rank:W.cell? gr=some (.slice A n c)
 rd:Rd W W.heap.size 1 A n (R.map sv)
theorem OrdAt.drewN {e:World} {j g i w k f:Nat} {b:Option Addr} {c:List Nat} (a:OrdAt e j g i w k b f c) (l:Nat):OrdAt (e.drewN l) j g i w k b f c:=⟨a.wide,a.len,a.rank,a.rd⟩
theorem OrdAt.at {i:World} {p n o w k l:Nat} {f:Option Addr} {g:List Nat} (q:OrdAt i p n o w k f l g) {e:Nat} (s:e < k):∃(a b c:Nat),f=some ⟨a,b,none⟩/\g[e]?=some c/\i.cell? ⟨a,b+e,none⟩=some (.int .i64 (c:Int)):=by
 obtain ⟨a,b,x,rfl,v,j,r⟩:=q.rd.get s;rw [zAf] at j;obtain ⟨c,u,rfl⟩:=Option.map_eq_some_iff.1 j;exact ⟨a,b,c,rfl,u,r⟩
theorem rL (n j k w c r:Nat) (q:Option Addr) (f:List Nat) (b:Nat) (i:World) (a:OrdAt i n j k w c q r f) (H:w<=1000) (G:c<=1000) (F:b < c):
 Calls prog 111 #[(b:Int),n,j,k] i fun s y=>s=.returned (.int .i64 (aN f (b+w)))/\∃x,y=i.drewN x:=by
 have D:f.length=c:=by simpa using a.rd.1
 have A:=a.wide;have B:=a.len;have C:=a.rank;by_cases u:b+w < c
 · have v:(b:Int)+(w:Int) < (c:Int):=oM;obtain ⟨z,I,J,rfl,o,E⟩:=a.at u;have e:=lR o;have g:=lhd e;clear o a e;go_enter func111,ntmps111;go_wp2;go_ret;exact ⟨by rw [g.out];first | rfl | simp_all,0,rfl⟩
 · have v:¬((b:Int)+(w:Int) < (c:Int)):=oM;have e:=iX (l:=f) (p:=b+w) oM;have g:=lhd e;clear a e;go_enter func111,ntmps111;go_wp2;go_ret;exact ⟨by rw [g.out];rfl,0,rfl⟩
theorem rK (n l j J w f x:Nat) (P:Option Addr) (a:List Nat) (g i:Nat) (e:World) (b:OrdAt e n l j w f P x a) (a2:e.cell? J=some (.func (.func 111) #[] #[n,l,j])) (M:w<=1000) (L:f<=1000) (r:∀W∈a,W<=1000) (N:g < f) (O:i < f):
 Calls prog 112 #[(g:Int),(i:Int),j,J] e fun o X=>o=.returned (.int .i64 (gA (aN a) w g i))/\∃c,X=e.drewN c:=by
 have a0:=b.rank;have G:=lhd b;obtain ⟨Y,a7,p,K,B,a3⟩:=b.at N;obtain ⟨Z,a8,c,q,k,a4⟩:=b.at O;rw [K] at q;injection q with q;injection q with e1 e2;subst e1 e2;have a5:=r p (zAd B);have a6:=r c (zAd k);have H:=lR B;have I:=lR k;have v:∀C,-1<=aN a C/\aN a C<=1000:=by
  intro C;unfold aN;split
  · next z hz=>
    have:=r z (zAd hz);omega
  omega
 have b1:=v (g+w);have b2:=v (i+w);have A:gA (aN a) w g i=if (p:Int)≠(c:Int) then (p:Int) -(c:Int) else aN a (g+w) - aN a (i+w):=by unfold gA;rw [H,I]
 obtain ⟨D,s⟩:=eqx (aN a (g+w));obtain ⟨E,u⟩:=eqx (aN a (i+w));rw [s,u] at A;rw [s] at b1;rw [u] at b2;rw [A];subst K;obtain ⟨Q,R⟩:=hqq2 s u;clear b B k H I v A s u r;by_cases T:p=c
 · subst T;rw [zBu (by simp)];go_enter func112,ntmps112;go_wp2;go_quiet (fail);go_wp2;have U:∀m:Nat,Calls prog 111 #[(g:Int),n,l,j] (e.drewN (nq+m)) fun o F=>o=.returned (.int .i64 D)/\∃f,F=e.drewN (nq+f):=fun m=>by have b:=rL n l j w f x _ a g (e.drewN (nq+m)) (G.out.drewN _) M L N;rw [Q.out] at b;exact b.mono fun _ _ ⟨y,c,k⟩=>⟨y,m+c,by rw [k,World.drewN_drewN,Nat.add_assoc]⟩
   have V:∀m:Nat,Calls prog 111 #[(i:Int),n,l,j] (e.drewN (nq+m)) fun o F=>o=.returned (.int .i64 E)/\∃f,F=e.drewN (nq+f):=fun m=>by have b:=rL n l j w f x _ a i (e.drewN (nq+m)) (G.out.drewN _) M L O;rw [R.out] at b;exact b.mono fun _ _ ⟨y,c,k⟩=>⟨y,m+c,by rw [k,World.drewN_drewN,Nat.add_assoc]⟩
   have a1:IntKind.i64.wrap (D - E)=D - E:=(by rw [IntKind.wrap_i64];omega);go_quiet ((first |(with_reducible exact U _)|(with_reducible exact V _)));go_wp2;go_ret;exact ⟨dR (by first | omega | rfl),_,World.drewN_drewN _ _ _⟩
 · have S:¬((p:Int)=(c:Int)):=oM;rw [zBv S];go_enter func112,ntmps112;go_wp2;go_quiet (fail);go_wp2;go_quiet (fail);go_wp2;go_ret;exact ⟨dR oM,_,World.drewN_drewN _ _ _⟩
end
section
open Go.RowKit Go Go.Sort
def sufLt (a:List Nat) (b c:Nat):Prop:=∃w,ltW (aN a) w b c
theorem sL {a:Nat->Int} {w e b c:Nat} (f:ltW a w b c) (k:w<=e):ltW a e b c:=by
 obtain ⟨i,j,g⟩:=f;exact ⟨i,by omega,g⟩
theorem sufLt.asymm {c:List Nat} {e f:Nat} (a:sufLt c e f) (b:sufLt c f e):False:=by
 obtain ⟨w,a⟩:=a;obtain ⟨g,b⟩:=b;exact (sL a (Nat.le_max_left w g)).asymm (sL b (Nat.le_max_right w g))
theorem sufLt.trans {c:List Nat} {e f g:Nat} (a:sufLt c e f) (b:sufLt c f g):sufLt c e g:=by
 obtain ⟨w,a⟩:=a;obtain ⟨i,b⟩:=b;exact ⟨_,(sL a (Nat.le_max_left w i)).trans (sL b (Nat.le_max_right w i))⟩
structure IsSuf (l rs:List Nat):Prop where
 perm:rs.Perm (List.range l.length)
 sorted:rs.Pairwise (sufLt l)
theorem IsSuf.len {a b:List Nat} (c:IsSuf a b):b.length=a.length:=by simpa using c.perm.length_eq
theorem IsSuf.lt {a c:List Nat} (e:IsSuf a c) {b:Nat} (f:b∈c):b < a.length:=by simpa using e.perm.mem_iff.1 f
theorem IsSuf.mem {a c:List Nat} (e:IsSuf a c) {b:Nat} (f:b < a.length):b∈c:=e.perm.mem_iff.2 (by simpa using f)
theorem IsSuf.nodup {c a:List Nat} (b:IsSuf c a):a.Nodup:=b.perm.nodup_iff.2 List.nodup_range
theorem IsSuf.unique {a e f:List Nat} (b:IsSuf a e) (c:IsSuf a f):e=f:=by
 refine List.Perm.eq_of_pairwise (le:=sufLt a) ?_ b.sorted c.sorted (b.perm.trans c.perm.symm);intro j k _ _ g i;exact (g.asymm i).elim
def eK (m:Nat) (a:Fin (m+1)):Value:=.int .i64 ((a.val:Nat):Int)
theorem lA (m:Nat) (a:Fin (m+1)):(eK m a).oneCell'=true:=rfl
section
variable {α : Type} [Inhabited α] {enc : α -> Value} {w : World} {blk : Nat} {t : TypeId} {d d' : Array α}
theorem aBW (d:Array α) (a:Nat) (b:a < d.size):d[a]! =d[a]:=getElem!_pos d a b
theorem sJ (c:d'.size=d.size):putCells enc 0 d' (d.map enc)=d'.map enc:=by
 apply Array.ext
 · simp [putCells,c]
 · intro e f a;have b:e < d'.size:=(by simpa using a);simp [putCells,b,aBW]
theorem aCG (a:Bk w blk t (d.map enc)) (f:d'.size=d.size) (b:Nat) (g:Array Obj):Bk (sortWorld enc w blk 0 b d' g) blk t (d'.map enc):=by
 have e:=a.lt;unfold Bk at a⊢;have c:(putRow enc (Sort.ahead w b) blk 0 d').heap[blk]?=some (.cells (d'.map enc) t (0,0)):=by show (w.heap.modify blk _)[blk]?=_;rw [Array.getElem?_modify,zBv rfl,a];simp only [Option.map_some,onCells];rw [sJ f]
 unfold sortWorld;rw [heap_grow_old _ _ (by show blk < (w.heap.modify blk _).size;simpa using e)];exact c
theorem jF (k:blk < w.heap.size) (j i:Nat) (d':Array α) (b:Array Obj):Keep (fun c=>c=blk) w (sortWorld enc w blk j i d' b):=by
 refine ⟨rfl,rfl,rfl,?_,fun a f g=>?_⟩
 · show w.heap.size<=((w.heap.modify blk _)++b).size;simp
 · unfold sortWorld;rw [heap_grow_old _ _ (by show a < (w.heap.modify blk _).size;simpa using f)];show (w.heap.modify blk _)[a]?=_;rw [Array.getElem?_modify,zBu (fun e=>g e.symm)]
theorem aCj (a:Bk w blk t (d.map enc)):Holds enc w blk 0 d:=by
 intro c b;rw [zBh];refine ⟨?_,a.frozen c⟩;rw [a.cell];simp [b,aBW]
end
theorem wV {α:Type} [Inhabited α] {d d':Array α} (a:PermIn 0 d.size d d'):d'.toList.Perm d.toList:=by
 have e:=a.2.2;have b:d'.extract 0 d.size=d':=by rw [<-a.1];exact Array.extract_size
 have c:d.extract 0 d.size=d:=Array.extract_size;rwa [b,c] at e
def cR {m:Nat} (d:Array (Fin (m+1))) (a:Nat):Nat:=(d[a]!).val
structure RowsOk (m:Nat) (d:Array (Fin (m+1))):Prop where
 size:d.size=m+1
 perm:d.toList.Perm (List.finRange (m+1))
theorem gO {m:Nat} {d:Array (Fin (m+1))} {i:Nat} (a:i < d.size):(d.toList.map (·.val))[i]?=some (cR d i):=by
 rw [zAf,Array.getElem?_toList,zAq a];simp [cR,aBW d i a]
section
variable {m : Nat} {d : Array (Fin (m + 1))}
theorem RowsOk.lt (b:RowsOk m d) (a:Nat):cR d a < m+1:=(d[a]!).isLt
theorem RowsOk.vals (c:RowsOk m d):(d.toList.map (·.val)).Perm (List.range (m+1)):=by
 have a:=c.perm.map (·.val);have b:(List.finRange (m+1)).map (·.val)=List.range (m+1):=by
  apply List.ext_getElem
  · simp
  · intro f a e;simp
 rwa [b] at a
theorem RowsOk.nodup (a:RowsOk m d):(d.toList.map (·.val)).Nodup:=a.vals.nodup_iff.2 List.nodup_range
theorem RowsOk.inj (a:RowsOk m d) {i j:Nat} (b:i < m+1) (e:j < m+1) (c:cR d i=cR d j):i=j:=by
 refine (List.getElem?_inj (l:=d.toList.map (·.val)) (by simpa [a.size] using b) a.nodup).1 ?_;rw [gO (by rw [a.size];exact b),gO (by rw [a.size];exact e),c]
theorem RowsOk.sur (c:RowsOk m d) {p:Nat} (k:p < m+1):∃a,a < m+1/\cR d a=p:=by
 have g:p∈d.toList.map (·.val):=c.vals.mem_iff.2 (by simpa using k);obtain ⟨a,e,j⟩:=List.getElem_of_mem g;have f:a < m+1:=by simpa [c.size] using e
 refine ⟨a,f,?_⟩;have b:=gO (d:=d) (i:=a) (by rw [c.size];exact f);rw [zAa e,j] at b;injection b with b;exact b.symm
theorem RowsOk.cell (b:RowsOk m d) {a:Nat} (c:a < m+1):(d.map (eK m))[a]?=some (.int .i64 ((cR d a:Nat):Int)):=by
 have:a < d.size:=by rw [b.size];exact c
 simp [eK,cR,this,aBW]
theorem RowsOk.of_perm {d':Array (Fin (m+1))} (a:RowsOk m d) (b:PermIn 0 d.size d d'):RowsOk m d':=
 ⟨b.1.trans a.size,(wV b).trans a.perm⟩
theorem RowsOk.suf (c:RowsOk m d) {l:List Nat} (p:l.length=m+1) {w:Nat} (q:∀a b,a < b->b < m+1->ltW (aN l) w (cR d a) (cR d b)):IsSuf l (d.toList.map (·.val)):=by
 refine ⟨by rw [p];exact c.vals,?_⟩;rw [zAr];intro a b g j o;have n:a < m+1:=by simpa [c.size] using g
 have k:b < m+1:=by simpa [c.size] using j
 have e:=gO (d:=d) (i:=a) (by rw [c.size];exact n);have f:=gO (d:=d) (i:=b) (by rw [c.size];exact k);rw [zAa g] at e;rw [zAa j] at f;injection e with e;injection f with f;rw [e,f];exact ⟨w,q a b o k⟩
end
def oN (m:Nat):Array (Fin (m+1)):=(List.finRange (m+1)).toArray
theorem aBB (m:Nat):RowsOk m (oN m):=⟨by simp [oN],by simp [oN]⟩
theorem aBH {b:Nat} {cs:Array Value} {f:Nat->Nat} {v:Nat->Nat} (z:b<=cs.size) (r:∀a,a < b->f a < b) (q:∀a,a < b->cs[f a]?=some (.int .i64 ((v a:Nat):Int))) (s:∀i,i < b->∃c,c < b/\f c=i):
 ∃j:List Nat,j.length=b/\(∀a,a < b->j[f a]?=some (v a))/\(∀(a:Nat) n,(j.map sv)[a]?=some n->cs[a]?=some n)/\∀u∈j,∃a,a < b/\u=v a:=by
 let p:Nat->Nat:=fun i=>match cs[i]? with
  | some (.int _ o)=>o.toNat
  | _=>0
 have k:∀a,a < b->p (f a)=v a:=by intro a g;show (match cs[f a]? with | some (.int _ o)=>o.toNat | _=>0)=v a;rw [q a g];simp
 refine ⟨(List.range b).map p,by simp,fun a g=>?_,fun a n l=>?_,fun u y=>?_⟩
 · simp [r a g,k a g]
 have g:a < b:=(by have:=(zAc.1 l).1;simpa using this);obtain ⟨c,e,rfl⟩:=s a g;simp [r c e,k c e] at l;rw [q c e,<-l];rfl;obtain ⟨i,x,rfl⟩:=zAx.1 y;obtain ⟨c,e,rfl⟩:=s i (by simpa using x);exact ⟨c,e,k c e⟩
def cfF (m w:Nat) (a:List Nat) (b c:Fin (m+1)):Int:=gA (aN a) w b.val c.val
theorem aDt {g e:List Nat} {w:Nat} (m:Nat) (b:RankOk (aN g) (aN e) w):SWO (ltOf (cfF m w e)) where
 irrefl x:=by unfold ltOf cfF;rw [decide_eq_false_iff_not,nS b];exact fun b=>b.irrefl
 trans x y z h1 h2:=by
  unfold ltOf cfF at*
  rw [decide_eq_true_iff,nS b] at*
  exact h1.trans h2
 ntrans x y z h1 h2:=by
  unfold ltOf cfF at*
  rw [decide_eq_false_iff_not,nS b] at*
  intro f;rcases lF (a:=aN g) (w+w) x.val y.val with c | c | c;exact h1 c;exact h2 (ltW.eq_left c.symm f);exact h2 (c.trans f)
theorem aBu {e c:List Nat} {w m:Nat} {d:Array (Fin (m+1))} (f:RankOk (aN e) (aN c) w) (j:d.size=m+1) (i:SortedIn (ltOf (cfF m w c)) 0 (m+1) d) (a:Nat) (g:a+1 < m+1):¬ltW (aN e) (w+w) (cR d (a+1)) (cR d a):=by
 have b:=i a (a+1) (zAp _) oM g;unfold ltOf cfF at b;rw [decide_eq_false_iff_not,nS f] at b;exact b
end
end Go.Proofs.YtihaijbgmjdhgaaGreatDoor
