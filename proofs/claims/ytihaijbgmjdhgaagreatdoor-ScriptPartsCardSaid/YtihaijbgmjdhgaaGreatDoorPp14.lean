/- Lemmas of the walk. Conditions: each its own. -/
import Derived.Test.YtihaijbgmjdhgaaGreatDoorPp10
import Derived.Test.YtihaijbgmjdhgaaGreatDoorPp11
import Derived.Test.YtihaijbgmjdhgaaGreatDoorPp12
import Derived.Test.YtihaijbgmjdhgaaGreatDoorRows
import Derived.Test.YtihaijbgmjdhgaaGreatDoorProg
import Derived.Test.YtihaijbgmjdhgaaGreatDoorSht
import Derived.Test.YtihaijbgmjdhgaaGreatDoorShl
set_option linter.all false
set_option maxRecDepth 100000
set_option maxHeartbeats 4000000
open Go.Proofs.Tryz
namespace Go.Proofs.YtihaijbgmjdhgaaGreatDoor
section
open Go.RowKit
def jC:List (String×DataW Unit):= [("math/bits.deBruijn64tab",Rows.laid_math_bits_deBruijn64tab)]
theorem aD2:prog.globalNamed "math/bits.deBruijn64tab" =some 7:=by kernel_rfl
theorem aD7:(prog.globals[7]?).map (·.type)=some 339:=by kernel_rfl
theorem aB7 (b:Os) (a:Array Value):laidMetH prog jC ((World.doorLaid prog 14 b).forCall (fun _ _=>0) ⟨#[],a, []⟩).memory:=
 laidMetH_of_parts3 (fuel:=8) (laidMet_of_run' 8 kR kR) kR kR
theorem zP:(Rows.laid_math_bits_deBruijn64tab:DataW Unit)=Lib.tabData .u8 (Lib.deBruijn64tab.map fun n:Nat=>(n:Int)):=rfl
theorem rW {b:World} (a:laidMetH prog jC b):TabW b:=by
 rw [MakeChecks.laidMetH_plain _ _ _ kR] at a;unfold jC at a;rw [zP] at a;have d:=Lib.tabIs_of_head aD2 aD7 underlying339 underlying5 kR kR a;intro c e;have:=d.cell aD2 c (by rw [zBb];exact e);rw [this,zAb,zAf,zAb];cases Lib.deBruijn64tab[c]? <;> rfl
theorem ix9 (a:Nat->Value) (b:Nat) (c:b < 9) (w:World):(Instr.index 227 (.agg #[a 0,a 1,a 2,a 3,a 4,a 5,a 6,a 7,a 8]) (.int .i64 (b:Int))).run prog w=.ok (a b) w:=by
 rcases b with _ | _ | _ | _ | _ | _ | _ | _ | _ | b
 all_goals first |(exfalso;omega)| kernel_rfl
theorem sU (B c:Nat) (f:List Nat) (g b:Nat) (w:World) (aF:WaveAt w B c f) (v:b < 257) (ah:g<=f.length) (I:∀q∈f,q < 257) (aK:f.length<=1000):
 Calls prog 227 #[c,(g:Int),(b:Int)] w fun s w'=>s=.returned (.int .i64 (((f.take g).count b:Nat):Int))/\VB B w w':=by
 have ad:=rH f g b ah I v;have ae:=aAK f g b;obtain ⟨af,i,al,o,aj⟩:=aF;have x:=o.set 10 (.int .i64 0);rw [cM] at x;have U:=VB.set_wave o af 0;obtain ⟨n,O⟩:=eqx f.length;rw [O] at o x ah aK;have bq:max (g:Int) 0=(g:Int):=oM;have br:min (g:Int) (n:Int)=(g:Int):=oM;have aE:=o.frozen 10;have aV:w.cell? ⟨c,10,none⟩=some (.int .i64 al):=(o.cell 10).trans (bJ i n al).2.2.2.2.2.2.2.2.2.2;have bm:=o.lt;obtain ⟨aY,J⟩:=eqx (w.setCell ⟨c,10,none⟩ (.int .i64 0));rw [J] at x U;obtain ⟨E,a1,aw,an,ao,aW,aX,ap⟩:=hqq8 x U aj ad ae I O J;clear o aj x U ad ae I O J;go_enter func227,ntmps227;go_wp2_with fail;rw [ap.out];refine (eR b _ v).mono ?_;rintro s w1 ⟨rfl,K⟩;have k:=E.out.below K E.out.lt;have ak:=a1.out.below K;obtain ⟨a3,a4,a5,a6,a7,a8,a9,aa,ab,ac,aA⟩:=bJ i (n:Int) 0;have b2:w1.cell? c=some (i 0):=(k.cell 0).trans a3;have b3:w1.cell? ⟨c,1,none⟩=some (i 1):=(k.cell 1).trans a4;have b4:w1.cell? ⟨c,2,none⟩=some (i 2):=(k.cell 2).trans a5;have b5:w1.cell? ⟨c,3,none⟩=some (i 3):=(k.cell 3).trans a6;have b6:w1.cell? ⟨c,4,none⟩=some (i 4):=(k.cell 4).trans a7;have b7:w1.cell? ⟨c,5,none⟩=some (i 5):=(k.cell 5).trans a8;have b8:w1.cell? ⟨c,6,none⟩=some (i 6):=(k.cell 6).trans a9;have b9:w1.cell? ⟨c,7,none⟩=some (i 7):=(k.cell 7).trans aa;have ba:w1.cell? ⟨c,8,none⟩=some (i 8):=(k.cell 8).trans ab;have bb:w1.cell? ⟨c,9,none⟩=some (.int .i64 (n:Int)):=(k.cell 9).trans ac;obtain ⟨ar,G⟩:=hqq2 k ak;clear a3 a4 a5 a6 a7 a8 a9 aa ab ac aA k ak K E a1 aV aE;go_wp2_with fail;go_loopw [1,28] (fun q Y wr=>∃a:Nat,a<=9/\Y=.int .i64 a/\q=.int .i64 ((iM f g b a:Nat):Int)/\VB B w1 wr) (fun _ Y _=>9 -(intOf Y).toNat)
 case atStart=>exact ⟨0,by omega,rfl,by rw [an.out],VisK.refl _ _⟩
 case round=>
  obtain ⟨a,bn,rfl,rfl,T⟩:=hrel;by_cases A:a < 9
  · have aJ:=ix9 i a A;obtain ⟨D,t,S⟩:=aw.out a A;obtain ⟨y,N⟩:=eqx (2 ^ a);obtain ⟨d,u⟩:=eqx (bH b a);have ai:d < y:=(by rw [<-N,<-u];exact nR b a v oM);rw [N] at t S;obtain ⟨r,a2,ag,bo,bl⟩:=World.ownsRow.form t oM;rw [ag] at aJ t;obtain ⟨q,C⟩:=eqx (iM f g b a);obtain ⟨Z,X⟩:=eqx (iM f g b (a+1));obtain ⟨H,M⟩:=eqx (iH b a);have W:=rI f g b a A;have V:=aDa f g b a;rw [u,C,M,X] at W;rw [u,C] at V;rw [C];have bp:(d:Int) < (y:Int):=oM;obtain ⟨ay,ax,au,a0,av,aq,az,z⟩:=hqq8 W V t (S d ai) u M X T;clear t S ag N u C X M W V T;go_wp2_with fail;refine wp_region_any kR ?_;refine aI [32,33,34,35,36,37,38,39,40,41,42,43,1] (VB B) (Vs [is c,is (.slice (some r) y a2),is (b:Int),is (a:Int),is (d:Int),is (.pointer (some ⟨r,d*3,none⟩)),is (.agg #[.pointer (some ⟨D d,0,none⟩),(a:Int),(d:Int)]),is (q:Int),is (b:Int),is (a:Int),is (.bool H),is (Z:Int),is (Z:Int)]) _ _ rfl kR vR (fun _ _=>VisK.trans) (fS tA2) ?_ ?_
    · refine aG ?_;refine pH 0 (.pointer (some c)) ?_;refine pH 8 (.slice (some r) y a2) ?_;refine pH 2 (.int .i64 (b:Int)) ?_;refine pH 7 (.int .i64 (a:Int)) ?_;refine sC (fun _ m _ _ _ _ e _ _ _ p=>?_) ?_
      · have bd:_=_:=e 2 34 kR rfl;have be:_=_:=e 3 35 kR rfl;go_simp;refine (nI b a m v oM).mono ?_;rintro s am ⟨rfl,L⟩;rw [av.out];exact p _ _ (VisK.of_below L) rfl
      refine pW 1 33 4 36 ?_;refine sC (fun _ m j _ _ _ e _ _ _ p=>?_) ?_
      · have bf:_=_:=e 5 37 kR rfl;replace j:(VB B) wr m:=bD j;have R:=(G.out.trans (z.out.trans j)).1.own au.out dC dC;obtain ⟨aP,aQ,aR⟩:=gX D a y d ai;have aZ:m.cell? ⟨r,d*3,none⟩=_:=(World.ownsRow.cellAt R (d*3) oM).trans aP;have b0:m.cell? ⟨r,d*3+1,none⟩=_:=(World.ownsRow.cellAt R (d*3+1) oM).trans aQ;have b1:m.cell? ⟨r,d*3+2,none⟩=_:=(World.ownsRow.cellAt R (d*3+2) oM).trans aR;go_simp;exact p _ _ vR rfl
      refine pH 1 (.int .i64 (q:Int)) ?_;refine pH 2 (.int .i64 (b:Int)) ?_;refine pH 7 (.int .i64 (a:Int)) ?_;refine sC (fun _ m _ _ _ _ e _ _ _ p=>?_) ?_
      · have bi:_=_:=e 8 40 kR rfl;have bj:_=_:=e 9 41 kR rfl;go_simp;refine (pE b a m v A).mono ?_;rintro s am ⟨rfl,L⟩;rw [aq.out];exact p _ _ (VisK.of_below L) rfl
      refine sC (fun _ m j _ _ _ e _ _ _ p=>?_) ?_
      · have bc:_=_:=e 0 32 kR rfl;have bg:_=_:=e 6 38 kR rfl;have bh:_=_:=e 7 39 kR rfl;have bk:_=_:=e 10 42 kR rfl;replace j:(VB B) wr m:=bD j;go_simp;obtain ⟨aS,aO⟩:=(z.out.trans j).1.waveC ar.out;have aL:=a0.out.2.vis (G.out.trans (z.out.trans j)).1;refine (pC c (D d) i n aS a d (aU f a d) q H m aO aL ax.out).mono ?_;rintro s am ⟨rfl,aN⟩;rw [ay.out];exact p _ _ (aN.mono fun H o=>by rcases o with rfl | rfl;exact af;exact a0.out.1) rfl
      refine pV 11 43 ?_;exact aC
    · intro aD aT j e;replace j:(VB B) wr aT:=bD j;have aB:aD (.tmp 1)=.int .i64 (Z:Int):=e 12 1 rfl;simp only [zqq];rw [aB];clear e;have aM:=z.out.trans j;go_wp2_with fail;go_roundw
      case rel=>exact ⟨a+1,by omega,by go_num,by rw [az.out],aM⟩
      case measure=>simp [intOf];omega
  · have aH:a=9:=oM;subst aH;rw [ao.out];go_wp2_with fail;go_ret;exact ⟨rfl,G.out.trans T⟩
theorem yA:(prog.info? 144).map (fun a=>(a.zero,a.size,a.bytes))=some (some (.slice none 0 0),1,24):=by kernel_rfl
theorem wN:(prog.info? 232).map (fun a=>(a.zero,a.size,a.bytes))=some (some (.agg #[.pointer none,.int .i64 0,.int .i64 0]),3,24):=by kernel_rfl
theorem aBA (n:Nat) (g:n<=1000000) (w:World):(Instr.makeSlice 265 (.int .i64 (n:Int)) (.int .i64 (n:Int))).run prog w=.ok (.slice (some w.heap.size) n n) (w.alloc (.cells (rowC (fun _=>.slice none 0 0) n) 144)):=by
 obtain ⟨f,b,c,d,e⟩:=info_parts yA;have:=run_make (P:=prog) w 265 144 f (.slice none 0 0) underlying265 b c .i64 .i64 n n oM (Int.le_refl _) (by rw [e];omega) oM;rw [this,d,wR];have a:madeCells #[.slice none 0 0] n=Array.replicate n (.slice none 0 0):=by apply Array.ext';rw [toList_madeCells_one];simp
 simp only [Value.cells,zBp,zBk];rw [a]
end
section
open Go.RowKit Go
section
variable {P : Program} {ops : Array Oper} {Q : Exit -> Act -> World -> Prop} {md : Region.Mode}
theorem mU (n:Nat) (u:List Nat) (d:World->Prop) (j:Nat->World->World->Prop) (k:Nat->World->Prop) (e:Nat->Value->World->Prop) (f:Act)
 (p:World) (L:(ops.toList.take n).filterMap (·.dst)=u) (z:n<=ops.size) (R:eL md ops f.tmps.size=true) (Y:((List.range ops.size).all fun r=>decide (r < n)||(List.range n).all fun a=>upB md ops ops.size r a)=true) (G:d p) (J:∀a,k a p) (E:∀b w w',b < n->d w->j b w w'->d w')
 (I:∀a b w w',b < n->a≠b->upB md ops ops.size b a=false->k a w->d w->j b w w'->k a w')
 (U:∀a b c w w',b < n->a≠b->kK md ops a b=false->e a c w->d w->j b w w'->e a c w')
 (V:∀b s,b < n->ops[b]?=some s->bS P ops Q md d j k e f b s)
 (M:∀(y:Operand->Value) w v,d w->(∀a m,a < n->((ops[a]?).bind (·.dst))=some m->e a (y (.tmp m)) w)->(∀a,a < n->∃c,e a c w)->wpAny P md ops Q (ops.size - n+v) (bG n ops.size) (cD y u f) w):
 wpAny P md ops Q ops.size (Array.replicate ops.size false) f p:=by
 refine nY n d j k e f p z R Y G J E I (fun a b c w w' g o D _=>U a b c w w' g o D) V fun t w v H W K S A=>?_;have g:=M t.eval w v H (fun a m q i=>by
  cases x:ops[a]? with
  | none=>rw [x] at i;cases i
  | some s=>
    rw [x] at i;obtain ⟨c,g,o⟩:=A a s q x;have:=g m i;change e a (t.tmps.getD m undef) w;rw [this];exact o) (fun a q=>by
  obtain ⟨c,_,o⟩:=A a _ q (zAq (zAl q z));exact ⟨c,o⟩)
 rw [<-gU t f u W K fun Z X=>S Z fun r C N T i=>X ?_] at g;exact g;rw [<-L];refine List.mem_filterMap.2 ⟨C,?_,i⟩;have O:(ops.toList.take n)[r]?=some C:=(by rw [zBq,zBv N,Array.getElem?_toList];exact T);exact zAd O
end
def VFB (B:Nat) (F:Nat->Prop) (w w':World):Prop:=VisF F w w'/\Keep (fun a=>F a∨B<=a) w w'
theorem fD {B:Nat} {F:Nat->Prop} {w w':World} (a:VFB B F w.drew w'):VFB B F w w':=⟨⟨a.1.os,a.1.tape,a.1.output,a.1.size,a.1.block⟩,⟨a.2.os,a.2.tape,a.2.output,a.2.size,a.2.block⟩⟩
section
variable {B : Nat} {F : Nat -> Prop} {w w1 w' : World}
theorem VFB.of_vb (a:VB B w w'):VFB B F w w':=⟨VisF.of_vis a.1,a.2.mono fun _ _ b=>.inr b⟩
theorem VFB.trans (a:VFB B F w w1) (b:VFB B F w1 w'):VFB B F w w':=⟨a.1.trans b.1,a.2.trans b.2⟩
theorem VFB.put (b:VFB B F w w1) {p:Addr} (c:F p.block∨w.heap.size<=p.block) (a:Value):VFB B F w (w1.setCell p a):=⟨VisF.put b.1 c a,b.2.setCell (c.elim (fun d=>.inl (.inl d)) .inr) a⟩
theorem VFB.to_vb (c:VFB B F w w') (d:∀a,a < w.heap.size->¬F a):VB B w w':=⟨c.1.to_vis d,c.2.mono fun a e b=>b.elim (fun b=>absurd b (d a e)) id⟩
end
def zH (B:Nat) (F:Nat->Prop) (a b:Nat) (w w':World):Prop:=(b=a->VFB B F w w')/\(b≠a->VB B w w')
theorem qO {B:Nat} {F:Nat->Prop} {a d:Nat} {w w':World} (b:zH B F a d w w'):VFB B F w w':=by
 by_cases c:d=a;exact b.1 c;exact VFB.of_vb (b.2 c)
theorem bE {B:Nat} {F:Nat->Prop} {b c:Nat} {w w':World} (a:VB B w w'):zH B F b c w w':=⟨fun _=>VFB.of_vb a,fun _=>a⟩
theorem nX {P:Program} {ops:Array Oper} {Q:Exit->Act->World->Prop} {md:Region.Mode} (B n:Nat) (p:List Nat) (F:Nat->Prop) (b:Nat) (r:List Nat) (m:World->Prop) (k:Value->World->Prop) (l:List (Value->World->Prop)) (g:Act) (d:World)
 (E:(ops.toList.take n).filterMap (·.dst)=p) (I:n<=ops.size) (H:eL md ops g.tmps.size=true) (O:((List.range ops.size).all fun c=>decide (c < n)||(List.range n).all fun a=>upB md ops ops.size c a)=true)
 (L:(r.all fun a=>a==b||upB md ops ops.size b a)=true)
 (K:m d) (J:∀w w',m w->VFB B F d w->VB B w w'->m w') (D:aCn (VB B) k) (M:∀S∈l,aCn (VFB B F) S)
 (N:∀e y,e < n->ops[e]?=some y->bS P ops Q md (VFB B F d) (zH B F b) (fun a w=>r.contains a=true->m w) (VsJ b k l) g e y)
 (G:∀(t:Operand->Value) w f,VFB B F d w->(∀a s,a < n->((ops[a]?).bind (·.dst))=some s->VsJ b k l a (t (.tmp s)) w)->(∀a,a < n->∃o,VsJ b k l a o w)->wpAny P md ops Q (ops.size - n+f) (bG n ops.size) (cD t p g) w):
 wpAny P md ops Q ops.size (Array.replicate ops.size false) g d:=by
 refine mU n p (VFB B F d) (zH B F b) (fun a w=>r.contains a=true->m w) (VsJ b k l) g d E I H O (VFB.of_vb vR) (fun _ _=>K) (fun e w w' _ A c=>A.trans (qO c)) (fun a e w w' _ q R i C c v=>?_) (fun a e o w w' _ q _ j _ c=>?_) N G;by_cases x:e=b;exfalso;subst x;have u:=zBe.1 L a (by simpa using v);simp only [R,Bool.or_false,zCl] at u;exact q u;exact J w w' (i v) C (c.2 x);unfold VsJ at j⊢;by_cases i:a=b;rw [zBv i] at j⊢;exact D o w w' j (c.2 fun z=>q (i.trans z.symm));rw [zBu i] at j⊢;exact fS M a o w w' j (qO c)
end
section
open Go.RowKit
theorem mV {a b:List Nat} (c:a.Perm b):tcells a=tcells b:=by
 refine oB _ _ (eU a) (fun e d=>?_) ?_
 · rw [eM a d,c.count_eq]
 · rw [gV,c.length_eq]
def gC (c:IntKind) (n:Nat) (a:Nat->Nat):Array Value:=((List.range n).map fun b=>Value.int c ((a b:Nat):Int)).toArray
theorem gS (b:IntKind) (n:Nat) (a:Nat->Nat):(gC b n a).size=n:=by simp [gC]
theorem dP {c:IntKind} {n:Nat} {b:Nat->Nat} {a:Nat} (d:a < n):(gC c n b)[a]?=some (.int c ((b a:Nat):Int)):=by
 unfold gC;rw [List.getElem?_toArray,zAf,zCg d];rfl
theorem mO {c:IntKind} {n:Nat} {b:Nat->Nat} {a:Nat} (d:¬a < n):(gC c n b)[a]?=none:=Array.getElem?_eq_none (by rw [gS];omega)
theorem bY {d:IntKind} {n:Nat} {b c:Nat->Nat} (e:∀a,a < n->b a=c a):gC d n b=gC d n c:=by
 unfold gC;congr 1;exact List.map_congr_left fun a f=>by rw [e a (zCf.1 f)]
theorem gT {e:IntKind} {n:Nat} {f:Nat->Nat} {d i:Nat} (g:d < n):(gC e n f).setIfInBounds d (.int e ((i:Nat):Int))=gC e n (fun c=>if c=d then i else f c):=by
 apply Array.ext_getElem?;intro c;rw [zCb,gS];by_cases b:c < n
 · rw [dP b,dP b];by_cases a:d=c
   · subst a;rw [zBv rfl,zBv b,zBv rfl]
   · rw [zBu a,zBu (fun g=>a g.symm)]
 · rw [mO b,mO b];by_cases a:d=c
   · subst a;rw [zBv rfl,zBu b]
   · rw [zBu a]
theorem jP (b:IntKind) (n:Nat):Array.replicate n (Value.int b 0)=gC b n (fun _=>0):=by
 apply Array.ext_getElem?;intro c;by_cases a:c < n;rw [dP a,Array.getElem?_replicate,zBv a];rfl
 · rw [mO a,Array.getElem?_replicate,zBu a]
theorem aAL (b:IntKind) (n:Nat) (a:Nat->Nat):(gC b n a).toList=(List.range n).map fun c=>Value.int b ((a c:Nat):Int):=rfl
theorem TabW.vb {B:Nat} {w w':World} (b:TabW w) (e:VB B w w') (f:7 < B) (d:7 < w.heap.size):TabW w':=
 fun a c=>(e.2.cell (p:=⟨7,a,none⟩) d (by show ¬(B<=7);omega)).trans (b a c)
end
section
open Go.RowKit Go.Shelf
attribute [local go_sem] Oper.semAt_some
section
variable {P : Program} {ops : Array Oper} {md : Region.Mode} {Q : Exit -> Act -> World -> Prop} {l n : Nat}
end
def KpB (b1 b2:Nat) (b c:World):Prop:=∀a:Addr,(a.block=b1∨a.block=b2)->c.cell? a=b.cell? a
theorem KpB.trans {b1 b2:Nat} {a B b:World} (e:KpB b1 b2 a B) (f:KpB b1 b2 B b):KpB b1 b2 a b:=fun d c=>(f d c).trans (e d c)
end
section
open Go.RowKit
theorem aBa (i f:Nat) (a:Option Addr) (d b:Nat) (e c p:Int) (g:List UInt8) (w:World) (q:Bk w i 65 #[f,.int .i64 p]) (o:PlS w f g):
 Calls prog 30 #[i,bZ 8 e c a d b] w fun k w'=>dM f g ⟨0,0, [], []⟩ w w' k:=by
 unfold bZ;go_enter func30,ntmps30;go_wp2;have j:=((Below.refl w.heap.size w).alloc nL (.cells #[.int .i64 8,.int .i64 e,.int .i64 c,.slice a d b] 44)).alloc (by simp) (.cells #[.int .i64 0,.int .i64 0,.slice none 0 0,.slice none 0 0] 41);have m:Bk ((w.alloc (.cells #[.int .i64 8,.int .i64 e,.int .i64 c,.slice a d b] 44)).alloc (.cells #[.int .i64 0,.int .i64 0,.slice none 0 0,.slice none 0 0] 41)) (w.heap.size+1) 41 #[.int .i64 0,.int .i64 0,.slice none 0 0,.slice none 0 0]:=by simpa using Bk.new (w.alloc (.cells #[.int .i64 8,.int .i64 e,.int .i64 c,.slice a d b] 44)) 41 #[.int .i64 0,.int .i64 0,.slice none 0 0,.slice none 0 0]
 exact eG (s:=w.heap.size+1) (A1:=none) (c1:=0) (A2:=none) (c2:=0) (.inl rfl) rfl m (Keep.of_below j) (aM _ _ _) (aM _ _ _) (o.keep j)
theorem aDU (j c:Nat) (d:Option Addr) (g e:Nat) (i f C:Int) (b:List UInt8) (w:World) (k:Bk w j 65 #[c,.int .i64 C]) (o:PlS w c b) (x:b.length<=549755813888):
 Calls prog 30 #[j,bZ 4 i f d g e] w fun v w'=>dM c b ⟨0,(b.length:Int), [], []⟩ w w' v:=by
 have q:=lhd o;obtain ⟨p,r,a,A,E,z⟩:=dS o;obtain ⟨n,m⟩:=eqx b.length;rw [m] at a x⊢;have D:=k.lt;have G:=a.lt;have t:w.cell? j=some (.pointer (some c)):=(k.cell 0).trans rfl;have u:w.cell? c=some (.slice p n r):=(a.cell 0).trans rfl;clear a A z m k;unfold bZ;go_enter func30,ntmps30;go_wp2;have a:=((Below.refl w.heap.size w).alloc nL (.cells #[.int .i64 4,.int .i64 i,.int .i64 f,.slice d g e] 44)).alloc (by simp) (.cells #[.int .i64 0,(n:Int),.slice none 0 0,.slice none 0 0] 41);have y:Bk ((w.alloc (.cells #[.int .i64 4,.int .i64 i,.int .i64 f,.slice d g e] 44)).alloc (.cells #[.int .i64 0,(n:Int),.slice none 0 0,.slice none 0 0] 41)) (w.heap.size+1) 41 #[.int .i64 0,(n:Int),.slice none 0 0,.slice none 0 0]:=by simpa using Bk.new (w.alloc (.cells #[.int .i64 4,.int .i64 i,.int .i64 f,.slice d g e] 44)) 41 #[.int .i64 0,(n:Int),.slice none 0 0,.slice none 0 0]
 exact eG (s:=w.heap.size+1) (A1:=none) (c1:=0) (A2:=none) (c2:=0) (.inl rfl) rfl y (Keep.of_below a) (aM _ _ _) (aM _ _ _) (q.out.keep a)
theorem aCy (j g:Nat) (b:Option Addr) (e c:Nat) (a f d r:Int) (i:List UInt8) (w:World) (t:Bk w j 65 #[g,.int .i64 r]) (q:PlS w g i) (p:a < 1∨8 < a):
 Calls prog 30 #[j,bZ a f d b e c] w fun m w'=>dM g i ⟨1,0, [], []⟩ w w' m:=by
 unfold bZ;have u:(a==1)=false:=by rw [zBz];omega
 have v:(a==2)=false:=by rw [zBz];omega
 have x:(a==3)=false:=by rw [zBz];omega
 have y:(a==4)=false:=by rw [zBz];omega
 have z:(a==5)=false:=by rw [zBz];omega
 have A:(a==6)=false:=by rw [zBz];omega
 have C:(a==7)=false:=by rw [zBz];omega
 have D:(a==8)=false:=by rw [zBz];omega
 clear p;go_enter func30,ntmps30;go_wp2;have k:=((Below.refl w.heap.size w).alloc nL (.cells #[.int .i64 a,.int .i64 f,.int .i64 d,.slice b e c] 44)).alloc (by simp) (.cells #[.int .i64 1,.int .i64 0,.slice none 0 0,.slice none 0 0] 41);have o:Bk ((w.alloc (.cells #[.int .i64 a,.int .i64 f,.int .i64 d,.slice b e c] 44)).alloc (.cells #[.int .i64 1,.int .i64 0,.slice none 0 0,.slice none 0 0] 41)) (w.heap.size+1) 41 #[.int .i64 1,.int .i64 0,.slice none 0 0,.slice none 0 0]:=by simpa using Bk.new (w.alloc (.cells #[.int .i64 a,.int .i64 f,.int .i64 d,.slice b e c] 44)) 41 #[.int .i64 1,.int .i64 0,.slice none 0 0,.slice none 0 0]
 exact eG (s:=w.heap.size+1) (A1:=none) (c1:=0) (A2:=none) (c2:=0) (.inl rfl) rfl o (Keep.of_below k) (aM _ _ _) (aM _ _ _) (q.keep k)
theorem aDV (k e:Nat) (j:Option Addr) (d o B:Nat) (C i g f:Int) (c m:List UInt8) (J:List UInt8) (U:Told) (a:doM c f C i g m=(J,U)) (w:World) (p:Bk w k 65 #[e,.int .i64 f]) (q:PlS w e c)
 (s:Rd w B 1 j d (m.map bv)) (t:B<=w.heap.size) (v:0 < d->∀D,j=some D->D.block≠e) (x:k≠e) (r:c.length<=549755813888) (u:d<=549755813888) (A:-9223372036854775808<=i/\i<=9223372036854775807) (y:-9223372036854775808<=g/\g<=9223372036854775807) (z:0<=f/\f<=2147483648):
 Calls prog 30 #[k,bZ C i g j d o] w fun V w'=>dM e J U w w' V:=by
 have G:m.length=d:=by simpa using s.1
 unfold doM at a;by_cases K:C=1
 · subst K;rw [zBv rfl] at a;cases b:dL c.length i 0 with
   | false=>
     rw [zBv b] at a;cases a;exact tL k e j d o B i g f c m w p q s t v x r u A y z b
   | true=>
     rw [zBu (by rw [b];decide)] at a;by_cases I:f -(c.length:Int) < (m.length:Int);rw [zBv I] at a;cases a;exact vZ k e j d o B i g f c m w p q s t v x r u A y z b (by rw [<-G];exact I);rw [zBu I] at a;cases a;obtain ⟨D,E,rfl,W,H⟩:=lJ b;exact aBc k e j d o B D g f c m w p q s t v x r u A y z b (by rw [<-G];omega)
 rw [zBu K] at a;by_cases L:C=2
 · subst L;rw [zBv rfl] at a;cases b:dL c.length i g with
   | false=>
     rw [zBv b] at a;cases a;exact tM k e j d o B i g f c m w p q s t v x r u A y z b
   | true=>
     rw [zBu (by rw [b];decide)] at a;cases a;obtain ⟨D,E,rfl,rfl,H⟩:=lJ b;exact aBd k e j d o B D E f c m w p q s t v x r u A y z b
 rw [zBu L] at a;by_cases O:C=5
 · subst O;rw [zBv rfl] at a;cases b:dL c.length i g with
   | false=>
     rw [zBv b] at a;cases a;exact qG k e j d o B i g f c m w p q s t v x r u A y z b
   | true=>
     rw [zBu (by rw [b];decide)] at a;cases a;obtain ⟨D,E,rfl,rfl,H⟩:=lJ b;exact yS k e j d o B D E f c m w p q s t v x r u A y z b
 rw [zBu O] at a;by_cases M:C=3
 · subst M;rw [zBv rfl] at a;rw [G] at a;cases b:dL c.length i d with
   | false=>
     rw [zBv b] at a;cases a;exact tK k e j d o B i g f c m w p q s t v x r u A y z b
   | true=>
     rw [zBu (by rw [b];decide)] at a;cases a;obtain ⟨D,E,rfl,W,H⟩:=lJ b;exact aA9 k e j d o B D g f c m w p q s t v x r u A y z b
 rw [zBu M] at a;by_cases N:C=4;subst N;rw [zBv rfl] at a;cases a;exact aDU k e j d o i g f c w p q r;rw [zBu N] at a;by_cases R:C=6;subst R;rw [zBv rfl] at a;cases a;exact aCz k e j d o B i g f c m w p q s t v x r u A y z;rw [zBu R] at a;by_cases S:C=7;subst S;rw [zBv rfl] at a;cases a;exact aBb k e j d o B i g f c m w p q s t v x r u A y z;rw [zBu S] at a;by_cases T:C=8;subst T;rw [zBv rfl] at a;cases a;exact aBa k e j d o i g f c w p q;rw [zBu T] at a;cases a;exact aCy k e j d o C i g f c w p q oM
def StpsAt (w:World) (B:Nat):List Value->List Sp->Prop
 | xs, []=>xs= []
 | xs,s::L=>∃a n b c,xs=.int .i64 s.kind::.int .i64 s.p::.int .i64 s.k::.slice a n b::c/\DataAt w B a n b s.D/\StpsAt w B c L
theorem StpsAt.keep {w w':World} {B:Nat} (g:∀a f,B<=a->Bk w a 5 f->Bk w' a 5 f):∀ {d:List Sp} {i:List Value},StpsAt w B i d->StpsAt w' B i d
 | [],_,b=>b
 | _::_,_,⟨A,n,c,ys,e,hd,b⟩=>⟨A,n,c,ys,e,hd.keep g,StpsAt.keep g b⟩
theorem StpsAt.below {w w':World} {B:Nat} {a:List Sp} {c:List Value} (d:StpsAt w B c a) (e:Below w.heap.size w w'):StpsAt w' B c a:=d.keep fun g f _ b=>b.below e b.lt
theorem StpsAt.grown {w w':World} {B e k n:Nat} {c:Value} {m:List Value} {b:List Sp} {d:List Value} (g:StpsAt w B d b) (j:w.ownsRow e 44 k c n m) (i:w.grownBy w' c.ownBlock):StpsAt w' B d b:=
 g.keep fun f o _ a=>(i.block f a.lt (aK j a dC)).trans a
theorem DataAt.grown {w w':World} {B g o n e d:Nat} {f:Value} {p:List Value} {b:Option Addr} {c:List UInt8} (j:DataAt w B b e d c) (m:w.ownsRow g 44 o f n p) (k:w.grownBy w' f.ownBlock):DataAt w' B b e d c:=
 j.keep fun i q _ a=>(k.block i a.lt (aK m a dC)).trans a
theorem DataAt.keepF {F:Nat->Prop} {w w':World} {B n d:Nat} {a:Option Addr} {b:List UInt8} (g:DataAt w B a n d b) (k:Keep F w w') (i:∀c,F c->c < B):DataAt w' B a n d b:=
 g.keep fun f m o j=>k.bk j (fun e=>by have:=i f e;omega)
theorem StpsAt.snoc {w:World} {B:Nat} {s:Sp} {A:Option Addr} {n c:Nat} (d:DataAt w B A n c s.D):∀ {b:List Sp} {f:List Value},StpsAt w B f b->StpsAt w B (f++ [.int .i64 s.kind,.int .i64 s.p,.int .i64 s.k,.slice A n c]) (b++ [s])
 | [],_,a=>by have g:=a;subst g;exact ⟨A,n,c, [],rfl,d,rfl⟩
 | _::_,_,⟨A',n',c',ys,e,hd',a⟩=>⟨A',n',c',ys++_,by rw [e];rfl,hd',StpsAt.snoc d a⟩
theorem oJ {w:World} {b d:Nat} {e:TypeId} {a:Array Value} (c:Bk w b e a) (f:a.size=d):Rd w w.heap.size d (some ⟨b,0,none⟩) 1 a.toList:=by
 refine ⟨by simp [f],fun _=>⟨b,0,rfl,c.lt,fun i j g=>?_⟩⟩;rw [zBh,c.cell i];rw [<-g];simp
theorem aBr (e f g:UInt8) (c:Option Addr) (n d:Nat):∀b∈(cZ e f g c n d).toList,b.oneCell'=true:=by
 intro b a;simp [cZ] at a;rcases a with rfl | rfl | rfl | rfl <;> rfl
theorem zV:(prog.info? 44).map (fun a=>(a.zero.map (·.cells.size),a.size,a.bytes))=some (some 4,4,48):=by kernel_rfl
theorem wJ:∃b c,prog.info? 44=some b/\b.zero=some c/\b.size=4/\b.bytes=48/\c.cells.size=4:=by
 have a:=zV;cases e:prog.info? 44 with
 | none=>rw [e] at a;cases a
 | some b=>
   rw [e] at a;cases d:b.zero with
   | none=>simp [d] at a
   | some c=>
     simp [d] at a;exact ⟨b,c,rfl,d,a.2.1,a.2.2,a.1⟩
def mW (l:List UInt8) (a:Nat):List Sp:=(List.range a).map (aBt l)
theorem wM (l:List UInt8) (a:Nat):mW l (a+1)=mW l a++ [aBt l a]:=by
 unfold mW;rw [List.range_succ,zAy];rfl
def pR (w:World) (l:List UInt8) (c:Ending) (w':World):Prop:=
 ∃a b,c=.returned a/\w'.ownsRow w.heap.size 44 4 a (l.length / 3) b/\StpsAt w' w.heap.size b (mW l (l.length / 3))/\Below w.heap.size w w'
theorem rJ (g:Option Addr) (I j:Nat) (l:List UInt8) (w:World) (ad:Rd w w.heap.size 1 g I (l.map bv)) (br:I<=100000) (aU:I<=j):
 Calls prog 12 #[.slice g I j] w (pR w l):=by
 obtain ⟨b5,bb,aW,b1,b2,b3,b4⟩:=wJ;have ax:l.length=I:=by simpa using ad.1
 obtain ⟨am,b0⟩:=hqq2 ax ad;clear ad ax;go_enter func12,ntmps12;go_wp2_with fail;go_loopw [0,3] (fun b z wr=>∃(a r C:Nat) (a3:Option Addr) (J:List Value),b=.slice a3 r C/\r+3*a=I/\r<=C/\Rd wr w.heap.size 1 a3 r ((l.drop (3*a)).map bv)/\wr.ownsRow w.heap.size 44 4 z a J/\StpsAt wr w.heap.size J (mW l a)/\Below w.heap.size w wr) (fun b _ _=>match b with | .slice _ n _=>n | _=>0)
 case atStart=>exact ⟨0,I,j,g, [],rfl,by omega,aU,by simpa using b0.out,World.ownsRow_nil _ _ _ _,rfl,Below.refl _ _⟩
 case round=>
  obtain ⟨a,r,C,a3,J,rfl,bt,aY,ae,W,af,X⟩:=hrel;by_cases U:3<=r
  · obtain ⟨q,t,rfl,bp,Z⟩:=ae.2 oM;have a2:∀aj,aj < 3->∃ba,l[3*a+aj]?=some ba:=fun aj bq=>⟨_,zAa (by rw [am.out];omega)⟩;obtain ⟨v,ag⟩:=a2 0 oM;obtain ⟨x,ah⟩:=a2 1 oM;obtain ⟨y,ai⟩:=a2 2 oM;have aL:wr.cell? ⟨q,t+0,none⟩=some (bv v):=Z 0 _ (by rw [zAf,zBr,ag];rfl);have aM:wr.cell? ⟨q,t+1,none⟩=some (bv x):=Z 1 _ (by rw [zAf,zBr,ah];rfl);have aN:wr.cell? ⟨q,t+2,none⟩=some (bv y):=Z 2 _ (by rw [zAf,zBr,ai];rfl);have ay:aBt l a=zZ v x y:=(by unfold aBt;rw [zAb,zAb,zAb,show 3*a=3*a+0 from rfl,ag,show 3*a+0+1=3*a+1 from rfl,ah,show 3*a+0+2=3*a+2 from rfl,ai];rfl);have ac:=wM l a;rw [ay] at ac;have hcut:=(ae.cut (k:=3) (cap:=C) U aY);rw [<-List.map_drop,List.drop_drop] at hcut;obtain ⟨aF,an⟩:=hqq2 hcut ac;have aq:∀b,u3.ownBlock=some b->b < wr.heap.size:=fun b Y=>(W.lt _ Y).2;have a8:∀b,u3.ownBlock=some b->w.heap.size<=b:=fun b Y=>(W.lt _ Y).1;have aB:=X.size;have aa:q < wr.heap.size:=oM;have H:¬u3.ownBlock=some q:=fun G=>by have:=a8 _ G;omega
    obtain ⟨aG,ap,al⟩:=hqq3 W af X;obtain ⟨a6,ar⟩:=eqx (mW l a);rw [ar] at an ap;obtain ⟨a4,aE,a5,aJ⟩:=hqq4 aq a8 H (show 0 < r by omega);have aK:=lhd (show (1:Int) < (r:Int) by omega);have N3:=lhd (show (2:Int) < (r:Int) by omega);clear a2 ag ah ai Z ae W af X ay ac hcut ar a8 aq;go_wp2_with fail;refine wp_region_any kR ?_;refine eY 13 [9,10,11,12,13,14,15,16,17,18,19,20,21] (fun b=>u3.ownBlock=some b) 12 [12] (fun o=>o.ownsRow w.heap.size 44 4 u3 a J/\StpsAt o w.heap.size J a6) (fun z o=>∃E,o.ownsRow w.heap.size 44 4 z (a+1) E/\StpsAt o w.heap.size E (a6++ [zZ v x y])) [is (u3),is (.slice (some ⟨q,t,none⟩) r C),is (.pointer (some ⟨q,t,none⟩)),is (bv v),is (.slice (some ⟨q,t,none⟩) r C),is (.pointer (some ⟨q,t+1,none⟩)),is (bv x),is (.slice (some ⟨q,t,none⟩) r C),is (.pointer (some ⟨q,t+2,none⟩)),is (bv y),fun z o=>∃g n j,z=.agg (cZ v x y g n j)/\DataAt o wr.heap.size g n j (spD v x y),fun z o=>∃D g n j,z=.slice (some ⟨D,0,none⟩) 1 1/\Bk o D 44 (cZ v x y g n j)/\u3.ownBlock≠some D/\DataAt o wr.heap.size g n j (spD v x y),dJ] _ _ rfl dC kR kR kR (⟨aG.out,ap.out.below bR.drew⟩) (fun w1 o G _ av=>⟨aH G.1 av,G.2.below av⟩) (fun _ _ _ ⟨E,S,T⟩ a=>⟨E,aH S a,T.below a⟩) (by repeat' (first | exact eS _ _ | exact dN _ | exact fun _ _ _ ⟨g,n,j,S,T⟩ a=>⟨g,n,j,S,T.keepF a a4.out⟩| exact fun _ _ _ ⟨D,g,n,j,S,T,U,aQ⟩ a=>⟨D,g,n,j,S,a.bk T U,U,aQ.keepF a a4.out⟩|(refine zAe.2 ⟨?_,?_⟩)|(intro ak aZ;cases aZ))) ?_ ?_
    · refine fR ?_;refine pH3 3 (u3) ?_;refine pH3 0 (.slice (some ⟨q,t,none⟩) r C) ?_;refine sC3 (fun _ _ _ _ _ _ _ e _ _ _ m=>?_) ?_
      · have bd:_=_:=e 1 10 kR rfl;have aD:=aJ.out;go_simp;exact kq m rfl
      refine sC3 (fun _ u d _ _ _ _ e _ _ _ m=>?_) ?_
      · replace d:Keep (fun b=>u3.ownBlock=some b) wr u:=kD d;have be:_=_:=e 2 11 kR rfl;have H:=a5.out;have a7:=(Keep.cell d (p:=⟨q,t+0,none⟩) aa H).trans aL;rw [zBo] at a7;go_simp;exact kq m rfl
      refine pH3 0 (.slice (some ⟨q,t,none⟩) r C) ?_;refine sC3 (fun _ _ _ _ _ _ _ e _ _ _ m=>?_) ?_
      · have bg:_=_:=e 4 13 kR rfl;have aD:=aK.out;go_simp;exact kq m rfl
      refine sC3 (fun _ u d _ _ _ _ e _ _ _ m=>?_) ?_
      · replace d:Keep (fun b=>u3.ownBlock=some b) wr u:=kD d;have bh:_=_:=e 5 14 kR rfl;have H:=a5.out;have a7:=(Keep.cell d (p:=⟨q,t+1,none⟩) aa H).trans aM;go_simp;exact kq m rfl
      refine pH3 0 (.slice (some ⟨q,t,none⟩) r C) ?_;refine sC3 (fun _ _ _ _ _ _ _ e _ _ _ m=>?_) ?_
      · have bj:_=_:=e 7 16 kR rfl;have aD:=N3.out;go_simp;exact kq m rfl
      refine sC3 (fun _ u d _ _ _ _ e _ _ _ m=>?_) ?_
      · replace d:Keep (fun b=>u3.ownBlock=some b) wr u:=kD d;have bk:_=_:=e 8 17 kR rfl;have H:=a5.out;have a7:=(Keep.cell d (p:=⟨q,t+2,none⟩) aa H).trans aN;go_simp;exact kq m rfl
      refine sC3 (fun _ u d _ _ _ _ e _ _ _ m=>?_) ?_
      · replace d:Keep (fun b=>u3.ownBlock=some b) wr u:=kD d;have bf:_=_:=e 3 12 kR rfl;have bi:_=_:=e 6 15 kR rfl;have bl:_=_:=e 9 18 kR rfl;go_simp;refine (aCm v x y u).mono ?_;rintro bc bw ⟨K,N,L,rfl,V,a9⟩;exact m _ _ (aA a9) ⟨K,N,L,rfl,V.mono d.size⟩
      refine sC3 (fun M u d _ _ _ _ e _ _ _ m=>?_) ?_
      · replace d:Keep (fun b=>u3.ownBlock=some b) wr u:=kD d;have b6:(fun z o=>∃g n j,z=.agg (cZ v x y g n j)/\DataAt o wr.heap.size g n j (spD v x y)) (M (.tmp 19)) u:=e 10 19 kR rfl;obtain ⟨K,N,L,bm,V⟩:=b6;go_simp;exact m _ _ (aA (bR.alloc nL _)) ⟨_,K,N,L,rfl,Bk.new _ _ _,fun G=>by have:=a4.out _ G;have:=d.size;omega,V.below (bR.alloc nL _)⟩
      refine sC3 (fun M u d aR _ _ _ e _ _ aS m=>?_) ?_;replace d:Keep (fun b=>u3.ownBlock=some b) wr u:=kD d;have a1:=aR rfl;have aP:_=_:=e 0 9 kR rfl;have b7:(fun z o=>∃D g n j,z=.slice (some ⟨D,0,none⟩) 1 1/\Bk o D 44 (cZ v x y g n j)/\u3.ownBlock≠some D/\DataAt o wr.heap.size g n j (spD v x y)) (M (.tmp 20)) u:=e 11 20 kR rfl;obtain ⟨bn,K,N,L,aO,a9,bs,V⟩:=b7;subst aS;refine dG u (.tmp 9) (.tmp 20) _ rfl w.heap.size 44 b5 bb 4 48 underlying31 aW b1 b2 b3 b4 dC u3 a J aP a1.1 u.heap.size _ 1 1 (cZ v x y K N L).toList aO (oJ a9 rfl) (aBr _ _ _ _ _ _) (by unfold maxLen;omega) oM (zAk aB d.size) ?_;intro b9 O a0 ab bo;exact m _ _ (aV (Keep.grown (Keep.refl _ _) ab fun a aX=>.inl aX)) ⟨_,a0,StpsAt.snoc (s:=zZ v x y) (A:=K) (n:=N) (c:=L) (V.grown a1.1 ab |>.mono aB) (a1.2.grown a1.1 ab)⟩;exact aC
    · intro M O R d e;replace d:Keep (fun b=>u3.ownBlock=some b) wr O:=kD d;have b8:(fun z o=>∃E,o.ownsRow w.heap.size 44 4 z (a+1) E/\StpsAt o w.heap.size E (a6++ [zZ v x y])) (M (.tmp 21)) O:=e 12 21 dC rfl;simp only [zqq];clear e;obtain ⟨E,a0,az⟩:=b8;obtain ⟨ao,aI⟩:=hqq2 a0 az;clear a0 az;change wpAny prog Region.Mode.any _ _ (1+R) (bG 13 14) _ O;rw [zCm 1 R];refine dW (f:=R) (i:=13) kR ?_;refine eT rfl rfl ?_;generalize m:wpAny prog _ _ _ R _=K5;go_simp;subst m;refine fK kR ?_;generalize M (.tmp 21)=b9 at ao⊢;have au:Below w.heap.size wr O:=d.to_below al.out.size (fun b Y G=>by have:=aE.out _ G;omega);have aT:Below w.heap.size w O:=al.out.trans au;have bu:=eO (P:=prog) 22 5 1 underlying22 (fun w=>by kernel_rfl) (some ⟨q,t,none⟩) r C 3 U;go_wp2_with fail;go_roundw
      case rel=>exact ⟨a+1,r - 3,C - 3,_,E,rfl,by omega,by omega,aF.out.below au,ao.out,by rw [an.out];exact aI.out,aT⟩
      case measure=>simp;omega
  · have aw:l.length / 3=a:=(by rw [am.out];omega);go_wp2_with fail;go_ret;exact ⟨_,J,rfl,by rw [aw];exact W,by rw [aw];exact af,X⟩
end
end Go.Proofs.YtihaijbgmjdhgaaGreatDoor
