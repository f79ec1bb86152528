/- Lemmas of the walk. Conditions: each its own. -/
import Derived.Test.YthldmddkfbijhaaGreatDoorPsl6
import Derived.Test.YthldmddkfbijhaaGreatDoorPsl7
import Derived.Test.YthldmddkfbijhaaGreatDoorProg
import Derived.Test.YthldmddkfbijhaaGreatDoorShl
import Derived.Test.YthldmddkfbijhaaGreatDoorShi
import Derived.Test.YthldmddkfbijhaaGreatDoorSht
set_option linter.all false
set_option maxRecDepth 100000
set_option maxHeartbeats 2000000
open Go.Proofs.Tryz
namespace Go.Proofs.YthldmddkfbijhaaGreatDoor
section
open Go.RowKit
def ix9 (a:Nat->Value) (b:Nat) (c:b < 9) (w:World):(Instr.index 152 (.agg #[a 0,a 1,a 2,a 3,a 4,a 5,a 6,a 7,a 8]) (.int .i64 (b:Int))).run prog w=.ok (a b) w:=by
 rcases b with _ | _ | _ | _ | _ | _ | _ | _ | _ | b
 all_goals first |(exfalso;omega)| kernel_rfl
def gY (B c:Nat) (f:List Nat) (g b:Nat) (w:World) (aE:WaveAt w B c f) (t:b < 257) (ag:g<=f.length) (H:∀o∈f,o < 257) (aH:f.length<=1000):
 Calls prog 161 #[c,(g:Int),(b:Int)] w fun q w'=>q=.returned (.int .i64 (((f.take g).count b:Nat):Int))/\VB B w w':=by
 have ac:=kY f g b ag H t;have ad:=aAu f g b;obtain ⟨ae,i,ak,m,ai⟩:=aE;have u:=m.set 10 (.int .i64 0);rw [cR] at u;have T:=VB.set_wave m ae 0;obtain ⟨x,N⟩:=eqx f.length;rw [N] at m u ag aH;have bp:max (g:Int) 0=(g:Int):=oM;have bq:min (g:Int) (x:Int)=(g:Int):=oM;have aC:=m.frozen 10;have aT:w.cell? ⟨c,10,none⟩=some (.int .i64 ak):=(m.cell 10).trans (bI i x ak).2.2.2.2.2.2.2.2.2.2;have bl:=m.lt;obtain ⟨aX,I⟩:=eqx (w.setCell ⟨c,10,none⟩ (.int .i64 0));rw [I] at u T;obtain ⟨D,a0,av,am,an,aU,aW,ao⟩:=hqq8 u T ai ac ad H N I;clear m ai u T ac ad H N I;go_enter func161,ntmps161;go_wp2_with fail;rw [ao.out];refine (fE b _ t).mono ?_;rintro q w1 ⟨rfl,J⟩;have k:=D.out.below J D.out.lt;have aj:=a0.out.below J;obtain ⟨a2,a3,a4,a5,a6,a7,a8,a9,aa,ab,az⟩:=bI i (x:Int) 0;have b1:w1.cell? c=some (i 0):=(k.cell 0).trans a2;have b2:w1.cell? ⟨c,1,none⟩=some (i 1):=(k.cell 1).trans a3;have b3:w1.cell? ⟨c,2,none⟩=some (i 2):=(k.cell 2).trans a4;have b4:w1.cell? ⟨c,3,none⟩=some (i 3):=(k.cell 3).trans a5;have b5:w1.cell? ⟨c,4,none⟩=some (i 4):=(k.cell 4).trans a6;have b6:w1.cell? ⟨c,5,none⟩=some (i 5):=(k.cell 5).trans a7;have b7:w1.cell? ⟨c,6,none⟩=some (i 6):=(k.cell 6).trans a8;have b8:w1.cell? ⟨c,7,none⟩=some (i 7):=(k.cell 7).trans a9;have b9:w1.cell? ⟨c,8,none⟩=some (i 8):=(k.cell 8).trans aa;have ba:w1.cell? ⟨c,9,none⟩=some (.int .i64 (x:Int)):=(k.cell 9).trans ab;obtain ⟨aq,E⟩:=hqq2 k aj;clear a2 a3 a4 a5 a6 a7 a8 a9 aa ab az k aj J D a0 aT aC;go_wp2_with fail;go_loopw [1,28] (fun o X wr=>∃a:Nat,a<=9/\X=.int .i64 a/\o=.int .i64 ((fP f g b a:Nat):Int)/\VB B w1 wr) (fun _ X _=>9 -(intOf X).toNat)
 case atStart=>exact ⟨0,by omega,rfl,by rw [am.out],VisK.refl _ _⟩
 case round=>
  obtain ⟨a,bm,rfl,rfl,S⟩:=hrel;by_cases z:a < 9
  · have aG:=ix9 i a z;obtain ⟨C,r,R⟩:=av.out a z;obtain ⟨v,M⟩:=eqx (2 ^ a);obtain ⟨d,s⟩:=eqx (bE b a);have ah:d < v:=(by rw [<-M,<-s];exact lM b a t oM);rw [M] at r R;obtain ⟨p,a1,af,bn,bk⟩:=World.ownsRow.form r oM;rw [af] at aG r;obtain ⟨o,A⟩:=eqx (fP f g b a);obtain ⟨Y,W⟩:=eqx (fP f g b (a+1));obtain ⟨G,L⟩:=eqx (gG b a);have V:=kZ f g b a z;have U:=aFE f g b a;rw [s,A,L,W] at V;rw [s,A] at U;rw [A];have bo:(d:Int) < (v:Int):=oM;obtain ⟨ax,aw,ar,Z,au,ap,ay,y⟩:=hqq8 V U r (R d ah) s L W S;clear r R af M s A W L V U S;go_wp2_with fail;refine wp_region_any kR ?_;refine aV [32,33,34,35,36,37,38,39,40,41,42,43,1] (VB B) (Vs [is c,is (.slice (some p) v a1),is (b:Int),is (a:Int),is (d:Int),is (.pointer (some ⟨p,d*3,none⟩)),is (.agg #[.pointer (some ⟨C d,0,none⟩),(a:Int),(d:Int)]),is (o:Int),is (b:Int),is (a:Int),is (.bool G),is (Y:Int),is (Y:Int)]) _ _ rfl kR vR (fun _ _=>VisK.trans) (cZ tA1) ?_ ?_
    · refine aO ?_;refine pH 0 (.pointer (some c)) ?_;refine pH 8 (.slice (some p) v a1) ?_;refine pH 2 (.int .i64 (b:Int)) ?_;refine pH 7 (.int .i64 (a:Int)) ?_;refine sC (fun _ l _ _ _ _ e _ _ _ n=>?_) ?_
      · have bc:_=_:=e 2 34 kR rfl;have bd:_=_:=e 3 35 kR rfl;go_simp;refine (kK b a l t oM).mono ?_;rintro q al ⟨rfl,K⟩;rw [au.out];exact n _ _ (VisK.of_below K) rfl
      refine pW 1 33 4 36 ?_;refine sC (fun _ l j _ _ _ e _ _ _ n=>?_) ?_
      · have be:_=_:=e 5 37 kR rfl;replace j:(VB B) wr l:=bD j;have O:=(E.out.trans (y.out.trans j)).1.own ar.out dC dC;obtain ⟨aN,aP,aQ⟩:=fJ C a v d ah;have aY:l.cell? ⟨p,d*3,none⟩=_:=(World.ownsRow.cellAt O (d*3) oM).trans aN;have aZ:l.cell? ⟨p,d*3+1,none⟩=_:=(World.ownsRow.cellAt O (d*3+1) oM).trans aP;have b0:l.cell? ⟨p,d*3+2,none⟩=_:=(World.ownsRow.cellAt O (d*3+2) oM).trans aQ;go_simp;exact n _ _ vR rfl
      refine pH 1 (.int .i64 (o:Int)) ?_;refine pH 2 (.int .i64 (b:Int)) ?_;refine pH 7 (.int .i64 (a:Int)) ?_;refine sC (fun _ l _ _ _ _ e _ _ _ n=>?_) ?_
      · have bh:_=_:=e 8 40 kR rfl;have bi:_=_:=e 9 41 kR rfl;go_simp;refine (mB b a l t z).mono ?_;rintro q al ⟨rfl,K⟩;rw [ap.out];exact n _ _ (VisK.of_below K) rfl
      refine sC (fun _ l j _ _ _ e _ _ _ n=>?_) ?_
      · have bb:_=_:=e 0 32 kR rfl;have bf:_=_:=e 6 38 kR rfl;have bg:_=_:=e 7 39 kR rfl;have bj:_=_:=e 10 42 kR rfl;replace j:(VB B) wr l:=bD j;go_simp;obtain ⟨aR,aM⟩:=(y.out.trans j).1.waveC aq.out;have aI:=Z.out.2.vis (E.out.trans (y.out.trans j)).1;refine (mA c (C d) i x aR a d (aK f a d) o G l aM aI aw.out).mono ?_;rintro q al ⟨rfl,aL⟩;rw [ax.out];exact n _ _ (aL.mono fun G m=>by rcases m with rfl | rfl;exact ae;exact Z.out.1) rfl
      refine pV 11 43 ?_;exact aD
    · intro aB aS j e;replace j:(VB B) wr aS:=bD j;have aA:aB (.tmp 1)=.int .i64 (Y:Int):=e 12 1 rfl;simp only [zqq];rw [aA];clear e;have aJ:=y.out.trans j;go_wp2_with fail;go_roundw
      case rel=>exact ⟨a+1,by omega,by go_num,by rw [ay.out],aJ⟩
      case measure=>simp [intOf];omega
  · have aF:a=9:=oM;subst aF;rw [an.out];go_wp2_with fail;go_ret;exact ⟨rfl,E.out.trans S⟩
def aEK:(prog.info? 175).map (fun a=>(a.zero,a.size,a.bytes))=some (some (.slice none 0 0),1,24):=by kernel_rfl
def aDY:(prog.info? 157).map (fun a=>(a.zero,a.size,a.bytes))=some (some (.agg #[.pointer none,.int .i64 0,.int .i64 0]),3,24):=by kernel_rfl
def aHw (a:Nat) (i:a<=1000000) (w:World):(Instr.makeSlice 249 (.int .i64 (a:Int)) (.int .i64 (a:Int))).run prog w=.ok (.slice (some w.heap.size) a a) (w.alloc (.cells (rowC (fun _=>.slice none 0 0) a) 175)):=by
 obtain ⟨g,c,d,e,f⟩:=info_parts aEK;have:=run_make (P:=prog) w 249 175 g (.slice none 0 0) underlying249 c d .i64 .i64 a a oM (Int.le_refl _) (by rw [f];omega) oM;rw [this,e,aD4];have b:madeCells #[.slice none 0 0] a=Array.replicate a (.slice none 0 0):=by apply Array.ext';rw [toList_madeCells_one];simp
 simp only [Value.cells,zBr,zBl];rw [b]
def bK (a:List Nat) (b:Nat):Nat:=a.getD ((b+a.length - 1)% a.length) 0
def aE (a b:List Nat):List Nat:=b.map (bK a)
def bZ (b a:List Nat):(aE b a).length=a.length:=by simp [aE]
def aHJ {a:List Nat} (d:∀e∈a,e < 257) (b:Nat):bK a b < 257:=by
 unfold bK;rw [zAb];cases c:a[(b+a.length - 1)% a.length]? with
 | none=>simp
 | some f=>simpa using d f (zAd c)
def dR {b rs:List Nat} (c:∀a∈b,a < 257):∀a∈aE b rs,a < 257:=by
 intro a d;obtain ⟨e,_,rfl⟩:=zAy.1 d;exact aHJ c e
def aF3 (a:Nat) (g:a<=1000000) (w:World):(Instr.makeSlice 22 (.int .i64 0) (.int .i64 (a:Int))).run prog w=.ok (.slice (some w.heap.size) 0 a) (w.alloc (.cells (madeCells #[.int .i64 0] a) 3)):=by
 obtain ⟨f,b,c,d,e⟩:=info_parts fW;have:=run_make (P:=prog) w 22 3 f (.int .i64 0) underlying22 b c .i64 .i64 0 a oM oM (by rw [e];omega) oM;rw [this,d];simp only [Value.cells,zBr,zBl];rfl
def aCq {w w':World} {i g:Nat} {a:Option Addr} {j:List Value} {row:Option Nat} (d:Rd w w.heap.size i a g j) (f:w.grownBy w' row) (l:∀b,a=some b->row≠some b.block):Rd w' w'.heap.size i a g j:=by
 refine ⟨d.1,fun n=>?_⟩;obtain ⟨c,q,rfl,e,m⟩:=d.2 n;refine ⟨c,q,rfl,zAl e f.size,fun p r o=>?_⟩;rw [World.cell?_of_block (w:=w) (f.block c e (fun k=>l _ rfl k.symm))];exact m p r o
def Apt (c:Value) (b:Option Addr):Prop:=∀a,b=some a->c.ownBlock≠some a.block
def Apt.next {i e:Value} {c:Option Addr} {f:Nat} (j:Apt i c) (l:e.ownBlock=i.ownBlock∨e.ownBlock=some f) (k:∀a,c=some a->a.block < f):Apt e c:=by
 intro a g b;rcases l with d | d;exact j a g (d.symm.trans b);rw [d] at b;injection b with b;have:=k a g;omega
def nJ (n:Option Addr) (f u B:Nat) (d:List UInt8) (w:World) (U:Rd w B 1 n f (d.map bv)) (ab:B<=w.heap.size) (b4:f<=200):
 Calls prog 110 #[.slice n f u] w fun J w'=>∃i k l,IsSuf (aG d) i/\J=.returned (.slice k (f+1) l)/\Made w' w.heap.size 3 1 k (f+1) l ((aE (aG d) i).map sv)/\Below w.heap.size w w':=by
 obtain ⟨bb,b0,b8,b9,ba⟩:=info_parts fW;have aq:d.length=f:=by simpa using U.1
 obtain ⟨a9,aI⟩:=hqq2 U aq;clear U aq;go_enter func110,ntmps110;go_wp2_with fail;obtain ⟨a,y⟩:=eqx (f+1);have W:=xU w.heap.size 0 n f u w.heap.size d (w.alloc (.cells #[.slice n f u] 26)) (Bk.new _ _ _) ((a9.out.mono ab).alloc nL _) (by simp) oM;have V:=fun aa (m:Below w.heap.size w aa)=>nI n f u w.heap.size d aa ((a9.out.mono ab).below m) m.size b4;simp only [y] at W V;have bk:a<=201:=oM;have bj:1<=a:=oM;have ai:(aG d).length=a:=by rw [aM,aI.out,y]
 obtain ⟨a2,E,a3⟩:=hqq3 y ai V;clear y ai V;refine W.mono ?_;clear W;rintro J w1 ⟨C,bg,rfl,ak,af⟩;have ag:=((Below.refl w.heap.size w).alloc nL _).trans (af.mono (by simp));have bc:=aF3 a oM;obtain ⟨G,t⟩:=hqq2 ak ag;clear ak af ag;go_wp2_with fail;clear bc;have q:=t.out.alloc t.out.size (.cells (madeCells #[.int .i64 0] a) 3);have N:=G.out.below (bR.alloc nL (.cells (madeCells #[.int .i64 0] a) 3));have g:(w1.alloc (.cells (madeCells #[.int .i64 0] a) 3)).ownsRow w.heap.size 3 1 (.slice (some w1.heap.size) 0 a) 0 []:=World.ownsRow_made _ _ _ t.out.size (by unfold maxLen;omega) (by simp [madeCells]);obtain ⟨p,L⟩:=eqx w1.heap.size;have aY:p < (w1.alloc (.cells (madeCells #[.int .i64 0] a) 3)).heap.size:=by rw [<-L];simp
 have ac:Apt (.slice (some p) 0 a) C:=by
  intro b c m;obtain ⟨av,aL,j,_,K⟩:=aQ G.out.own;injection j with j;have:=(K b (j.symm.trans c)).2;have aO:p=b.block:=by simpa [Value.ownBlock] using m
  omega
 have aw:=lhd ac;clear ac;rw [L] at g⊢;generalize w1.alloc (.cells (madeCells #[.int .i64 0] a) 3)=W2 at q N g aY⊢;obtain ⟨a5,a4⟩:=hqq2 g N;clear g N G t L;refine (a3.out W2 q).mono ?_;rintro J bs ⟨i,D,bh,ao,rfl,O,v⟩;have ah:=q.trans (v.mono q.size);have am:=aR a5.out v;have al:=a4.out.below v;have ad:Apt (.slice (some p) 0 a) D:=by
  intro b c m;obtain ⟨av,aL,j,_,K⟩:=aQ O.own;injection j with j;have:=(K b (j.symm.trans c)).1;have aO:p=b.block:=by simpa [Value.ownBlock] using m
  omega
 have ax:=lhd ad;clear ad;obtain ⟨H,aB,aA,aC,ay⟩:=hqq5 ao O.rd al.rd am ah;clear ao O al am ah v q a5 a4 a3;go_wp2_with fail;go_loopw [4,6,16] (fun a1 _ Z wr=>∃e:Nat,e<=a/\Z=.int .i64 e/\wr.ownsRow w.heap.size 3 1 a1 e ((aE (aG d) (i.take e)).map sv)/\Below w.heap.size w wr/\Apt a1 C/\Apt a1 D/\Rd wr wr.heap.size 1 C a ((aG d).map sv)/\Rd wr wr.heap.size 1 D a (i.map sv)) (fun _ _ Z _=>a -(intOf Z).toNat)
 case atStart=>exact ⟨0,by omega,rfl,aC.out,ay.out,aw.out,ax.out,aA.out,aB.out⟩
 case round=>
  obtain ⟨e,bi,rfl,g,x,S,T,z,A⟩:=hrel;by_cases b3:e < a
  · obtain ⟨aJ,bd,bo,rfl,aP,X,aV⟩:=A.get b3;rw [zAf] at X;obtain ⟨s,R,rfl⟩:=Option.map_eq_some_iff.1 X;have bl:s < a:=(by have:=H.out.lt (zAd R);rw [E.out] at this;exact this);obtain ⟨a0,r⟩:=eqx ((s+a - 1)% a);have b7:a0 < a:=(by rw [<-r];exact Nat.mod_lt _ oM);obtain ⟨aK,be,bp,rfl,aS,Y,aW⟩:=z.get b7;rw [zAf] at Y;obtain ⟨au,ar,rfl⟩:=Option.map_eq_some_iff.1 Y;have an:bK (aG d) s=au:=(by unfold bK;rw [E.out,r,zAb,ar];rfl);have ap:aE (aG d) (i.take (e+1))=aE (aG d) (i.take e)++ [au]:=(by rw [zAv,R,aE,zAz,<-an];rfl);unfold sv at aV aW;have b6:((s:Int)+(a:Int) - 1)%(a:Int)=(a0:Int):=(by rw [<-r,Int.natCast_emod];congr 1;omega);have bm:((s:Int)+(a:Int) - 1).tmod (a:Int)=(a0:Int):=(by rw [Int.tmod_eq_emod_of_nonneg oM];exact b6);obtain ⟨aH,a6,a7,a8,o,aD,aF,bf⟩:=hqq8 ap g S T x z A r;clear X Y ar an ap g x S T z A r R;go_wp2_with (at_builtin;refine bO _ rfl (.tmp 20) (.tmp 32) _ rfl w.heap.size 3 bb (.int .i64 0) 1 8 underlying22 b0 b8 b9 ba rfl dC _ e _ rfl a6.out rfl rfl (by simp [Value.oneCell']) (by unfold maxLen;omega) oM o.out.size ?_;intro bq br b5 M bn ae);have aU:=aZ o.out a6.out M o.out.size;have b1:∀b,some (⟨aK,be,none⟩:Addr)=some b->b.block < _:=fun b c=>by injection c with c;subst c;exact aS
    have b2:∀b,some (⟨aJ,bd,none⟩:Addr)=some b->b.block < _:=fun b c=>by injection c with c;subst c;exact aP
    go_roundw
    case rel=>refine ⟨e+1,by omega,by go_num,?_,aU,a7.out.next ae (fun b c=>Nat.lt_succ_of_lt (b1 b c)),a8.out.next ae (fun b c=>Nat.lt_succ_of_lt (b2 b c)),aCq aD.out M a7.out,aCq aF.out M a8.out⟩;rw [aH.out,zAz];exact b5
    case measure=>simp [intOf];omega
  · obtain rfl:a=e:=oM;rw [zAg (by rw [H.out.len,E.out];omega)] at g;obtain ⟨k,l,rfl,aj⟩:=aT g;obtain ⟨az,o⟩:=hqq2 aj x;clear g aj x S T z A;go_wp2_with fail;go_ret;have aX:∀I,Made wr w.heap.size 3 1 k a l I->Made wr w.heap.size 3 1 k (f+1) l I:=fun I aN=>by rw [a2.out];exact aN
    exact ⟨i,k,l,H.out,by rw [a2.out];rfl,aX _ az.out,o.out⟩
end
section
open Go.RowKit Go
section
variable {P : Program} {ops : Array Oper} {Q : Exit -> Act -> World -> Prop} {md : Region.Mode}
def tG (c:Nat) (t:List Nat) (e:World->Prop) (k:Nat->World->World->Prop) (l:Nat->World->Prop) (f:Nat->Value->World->Prop) (g:Act)
 (o:World) (K:(ops.toList.take c).filterMap (·.dst)=t) (y:c<=ops.size) (O:gR md ops g.tmps.size=true) (X:((List.range ops.size).all fun q=>decide (q < c)||(List.range c).all fun a=>upB md ops ops.size q a)=true) (E:e o) (I:∀a,l a o) (D:∀b w w',b < c->e w->k b w w'->e w')
 (H:∀a b w w',b < c->a≠b->upB md ops ops.size b a=false->l a w->e w->k b w w'->l a w')
 (T:∀a b d w w',b < c->a≠b->uH md ops a b=false->f a d w->e w->k b w w'->f a d w')
 (U:∀b r,b < c->ops[b]?=some r->cX P ops Q md e k l f g b r)
 (L:∀(x:Operand->Value) w u,e w->(∀a m,a < c->((ops[a]?).bind (·.dst))=some m->f a (x (.tmp m)) w)->(∀a,a < c->∃d,f a d w)->wpAny P md ops Q (ops.size - c+u) (bX c ops.size) (dG x t g) w):
 wpAny P md ops Q ops.size (Array.replicate ops.size false) g o:=by
 refine pA c e k l f g o y O X E I D H (fun a b d w w' i n C _=>T a b d w w' i n C) U fun s w u G V J R z=>?_;have i:=L s.eval w u G (fun a m p j=>by
  cases v:ops[a]? with
  | none=>rw [v] at j;cases j
  | some r=>
    rw [v] at j;obtain ⟨d,i,n⟩:=z a r p v;have:=i m j;change f a (s.tmps.getD m undef) w;rw [this];exact n) (fun a p=>by
  obtain ⟨d,_,n⟩:=z a _ p (zAq (zAl p y));exact ⟨d,n⟩)
 rw [<-lC s g t V J fun Y W=>R Y fun q A M S j=>W ?_] at i;exact i;rw [<-K];refine List.mem_filterMap.2 ⟨A,?_,j⟩;have N:(ops.toList.take c)[q]?=some A:=(by rw [zBs,zBx M,Array.getElem?_toList];exact S);exact zAd N
end
def VFB (B:Nat) (F:Nat->Prop) (w w':World):Prop:=VisF F w w'/\Keep (fun a=>F a∨B<=a) w w'
def fD {B:Nat} {F:Nat->Prop} {w w':World} (a:VFB B F w.drew w'):VFB B F w w':=⟨⟨a.1.os,a.1.tape,a.1.output,a.1.size,a.1.block⟩,⟨a.2.os,a.2.tape,a.2.output,a.2.size,a.2.block⟩⟩
section
variable {B : Nat} {F : Nat -> Prop} {w w1 w' : World}
def VFB.of_vb (a:VB B w w'):VFB B F w w':=⟨VisF.of_vis a.1,a.2.mono fun _ _ b=>.inr b⟩
def VFB.trans (a:VFB B F w w1) (b:VFB B F w1 w'):VFB B F w w':=⟨a.1.trans b.1,a.2.trans b.2⟩
def VFB.put (b:VFB B F w w1) {p:Addr} (c:F p.block∨w.heap.size<=p.block) (a:Value):VFB B F w (w1.setCell p a):=⟨VisF.put b.1 c a,b.2.setCell (c.elim (fun d=>.inl (.inl d)) .inr) a⟩
def VFB.wider {d:Nat->Prop} (b:VFB B F w w') (e:∀a,F a->d a):VFB B d w w':=⟨⟨b.1.os,b.1.tape,b.1.output,b.1.size,fun a f g=>b.1.block a f (fun c=>g (e a c))⟩,b.2.mono fun a _ c=>c.elim (fun c=>.inl (e a c)) .inr⟩
def VFB.to_vb (c:VFB B F w w') (d:∀a,a < w.heap.size->¬F a):VB B w w':=⟨c.1.to_vis d,c.2.mono fun a e b=>b.elim (fun b=>absurd b (d a e)) id⟩
end
def aC0 (B:Nat) (F:Nat->Prop) (a b:Nat) (w w':World):Prop:=(b=a->VFB B F w w')/\(b≠a->VB B w w')
def zW {B:Nat} {F:Nat->Prop} {a d:Nat} {w w':World} (b:aC0 B F a d w w'):VFB B F w w':=by
 by_cases c:d=a;exact b.1 c;exact VFB.of_vb (b.2 c)
def aH {B:Nat} {F:Nat->Prop} {b c:Nat} {w w':World} (a:VB B w w'):aC0 B F b c w w':=⟨fun _=>VFB.of_vb a,fun _=>a⟩
def jK {B:Nat} {F:Nat->Prop} {a:Nat} {w w':World} (c:VFB B F w w'):aC0 B F a a w w':=⟨fun _=>c,fun b=>absurd rfl b⟩
def cD {P:Program} {ops:Array Oper} {Q:Exit->Act->World->Prop} {md:Region.Mode} (B c:Nat) (p:List Nat) (F:Nat->Prop) (b:Nat) (r:List Nat) (n:World->Prop) (m:Value->World->Prop) (l:List (Value->World->Prop)) (i:Act) (e:World)
 (E:(ops.toList.take c).filterMap (·.dst)=p) (I:c<=ops.size) (H:gR md ops i.tmps.size=true) (O:((List.range ops.size).all fun d=>decide (d < c)||(List.range c).all fun a=>upB md ops ops.size d a)=true)
 (L:(r.all fun a=>a==b||upB md ops ops.size b a)=true)
 (K:n e) (J:∀w w',n w->VFB B F e w->VB B w w'->n w') (D:aGJ (VB B) m) (M:∀S∈l,aGJ (VFB B F) S)
 (N:∀g y,g < c->ops[g]?=some y->cX P ops Q md (VFB B F e) (aC0 B F b) (fun a w=>r.contains a=true->n w) (VsJ b m l) i g y)
 (G:∀(t:Operand->Value) w f,VFB B F e w->(∀a s,a < c->((ops[a]?).bind (·.dst))=some s->VsJ b m l a (t (.tmp s)) w)->(∀a,a < c->∃o,VsJ b m l a o w)->wpAny P md ops Q (ops.size - c+f) (bX c ops.size) (dG t p i) w):
 wpAny P md ops Q ops.size (Array.replicate ops.size false) i e:=by
 refine tG c p (VFB B F e) (aC0 B F b) (fun a w=>r.contains a=true->n w) (VsJ b m l) i e E I H O (VFB.of_vb vR) (fun _ _=>K) (fun g w w' _ A d=>A.trans (zW d)) (fun a g w w' _ q R j C d v=>?_) (fun a g o w w' _ q _ k _ d=>?_) N G;by_cases x:g=b;exfalso;subst x;have u:=zBf.1 L a (by simpa using v);simp only [R,Bool.or_false,zCq] at u;exact q u;exact J w w' (j v) C (d.2 x);unfold VsJ at k⊢;by_cases j:a=b;rw [zBx j] at k⊢;exact D o w w' k (d.2 fun z=>q (j.trans z.symm));rw [zBw j] at k⊢;exact cZ M a o w w' k (zW d)
end
section
def Pq (a:List Nat) (b:Bool):List Nat->Nat->Bool
 | [],_=>b
 | c::q,p=>decide (aN a p < (c:Int))||(decide (aN a p=(c:Int))&&Pq a b q (p+1))
def sP (a:List Nat):List Nat->Nat->Bool
 | [],_=>true
 | b::q,p=>decide (aN a p=(b:Int))&&sP a q (p+1)
def aBE (a:List Nat) (d:Bool) (c:Nat) (e:List Nat) (b:Nat):Pq a d (c::e) b=(decide (aN a b < (c:Int))||(decide (aN a b=(c:Int))&&Pq a d e (b+1))):=rfl
def aAh (a:List Nat) (d:Nat) (c:List Nat) (b:Nat):sP a (d::c) b=(decide (aN a b=(d:Int))&&sP a c (b+1)):=rfl
def iC (e:List Nat) (c d:Nat):sufLt e c d↔aN e c < aN e d∨(aN e c=aN e d/\sufLt e (c+1) (d+1)):=by
 constructor
 · rintro ⟨w,b,l,f,g⟩;rcases b with _ | b;exact .inl g
   · refine .inr ⟨f 0 oM,w,b,by omega,fun a i=>?_,?_⟩
     · have:=f (a+1) oM;rwa [show c+(a+1)=c+1+a by omega,show d+(a+1)=d+1+a by omega] at this
     · rwa [show c+(b+1)=c+1+b by omega,show d+(b+1)=d+1+b by omega] at g
 · rintro (j |⟨k,w,b,l,f,g⟩);exact ⟨1,0,by omega,fun a i=>absurd i oM,j⟩
   · refine ⟨w+1,b+1,by omega,fun a i=>?_,?_⟩
     · rcases a with _ | a;exact k
       · have:=f a oM;rwa [show c+(a+1)=c+1+a by omega,show d+(a+1)=d+1+a by omega]
     · rwa [show c+(b+1)=c+1+b by omega,show d+(b+1)=d+1+b by omega]
def aBD {d:List Nat} {f:Bool} (e:List Nat):∀ {b c:Nat},sufLt d c b->Pq d f e b=true->Pq d f e c=true:=by
 induction e with
 | nil=>intro b c _ a;exact a
 | cons m e l=>
   intro b c k a;unfold Pq at a⊢;simp only [Bool.or_eq_true,zBd,zCa] at a⊢;rcases (iC d c b).1 k with g |⟨g,i⟩;rcases a with a |⟨a,_⟩;exact .inl oM;exact .inl oM;rcases a with a |⟨a,j⟩;exact .inl oM;exact .inr ⟨by omega,l i j⟩
def sM {f:Nat->Nat->Prop} {P:Nat->Bool} {b:List Nat} (o:b.Pairwise f) (l:∀c a,f c a->P a=true->P c=true):b.take (b.countP P)=b.filter P:=by
 induction b with
 | nil=>rfl
 | cons c e q=>
   obtain ⟨i,j⟩:=List.pairwise_cons.1 o;rw [zBn,List.filter_cons];by_cases d:P c=true
   · simp only [d,if_true];rw [List.take_succ_cons,q j]
   · have g:∀a∈e,¬P a=true:=fun a p n=>d (l c a (i a p) n);have k:e.countP P=0:=List.countP_eq_zero.2 g;have m:e.filter P= []:=List.filter_eq_nil_iff.2 g;simp [d,k,m]
def Nq (a:List Nat) (b:Bool) (c:List Nat):Nat:=(List.range a.length).countP (Pq a b c)
def IsSuf.count {a b:List Nat} (c:IsSuf a b) (P:Nat->Bool):b.countP P=(List.range a.length).countP P:=c.perm.countP_eq P
def aJN (a:List Nat) (b:Bool) (c:List Nat):Nq a b c<=a.length:=by
 unfold Nq;have:=zBh (p:=Pq a b c) (l:=List.range a.length);simpa using this
def aDQ {a f:List Nat} (d:IsSuf a f) (c:Bool) (b:List Nat) (g:Nat):((aE a f).take (Nq a c b)).count g=(List.range a.length).countP (fun e=>decide (bK a e=g)&&Pq a c b e):=by
 have i:Nq a c b=f.countP (Pq a c b):=(d.count _).symm;rw [i,aE,<-List.map_take,sM d.sorted (fun l m j k=>aBD b j k),<-d.count,List.count_eq_countP,List.countP_map,List.countP_filter];refine List.countP_congr fun e _=>?_;simp [Function.comp,and_comm]
def bV {a:List Nat} (b:0 < a.length):bK a 0=a.getD (a.length - 1) 0:=by
 unfold bK;rw [zBi,zBu oM]
def aX {a:List Nat} {b:Nat} (c:b+1 < a.length):bK a (b+1)=a.getD b 0:=by
 unfold bK;rw [show b+1+a.length - 1=b+a.length by omega,Nat.add_mod_right,zBu oM]
def eY {a:List Nat} {b:Nat} (c:b < a.length):aN a b=((a.getD b 0:Nat):Int):=by
 rw [aJM c,zAb,zAa c];rfl
def gF {m:Nat} (b:Nat->Bool) (c:Nat->Bool) (d:b 0=c m) (e:∀a,a < m->b (a+1)=c a):(List.range (m+1)).countP b=(List.range (m+1)).countP c:=by
 rw [List.range_succ_eq_map,zBn,List.countP_map,<-List.range_succ_eq_map,List.range_succ,List.countP_append,zBn,List.countP_nil,zBi,d];congr 1;refine List.countP_congr fun a f=>?_;have g:a < m:=by simpa using f
 simp [Function.comp,e a g]
def sY {α:Type} (b:List α) (c d:α->Bool) (e:∀a∈b,¬(c a=true/\d a=true)):b.countP (fun a=>c a||d a)=b.countP c+b.countP d:=by
 induction b with
 | nil=>rfl
 | cons a b g=>
   rw [zBn,zBn,zBn,g (fun i f=>e i (by simp [f]))];have:=e a (by simp);cases j:c a <;> cases k:d a <;> simp_all <;> omega
structure EndOk (l:List Nat) (m:Nat):Prop where
 len:l.length=m+1
 last:l.getD m 0=0
 pos:∀p,p < m->0 < l.getD p 0
def aFo {a j:List Nat} {e:Nat} (k:IsSuf a j) (l:EndOk a e) (f:Bool) (g:List Nat) (c:Nat) (u:0 < c):cL (aE a j) c (Nq a f g)=Nq a f (c::g):=by
 have d:=l.len;unfold cL;rw [aDQ k];have m:(aE a j).countP (fun q=>decide (q < c))=(List.range (e+1)).countP (fun b=>decide (a.getD b 0 < c)):=by
  rw [aE,List.countP_map,k.count,d];refine gF _ _ ?_ fun b i=>?_
  · show decide (bK a 0 < c)=_;rw [bV oM,d,zBb]
  · show decide (bK a (b+1) < c)=_;rw [aX oM]
 have n:(List.range a.length).countP (fun b=>decide (bK a b=c)&&Pq a f g b)=(List.range (e+1)).countP (fun b=>decide (a.getD b 0=c)&&Pq a f g (b+1)):=by
  rw [d];refine gF _ _ ?_ fun b i=>?_;show (decide (bK a 0=c)&&_)=(decide (a.getD e 0=c)&&_);rw [bV oM,d,zBb,l.last];have:decide (0=c)=false:=(by simp;omega);rw [this];rfl
  · show (decide (bK a (b+1)=c)&&_)=_;rw [aX oM]
 rw [m,n,<-sY]
 · unfold Nq;rw [d];refine List.countP_congr fun b i=>?_;have t:b < e+1:=(by simpa using i);rw [aBE,eY oM];have o:decide (((a.getD b 0:Nat):Int) < (c:Int))=decide (a.getD b 0 < c):=(by rw [decide_eq_decide];omega);have p:decide (((a.getD b 0:Nat):Int)=(c:Int))=decide (a.getD b 0=c):=(by rw [decide_eq_decide];omega);rw [o,p]
 intro b _;simp only [zBd,zCa];rintro ⟨r,s,_⟩;omega
def aKt (a:List Nat):Nq a false []=0/\Nq a true []=a.length:=by
 constructor;unfold Nq;exact List.countP_eq_zero.2 fun _ _ b=>by simp [Pq] at b
 · unfold Nq;have:=(List.countP_eq_length (p:=Pq a true []) (l:=List.range a.length)).2 (fun _ _=>rfl);rw [this];simp
def eH (a:List UInt8):EndOk (aG a) a.length:=by
 refine ⟨aM a,?_,fun c b=>?_⟩
 · unfold aG dK;rw [zAb,zAo (by simp)];simp
 · unfold aG dK;rw [zAb,zAn (by simpa using b),zAf,zAa b];simp
def aIJ (b:List Nat) (c:List Nat):∀a,Pq b true c a=(Pq b false c a||sP b c a)/\¬(Pq b false c a=true/\sP b c a=true):=by
 induction c with
 | nil=>intro a;exact ⟨rfl,fun j=>by simp [Pq] at j⟩
 | cons d c m=>
   intro a;obtain ⟨k,l⟩:=m (a+1);rw [aBE,aBE,aAh,k];by_cases e:aN b a < (d:Int)
   · have:¬aN b a=(d:Int):=oM;simp [e,this]
   · by_cases f:aN b a=(d:Int);have g:decide (aN b a < (d:Int))=false:=(by simpa using e);have i:decide (aN b a=(d:Int))=true:=(by simpa using f);rw [g,i,Bool.false_or,Bool.true_and,Bool.false_or,Bool.true_and,Bool.true_and];exact ⟨rfl,l⟩
     · simp [e,f]
def occ (a:List Nat) (b:List Nat):Nat:=(List.range a.length).countP (sP a b)
def aE4 (a:List Nat) (b:List Nat):Nq a true b=Nq a false b+occ a b:=by
 unfold Nq occ;rw [<-sY _ _ _ fun c _=>(aIJ a b c).2];exact List.countP_congr fun c _=>by rw [(aIJ a b c).1]
end
section
open Go.RowKit
def tJ {a b:List Nat} (c:a.Perm b):tcells a=tcells b:=by
 refine pB _ _ (eO a) (fun e d=>?_) ?_
 · rw [dU a d,c.count_eq]
 · rw [iB,c.length_eq]
def aDN (b d:List Nat) (a:Nat) (k:a < 257) (e:b.Perm (a::d)):((tcells b).setIfInBounds a (.int .i64 (((b.count a - 1:Nat)):Int))).setIfInBounds 257 (.int .i64 ((b.length - 1:Nat):Int))=tcells d:=by
 have f:=e.count_eq;have g:=e.length_eq;rw [zCg] at g;apply pB
 · simp [eO]
 · intro i j;rw [zCe oM];by_cases c:a=i
   · subst c;rw [Array.getElem?_setIfInBounds_self_of_lt (by rw [eO];omega),f a];simp
   · rw [zCe c,dU b j,f i,List.count_cons_of_ne c]
 rw [Array.getElem?_setIfInBounds_self_of_lt (by simp [eO]),g];rfl
def aBt (a:Nat) (c v:List Nat) (b:Nat) (w:World) (x:c.Perm (b::v)) (f:Bk w a 199 (tcells c)) (o:b < 257) (I:c.length<=1000):
 Calls prog 117 #[a,(b:Int),.int .i64 (-1)] w fun G w'=>G=.returned (.int .i64 0)/\Bk w' a 199 (tcells v)/\Keep (fun g=>g=a) w w':=by
 have t:=lhd f;clear f;have a7:¬((b:Int) < 0):=oM;have a8:((b:Int) < 257):=oM;obtain ⟨d,n⟩:=eqx (c.count b);obtain ⟨i,l⟩:=eqx c.length;have ac:d<=1000:=by rw [<-n];exact zAk zBv I
 rw [l] at I;have ab:1<=d:=by rw [<-n,x.count_eq];simp
 have aa:1<=i:=by rw [<-l,x.length_eq];simp
 have z:=aDN c v b o x;rw [n,l] at z;obtain ⟨J,u,E⟩:=hqq3 z n l;clear z n l;go_enter func117,ntmps117;go_wp2_with fail;refine (fE b _ o).mono ?_;rintro G w1 ⟨rfl,A⟩;have s:=t.out.below A t.out.lt;have T:w1.cell? ⟨a,b,none⟩=some (.int .i64 (d:Int)):=by rw [<-u.out];exact (s.cell b).trans (dU c o)
 have U:w1.cell? ⟨a,257,none⟩=some (.int .i64 (i:Int)):=by rw [<-E.out];exact (s.cell 257).trans (iB c)
 have ad:¬((-1:Int) < -(d:Int)):=oM;have ae:¬((-1:Int) > 2147483648 -(i:Int)):=oM;obtain ⟨K,M⟩:=hqq2 A s;clear A s t;go_wp2_with fail;refine wp_region_any kR ?_;refine bH [33,34,35,36,37,38,39,40,41,42,43] (fun g=>g=a) 11 [5,11] (fun j=>Bk j a 199 (tcells c)) (fun _ j=>Bk j a 199 ((tcells c).setIfInBounds b (.int .i64 ((d - 1:Nat):Int)))) [is a,is (b:Int),is a,is a,is (.pointer (some ⟨a,b,none⟩)),is (d:Int),is (.int .i64 (-1)),is (.int .i64 ((d - 1:Nat):Int)),is a,is a,is (.pointer (some ⟨a,b,none⟩)),dA] _ _ rfl kR kR (M.out) (fun j ag f _ O=>Bk.below f O f.lt) (fun _ _ _ f R=>Bk.below f R f.lt) tA0 ?_ ?_
 · refine aO ?_;refine pH3 0 (.pointer (some a)) ?_;refine pH3 1 (.int .i64 (b:Int)) ?_;refine pV3 0 33 ?_;refine pV3 2 35 ?_;refine pW3 3 36 1 34 ?_;refine sC3 (fun _ C _ y _ _ _ e _ _ _ k=>?_) ?_
   · have m:=y rfl;have Y:_=_:=e 4 37 kR rfl;have W:C.cell? ⟨a,b,none⟩=some (.int .i64 (d:Int)):=(by rw [<-u.out];exact (m.cell b).trans (dU c o));go_simp;exact kq k rfl
   refine pH3 2 (.int .i64 (-1)) ?_;refine sC3 (fun _ _ _ _ _ _ _ e _ _ _ k=>?_) ?_
   · have Z:_=_:=e 5 38 kR rfl;have a0:_=_:=e 6 39 kR rfl;go_simp;exact k _ _ (aJ bR) (dI (by rw [IntKind.wrap_i64];omega))
   refine pV3 0 33 ?_;refine pV3 8 41 ?_;refine pW3 9 42 1 34 ?_;refine sC3 (fun _ C _ y _ _ _ e _ _ _ k=>?_) ?_
   · have m:=y rfl;have a2:_=_:=e 10 43 kR rfl;have a1:_=_:=e 7 40 kR rfl;have X:C.cell? ⟨a,b,none⟩=some (.int .i64 (d:Int)):=(by rw [<-u.out];exact (m.cell b).trans (dU c o));have a6:=m.frozen b;go_simp;exact k (.bool true) _ (aU (Keep.setCell (F:=fun g=>g=a) (Keep.refl _ _) (p:=⟨a,b,none⟩) (.inl rfl) _)) (m.set b _)
   exact aD
 · intro a4 D r e H;replace r:Keep (fun g=>g=a) w1 D:=kD r;obtain ⟨af,q⟩:∃S,(fun _ j=>Bk j a 199 ((tcells c).setIfInBounds b (.int .i64 ((d - 1:Nat):Int)))) S D:=H 11 dC;simp only [zqq];clear e H;have V:D.cell? ⟨a,257,none⟩=some (.int .i64 (i:Int)):=(by refine (q.cell 257).trans ?_;rw [zCe oM,<-E.out];exact iB c);have a5:=q.frozen 257;have a3:(i:Int)+-1=((i - 1:Nat):Int):=oM;obtain ⟨N,L⟩:=hqq2 q r;have a9:=q.lt;clear q r;go_wp2_with fail;go_ret;refine ⟨rfl,?_,?_⟩;rw [<-J.out];exact N.out.set 257 _;exact ((Keep.of_below K.out).trans L.out).setCell (.inl rfl) _
end
section
open Go.RowKit Go.Shelf
def lF (w:World) (a:List (Nat×Nat)) (d:Ending) (w':World):Prop:=
 ∃b c,d=.returned (.slice b a.length c)/\Made w' w.heap.size 170 2 b a.length c (bW a)/\Below w.heap.size w w'
def iN (f:Nat):∀(d:List Value) (b:Nat) (w:World) (g:TypeId) (c:Array Value),Bk w f g c->∃e:Array Value,Bk (w.setCells f b d) f g e/\e.size=c.size/\∀a,a < c.size->e[a]?=if b<=a/\a < b+d.length then d[a - b]? else c[a]?
 | [],b,w,g,c,i=>⟨c,i,rfl,fun a j=>by rw [zBw (by simp)]⟩
 | v::d,b,w,g,c,i=>by
   obtain ⟨e,m,n,o⟩:=iN f d (b+1) (w.setCell ⟨f,b,none⟩ v) g _ (i.set b v);refine ⟨e,m,by rw [n];simp,fun a j=>?_⟩;rw [o a (by simpa using j)];by_cases k:b+1<=a/\a < b+1+d.length;rw [zBx k,zBx (by simp;omega),show a - b=(a -(b+1))+1 by omega];rfl
   · rw [zBw k,zCd];by_cases l:b=a;subst l;rw [zBx rfl,zBx j,zBx (by simp),Nat.sub_self];rfl
     · rw [zBw l,zBw (by simp;omega)]
def kL (a:Nat):∀(e:List Value) (b:Nat) (w0 w:World),Keep (fun c=>c=a) w0 w->Keep (fun c=>c=a) w0 (w.setCells a b e)
 | [],_,_,_,d=>d
 | v::e,b,w0,w,d=>kL a e (b+1) w0 (w.setCell ⟨a,b,none⟩ v) (d.setCell (p:=⟨a,b,none⟩) (.inl rfl) v)
def gN {F:Nat->Prop} (a:Nat):∀(d:List Value) (b:Nat) (w0 w:World),w0.heap.size<=a->Keep F w0 w->Keep F w0 (w.setCells a b d)
 | [],_,_,_,_,c=>c
 | v::d,b,w0,w,hg,c=>gN a d (b+1) w0 (w.setCell ⟨a,b,none⟩ v) hg (c.setCell (p:=⟨a,b,none⟩) (.inr hg) v)
def Bk.shape {w:World} {b:Nat} {d:TypeId} {a:Array Value} (c:Bk w b d a):w.shape? b=some (d,a.size):=by
 unfold Bk at c;unfold World.shape?;rw [c]
def gK {c:Array Value} {d:List Value} {b:Nat} (g:d.length=b) (i:b<=c.size) (f:∀a,a < b->c[a]?=d[a]?):c.toList.take b=d:=by
 apply List.ext_getElem?;intro a;by_cases e:a < b;rw [List.getElem?_take_of_lt e,Array.getElem?_toList];exact f a e
 · rw [List.getElem?_take_eq_none oM,zBg oM]
def sT {w:World} {B f c d:Nat} {g:TypeId} {j:List Value} (k:w.ownsRow B g 1 (.slice (some f) c d) c j) (t:0 < c):∃b:Array Value,Bk w f g b/\b.size=d/\c<=d/\d<=maxLen/\B<=f/\∀e,e < c->b[e]?=j[e]?:=by
 rcases k.2 with ⟨a,s⟩|⟨r,q,b,a,l,m,p,o,u,i⟩
 · cases a
 · injection a with a _ h3;injection a with a;injection a with a _;subst a h3;refine ⟨b,m,by omega,p,o,l,fun e n=>?_⟩;rw [zBl] at i;rw [<-i,List.getElem?_take_of_lt n,Array.getElem?_toList]
def sA (B:Nat) (e:Value) (a:Nat) (i:List Value) (w:World) (g:Ending) (w':World):Prop:=
 ∃b c,g=.returned (.slice b (a+1) c)/\w'.ownsRow B 3 1 (.slice b (a+1) c) (a+1) i/\Keep (fun f=>e.ownBlock=some f) w w'/\((Value.slice b (a+1) c).ownBlock=e.ownBlock∨∃d,(Value.slice b (a+1) c).ownBlock=some d/\w.heap.size<=d)
def zL (B:Nat) (s:Option Addr) (c f b:Nat) (d:List Nat) (n j:Nat) (w:World) (E:w.ownsRow B 3 1 (.slice s c f) c (d.map sv)) (z:Bk w n 3 #[sv j]) (a9:∀u,(Value.slice s c f).ownBlock=some u->u≠n) (Z:B<=w.heap.size) (S:b < c) (af:c<=1000000):
 Calls prog 151 #[.slice s c f,(b:Int),.slice (some n) 1 1] w (sA B (.slice s c f) c ((aP d b j).map sv) w):=by
 have l:d.length=c:=by have:=E.1;simpa using this
 obtain ⟨g,ah,C,_,ae⟩:=World.ownsRow.form E oM;injection C with C _ e3;subst C e3;obtain ⟨L,r,a6,a7,U,a0,O⟩:=sT E oM;have a8:n≠g:=fun q=>a9 g rfl q.symm;have R:∀a e,(d.map sv)[a]?=some e->w.cell? ⟨g,0+a,none⟩=some e:=fun a e k=>by
  have i:a < c:=by have:=(zAc.1 k).1;simpa [l] using this
  rw [zBi,r.cell,O a i,k]
 have W:∀a e, [sv j][a]?=some e->w.cell? ⟨n,0+a,none⟩=some e:=fun a e k=>by
  rw [zBi,z.cell,<-k];rcases a with _ | a;rfl
  · simp at k
 have M:∀e∈d.map sv,e.oneCell'=true:=fun e k=>by obtain ⟨ac,_,rfl⟩:=zAy.1 k;rfl
 have N:∀e∈ [sv j],e.oneCell'=true:=fun e k=>by rw [List.mem_singleton] at k;subst k;rfl
 have T:∀a,a < c+1->((aP d b j).map sv)[a]?=if a < b then (d.map sv)[a]? else if a=b then some (sv j) else (d.map sv)[a - 1]?:=fun a i=>by rw [mY,iR _ _ (by rw [zBc];omega)]
 have y:((aP d b j).map sv).length=c+1:=by rw [zBc,fX _ _ oM,l]
 by_cases V:c+1<=f
 · have a5:∀a,a < c+1->w.cell? ⟨g,0+a,none⟩=some (L.getD a (.bool false)):=fun a i=>by rw [zBi,r.cell,zAq oM];congr 1;rw [zAm,zAq oM];rfl
   have D:=Any2.slices_Insert_int_shift shIns g 0 c f b n 0 1 1 (d.map sv) [sv j] w S dC V (by unfold maxLen at U;omega) a8 (by simpa using l) rfl R (fun a i=>by rw [a5 a i];rfl) (fun a i=>by rw [zBi];exact r.frozen a) W M N 3 3 1 L.size (z.shape) (r.shape) oM (z.frozen 0) (z.frozen 1);refine D.mono ?_;rintro q w' ⟨rfl,rfl⟩;obtain ⟨Y,G,aa,H⟩:=iN g ((d.map sv).drop b) (0+(b+1)) w.drew _ _ r.drew;obtain ⟨A,J,ab,K⟩:=iN g [sv j] (0+b) _ _ _ G;refine ⟨_,f,rfl,⟨by rw [y,zBl],.inr ⟨g,f,A,rfl,a0,J,V,U,by omega,?_⟩⟩,(kL g _ _ w _ (kL g _ _ w _ (Keep.refl _ w).drew)).mono fun u _ q=>by rw [show u=g from q];rfl,.inl rfl⟩;rw [zBl];refine gK y oM fun a i=>?_;rw [T a i,K a oM,H a oM];simp only [zCg,List.length_nil,zAw,zBc,l];by_cases m:a < b
   · rw [zBw oM,zBw oM,zBx m,O a oM]
   · by_cases p:a=b
     · subst p;rw [zBx oM,zBw oM,zBx rfl];simp
     rw [zBw oM,zBx oM,zBw m,zBw p,zBt];congr 1;omega
 · have D:=Any2.slices_Insert_int_grow shIns g 0 c f b n 0 1 1 (d.map sv) [sv j] w S dC a7 oM oM (by simpa using l) rfl R W M N;refine D.mono ?_;rintro q w' ⟨rfl,rfl⟩;obtain ⟨o,x⟩:=eqx (grownCap w (c+1) f 3);have a2:c+1<=o:=(by rw [<-x];exact grownCap_ge _ _ _ _);have a3:o<=maxLen:=(by rw [<-x];exact grownCap_le_maxLen _ _ _ _ (by unfold maxLen;omega));show sA _ _ _ _ _ (.returned (.slice _ _ (grownCap w (c+1) f 3))) _;rw [x];have X:∀I,(Builtin.zeroCells (Value.int .i64 0).cells I).size=I:=fun I=>by simp [Builtin.zeroCells,Value.cells]
   obtain ⟨t,v⟩:=eqx (((d.map sv).take b).toArray++Builtin.zeroCells (Value.int .i64 0).cells (c+1 - b)++Builtin.zeroCells (Value.int .i64 0).cells (o -(c+1)));have ad:t.size=o:=(by rw [<-v,Array.size_append,Array.size_append,X,X];simp [l];omega);have a1:∀a,a < b->t[a]?=(d.map sv)[a]?:=fun a i=>by have ag:(((d.map sv).take b).toArray).size=b:=(by simp [l];omega);rw [<-v,Array.append_assoc,Array.getElem?_append_left oM,zCw,List.getElem?_take_of_lt i]
   have a4:Bk (w.alloc (.cells t 3)) w.heap.size 3 t:=Bk.new _ _ _;have a6:=v;show sA _ _ _ _ _ _ ((((w.alloc (.cells (((d.map sv).take b).toArray++Builtin.zeroCells (Value.int .i64 0).cells (c+1 - b)++Builtin.zeroCells (Value.int .i64 0).cells (grownCap w (c+1) f 3 -(c+1))) 3)).drew.setCells w.heap.size b [sv j]).drew).setCells w.heap.size (b+1) ((d.map sv).drop b));rw [x,v];obtain ⟨Y,G,aa,H⟩:=iN w.heap.size [sv j] b _ _ _ a4.drew;obtain ⟨A,J,ab,K⟩:=iN w.heap.size ((d.map sv).drop b) (b+1) _ _ _ G.drew;refine ⟨_,o,rfl,⟨by rw [y,zBl],.inr ⟨w.heap.size,o,A,rfl,Z,J,a2,a3,by omega,?_⟩⟩,gN _ _ _ w _ nL (gN _ _ _ w _ nL ((Keep.refl _ w).alloc _).drew).drew,.inr ⟨_,rfl,zAs _⟩⟩;rw [zBl];refine gK y oM fun a i=>?_;rw [T a i,K a oM,H a oM];simp only [zCg,List.length_nil,zAw,zBc,l];by_cases m:a < b
   · rw [zBw oM,zBw oM,zBx m,a1 a m]
   · by_cases p:a=b
     · subst p;rw [zBw oM,zBx oM,zBw m,zBx rfl];simp
     rw [zBx oM,zBw m,zBw p,zBt];congr 1;omega
def zM (B:Nat) (f:Option Addr) (a g b:Nat) (e:List Nat) (c d:Nat) (w:World) (m:w.ownsRow B 3 1 (.slice f a g) a (e.map sv)) (n:Bk w c 3 #[sv d]) (C:∀k,(Value.slice f a g).ownBlock=some k->k≠c) (p:B<=w.heap.size) (D:b<=a) (q:a<=1000000):
 Calls prog 151 #[.slice f a g,(b:Int),.slice (some c) 1 1] w (sA B (.slice f a g) a ((aP e b d).map sv) w):=by
 by_cases x:b < a;exact zL B f a g b e c d w m n C p x q
 · obtain rfl:b=a:=oM;have E:e.length=b:=(by have:=m.1;simpa using this);have A:Rd w w.heap.size 1 (some ⟨c,0,none⟩) 1 [sv d]:=by
    refine ⟨rfl,fun _=>⟨c,0,rfl,n.lt,fun s G l=>?_⟩⟩;rcases s with _ | s;injection l with l;subst l;exact (n.cell 0).trans rfl
    · simp at l
   refine (oX B f b g (e.map sv) (some ⟨c,0,none⟩) 1 d w m A p q).mono ?_;rintro o w' ⟨H,rfl,r,i,j⟩;have v:(aP e b d).map sv=e.map sv++ [sv d]:=(by unfold aP;rw [zAg oM,List.drop_of_length_le oM,zAz];rfl);obtain ⟨t,u,rfl,_⟩:=aQ r;refine ⟨t,u,rfl,by rw [v];exact r,⟨i.os,i.tape,i.output,i.size,fun k y z=>i.block k y fun o=>z o.symm⟩,?_⟩;rcases j with j | j;exact .inl j;exact .inr ⟨_,j,zAs _⟩
end
section
open Go.RowKit Go.Shelf
open Go.Sort (Holds PermIn SortedIn SWO heap_grow_old)
def aHm {w:World} {e base a c f k:Nat} {os:Array Obj} {d:Array Value} (b:Array (Fin (e+1))) (i:b.size=f) (g:Bk w a 3 d) (p:base<=a) (l:f<=c) (m:c<=maxLen) (n:d.size=c):
 (sortWorld (fA e) w a 0 k b os).ownsRow base 3 1 (.slice (some a) f c) f ((b.toList.map fun u=>u.val).map sv):=by
 have q:=g.lt;have r:(sortWorld (fA e) w a 0 k b os).heap[a]?=some (.cells (Go.Sort.putCells (fA e) 0 b d) 3 (0,0)):=by unfold sortWorld;rw [heap_grow_old _ _ (by show a < (w.heap.modify a _).size;simpa using q)];have o:w.heap[a]?=some (.cells d 3 (0,0)):=g;simp [Go.Sort.putRow,Go.Sort.mapBlock,Go.Sort.ahead,Array.getElem?_modify,o,Go.Sort.onCells]
 refine ⟨by simp [i],.inr ⟨a,c,_,rfl,p,r,l,m,by simp [Go.Sort.putCells,n],?_⟩⟩;rw [zBl];refine gK (by simp [i]) (by simp [Go.Sort.putCells];omega) fun j v=>?_;have s:j < d.size:=oM;have t:j < b.size:=oM;simp [Go.Sort.putCells,Array.getElem?_mapIdx,s,t,fA,sv,aCG]
def aGc {c:Nat} {a:List Nat} (d:∀b∈a,b < c+1):(fO c a).toList.map (fun f=>f.val)=a:=by
 unfold fO;rw [zCh]
 conv=>rhs;rw [<-List.map_id a]
 exact List.map_congr_left fun b e=>zBu (d b e)
def cfK (b:Nat) (a:Nat->Nat) (c d:Fin (b+1)):Int:=Lib.compareInt ((a c.val:Nat):Int) ((a d.val:Nat):Int)
def aA0 (b:Nat) (a:Nat->Nat) (c d:Fin (b+1)):ltOf (cfK b a) c d=decide (a c.val < a d.val):=by
 unfold ltOf cfK;rw [decide_eq_decide,vD];omega
def aIV (a:Nat) (b:Nat->Nat):SWO (ltOf (cfK a b)) where
 irrefl x:=by rw [aA0];simp
 trans x y z h1 h2:=by
  rw [aA0,zCa] at*
  omega
 ntrans x y z h1 h2:=by
  rw [aA0,decide_eq_false_iff_not] at*
  omega
def aB8 {g:Nat} {c:List Nat} {f:Nat->Nat} {b:Array (Fin (g+1))} (v:∀E∈c,E < g+1) (q:PermIn 0 (fO g c).size (fO g c) b) (D:SortedIn (ltOf (cfK g f)) 0 (fO g c).size b) (A:c.Nodup) (y:∀a∈c,∀r∈c,f a=f r->a=r):
 (b.toList.map fun a=>a.val).Perm c/\(b.toList.map fun a=>a.val).Pairwise (fun s t=>f s < f t):=by
 have i:(b.toList.map fun a=>a.val).Perm c:=by have:=(vY q).map (fun a:Fin (g+1)=>a.val);rwa [aGc v] at this
 refine ⟨i,?_⟩;have C:(b.toList.map fun a=>a.val).Nodup:=i.nodup_iff.2 A;rw [zAr];intro d e j k n;have z:d < b.size:=by simpa using j
 have o:e < b.size:=by simpa using k
 have x:=D d e (zAp _) n (by rw [<-q.1];exact o);rw [aA0,decide_eq_false_iff_not,aCG _ _ z,aCG _ _ o] at x;have l:(b.toList.map fun a=>a.val)[d]=b[d].val:=by simp
 have m:(b.toList.map fun a=>a.val)[e]=b[e].val:=by simp
 have p:(b.toList.map fun a=>a.val)[d]≠(b.toList.map fun a=>a.val)[e]:=zAr.1 C d e j k n;have G:b[d].val∈c:=i.subset (by rw [<-l];exact zBj j);have H:b[e].val∈c:=i.subset (by rw [<-m];exact zBj k);rw [l,m] at p⊢;have I:f b[d].val≠f b[e].val:=fun u=>p (y _ G _ H u);omega
end
section
open Go.RowKit
def jX (c:IntKind) (d:Nat) (a:Nat->Nat):Array Value:=((List.range d).map fun b=>Value.int c ((a b:Nat):Int)).toArray
def lA (c:IntKind) (a:Nat) (b:Nat->Nat):(jX c a b).size=a:=by simp [jX]
def fY {c:IntKind} {d:Nat} {b:Nat->Nat} {a:Nat} (e:a < d):(jX c d b)[a]?=some (.int c ((b a:Nat):Int)):=by
 unfold jX;rw [zCw,zAf,zCk e];rfl
def tA {d:IntKind} {b:Nat} {c:Nat->Nat} {a:Nat} (e:¬a < b):(jX d b c)[a]?=none:=Array.getElem?_eq_none (by rw [lA];omega)
def dJ {e:IntKind} {b:Nat} {c d:Nat->Nat} (f:∀a,a < b->c a=d a):jX e b c=jX e b d:=by
 unfold jX;congr 1;exact List.map_congr_left fun a g=>by rw [f a (zCj.1 g)]
def lB {f:IntKind} {e:Nat} {g:Nat->Nat} {d j:Nat} (i:d < e):(jX f e g).setIfInBounds d (.int f ((j:Nat):Int))=jX f e (fun c=>if c=d then j else g c):=by
 apply Array.ext_getElem?;intro c;rw [zCd,lA];by_cases b:c < e
 · rw [fY b,fY b];by_cases a:d=c
   · subst a;rw [zBx rfl,zBx b,zBx rfl]
   · rw [zBw a,zBw (fun i=>a i.symm)]
 · rw [tA b,tA b];by_cases a:d=c
   · subst a;rw [zBx rfl,zBw b]
   · rw [zBw a]
def oK (c:IntKind) (b:Nat):Array.replicate b (Value.int c 0)=jX c b (fun _=>0):=by
 apply Array.ext_getElem?;intro d;by_cases a:d < b;rw [fY a,Array.getElem?_replicate,zBx a];rfl
 · rw [tA a,Array.getElem?_replicate,zBw a]
def aGF (b:IntKind) (c:Nat) (a:Nat->Nat):(jX b c a).toList=(List.range c).map fun d=>Value.int b ((a d:Nat):Int):=rfl
def aBs (a:Nat) (c:List Bool) (w:World) (g:TreeAt w a c):
 Calls prog 241 #[a] w fun f w'=>f=.returned (.int .i64 ((c.count true:Nat):Int))/\Below w.heap.size w w':=by
 obtain ⟨u,z,⟨rfl,A,b⟩|⟨y,b,x,l,v,d⟩⟩:=g
 · have e:w.cell? ⟨a,2,none⟩=some (.int .i64 (-1)):=(b.cell 2).trans rfl;clear b;go_enter func241,ntmps241;go_wp2;go_ret;exact ⟨rfl,Below.refl _ _⟩
 · obtain ⟨i,j,e,k,m,n,o,p,q,r,s,t⟩:=d.cells;clear d;go_enter func241,ntmps241;go_wp2;go_quiet (fail);go_wp2;go_ret;exact ⟨rfl,⟨rfl,rfl,rfl,zAs _,fun _ _=>rfl⟩⟩
def TabW.visk {a:Nat} {w w':World} (d:TabW w) (g:VisK (fun c=>c=a) w w') (i:1 < a) (f:1 < w.heap.size):TabW w':=
 fun b e=>(g.2.cell (p:=⟨1,b,none⟩) f (by show ¬(1=a);omega)).trans (d b e)
def aIs {a:List Bool} {b:Bool} {c:Nat} (d:a[c]?=some b):(a.take c).count b < a.count b:=by
 have i:=(zAc.1 d).1;have e:a=a.take (c+1)++a.drop (c+1):=(zAu _ _).symm;have f:a.count b=(a.take (c+1)).count b+(a.drop (c+1)).count b:=by rw [<-zCc,zAu]
 have g:(a.take (c+1)).count b=(a.take c).count b+1:=by rw [zAv,d,zCc];simp
 omega
def xP (c:Nat) (a:List Bool) (d f:Nat) (b:Bool) (w:World) (k:TreeAt w c a) (v:a[d]?=some b) (u:(a.take d).count b=f) (A:TabW w) (au:1 < c):
 Calls prog 202 #[c,(f:Int),.bool b] w fun g w'=>g=.returned (.int .i64 (d:Int))/\VisK (fun b=>b=c) w w':=by
 have a2:a.length<=128:=by
  obtain ⟨X,x,⟨rfl,aF,l⟩|⟨t,l,Z⟩⟩:=k
  · simp
  exact l
 have ay:=(zAc.1 v).1;have a5:=aIs v;rw [u] at a5;have a4:=pS a;have aA:∃r,Bk w c 202 r/\3 < r.size:=by obtain ⟨X,x,⟨rfl,aF,l⟩|⟨t,l,Y,an,s,Z⟩⟩:=k;exact ⟨_,l,by simp⟩;exact ⟨_,Z.tree,by simp⟩
 obtain ⟨r,o,ar⟩:=aA;have aC:1 < w.heap.size:=A.pos;have I:=VisK.set_tree o 0;have a7:=k.vis I.1;have aY:=o.lt;have V:w.cell? ⟨c,3,none⟩=some r[3]:=by rw [o.cell 3];simp [ar]
 have W:=o.frozen 3;obtain ⟨j,z⟩:=eqx a.length;obtain ⟨i,G⟩:=eqx (a.count true);rw [z,G] at a4;have a6:f < (if b then i else j - i):=by cases b;simp;omega;simp;omega
 have ap:j<=128:=oM;have ax:i<=j:=oM;have b1:f<=128:=by rw [<-u];exact zAk zBv (by rw [zAj];omega)
 have b4:d<=128:=oM;obtain ⟨aa,H⟩:=eqx ((if b then i else j - i));rw [H] at a6;obtain ⟨N,y,aK,T,ac,S,ai,aj,ak⟩:=hqq9 I k a2 a7 z v u G H;obtain ⟨ad,aL⟩:=hqq2 A a6;clear k a2 I a7 o z ay a5 a4 v u G H A;go_enter func202,ntmps202;go_wp2_with fail;clear V W;refine (eR c a _ T.out).mono ?_;rintro g b6 ⟨rfl,m⟩;rw [ac.out];have J:=N.out.below m;have a8:=y.out.vis J.1;obtain ⟨O,U⟩:=hqq2 J a8;clear J a8 N T m;go_wp2_with fail;refine (aBs c a _ U.out).mono ?_;rintro g b7 ⟨rfl,a0⟩;rw [aj.out];have K:=O.out.below a0;have a9:=y.out.vis K.1;obtain ⟨R,al⟩:=hqq2 K a9;clear K a9 O U a0;go_wp2_with fail;refine (wN j i b _ ap ax).mono ?_;rintro g aG ⟨rfl,a1⟩;rw [ak.out];have L:=R.out.below a1;have az:=y.out.vis L.1;have aw:¬aa<=f:=oM;have b3:decide (aa<=f)=false:=zBy aw;obtain ⟨X,x,⟨D,_,_⟩|⟨D,m,Y,an,s,e⟩⟩:=az
 · have t:=S.out;rw [D] at t;simp at t
 obtain ⟨aM,aN,aO,V,aP,aQ,aR,aS,aT,aU,aV,aW⟩:=e.cells;have b2:=e.row.lt;have aZ:=e.tree.lt;have b0:c≠Y:=e.row.bk_ne e.tree dC;have W:=e.tree.frozen 3;obtain ⟨q,ab,af⟩:=hqq3 e m L;clear e m D L a1 R al;go_wp2_with fail;go_loopw [1,7,8] (fun aH aI aJ wr=>aH=.int .i64 (f:Int)/\aI=.int .i64 0/\aJ=.int .i64 0/\wr=aG) (fun _ _ _ _=>0)
 case atStart=>exact ⟨rfl,rfl,rfl,rfl⟩
 case round=>
  obtain ⟨rfl,rfl,rfl,rfl⟩:=hrel;go_wp2_with fail;refine (wN 0 0 b _ oM nL).mono ?_;rintro g b8 ⟨rfl,n⟩;have ao:(if b=true then 0 else 0 - 0:Nat)=0:=by cases b <;> rfl
  rw [ao];have av:=Bk.ne q.out.blk q.out.tree dC;have M:=(VisK.set_tree q.out.tree (wrap64 (x+1))).alloc (.cells #[.int .i64 (-1),.int .i64 (-1),.int .i64 0,(a.length:Int),.int .i64 ((a.count true:Nat):Int),.int .i64 0,.int .i64 0,s] 205);have aD:=M.below n;have E:=(q.out.blk.far (p:=⟨c,3,none⟩) av (.int .i64 (wrap64 (x+1)))).alloc (.cells #[.int .i64 (-1),.int .i64 (-1),.int .i64 0,(a.length:Int),.int .i64 ((a.count true:Nat):Int),.int .i64 0,.int .i64 0,s] 205);have a3:=E.below n E.lt;have b5:=n.cell (p:=⟨wr.heap.size,7,none⟩) (by simp [World.setCell]);have C:=((af.out.trans M).below n);obtain ⟨ae,ag,ah⟩:=hqq3 (ad.out.visk C au aC) C a3;clear aD E a3 M C n;go_wp2_with fail;refine (uM s a b d f _ ah.out ab.out S.out ai.out ae.out).mono ?_;rintro g b9 ⟨rfl,aq⟩;have aB:=ag.out.below aq;have aX:IntKind.i64.wrap (d:Int)=(d:Int):=by rw [IntKind.wrap_i64];omega
  go_wp2_with fail;go_ret;exact ⟨fG oM,aB⟩
@[irreducible] def cntL (am:List Nat):List Value:=(List.range 257).map fun aE=>.int .i64 ((am.count aE:Nat):Int)
def aBh (b:List Nat) {a:Nat} (c:a < 257):(cntL b)[a]?=some (.int .i64 ((b.count a:Nat):Int)):=by
 unfold cntL;rw [zAf,zCk c];rfl
def aCM (a:List Nat):(cntL a).length=257:=by unfold cntL;simp
def aH8 {w:World} {b:Nat} {a:List Nat} (f:Bk w b 199 (tcells a)):(loadCells ⟨b,0,none⟩ 257).run prog w=.ok (cntL a).toArray w:=by
 have:=run_loadCells_list (P:=prog) w ⟨b,0,none⟩ (cntL a) (fun c i e=>by
  have g:(⟨b,0,none⟩:Addr).add c=⟨b,c,none⟩:=by unfold Addr.add;split <;> simp_all
  have d:c < 257:=by rw [<-aCM a];exact (zAc.1 e).1
  rw [g,f.cell c,dU a d,<-aBh a d,e])
 rw [aCM] at this;exact this
def yM {i:Oper} {b:Act} {w:World} {j:Act->World->Prop} {Q:Exit->Act->World->Prop} (a:TypeId) (l:Operand) (p:i.op=.load a l)
 (c:Addr) (t:b.eval l=.pointer (some c)) (d:Array Value) (g:Nat) (e:TypeDesc)
 (r:prog.underlying a=some e) (v:(match e with | .struct _ | .array _ _=>true | _=>false)=true) (k:(prog.info? a).map (·.size)=some g)
 (o:(loadCells c g).run prog w=.ok d w) (m:j (b.put i.dst (.agg d)) w):i.wp prog b w j Q:=by
 have s:(loadVar a c).run prog w=.ok (.agg d) w:=by
  cases f:prog.info? a with
  | none=>simp [f] at k
  | some u=>
    have q:u.size=g:=(by simpa [f] using k);have n:(isAgg a).run prog w=.ok true w:=(by unfold isAgg;rw [Sem.run_bind,run_underlying r w];cases e <;> simp_all);simp [loadVar,Sem.run_bind,n,sizeOf,typeInfo,f,q,o]
 unfold Oper.wp execOp;simp only [p,t,Instr.loadAt,Instr.sureAddr,Sem.run_bind,Sem.run_pure,Result.andThen_ok,s];exact m
def aKb (b:List Nat) (a:Nat) (c:a < 257) (w:World):(Instr.index 148 (.agg (cntL b).toArray) (.int .i64 (a:Int))).run prog w=.ok (.int .i64 ((b.count a:Nat):Int)) w:=by
 have j:(cntL b).toArray[a]?=some (.int .i64 ((b.count a:Nat):Int)):=by rw [zCw];exact aBh b c
 have d:(0:Int)<=(a:Int)/\(a:Int) < ((257:Nat):Int):=oM;have g:=underlying148;have i:=underlying3;have f:=aBh b c;have e:(isAgg 3).run prog w=.ok false w:=by unfold isAgg;rw [Sem.run_bind,run_underlying i w];rfl
 simp [Instr.index,asIntOf,Sem.run_bind,run_underlying g w,d,Tryz.sizeOf3,c,part,e,f]
def xT (v:Nat) (b:List Nat) (c d:Nat) (w:World) (m:Bk w v 199 (tcells b)) (a1:d < 257) (j:b.countP (fun a=>decide (a < d))<=c) (g:c < b.countP (fun a=>decide (a < d))+b.count d) (a0:b.length<=1000):
 Calls prog 180 #[v,(c:Int)] w fun M w'=>M=.returned (.int .i64 (d:Int))/\Below w.heap.size w w':=by
 have G:=aH8 m;have W:=lhd m;clear m;have Y:decide ((c:Int) < 0)=false:=by simp
 go_enter func180,ntmps180;go_wp2_with fail;refine yM 148 (.tmp 15) rfl ⟨v,0,none⟩ rfl (cntL b).toArray 257 _ underlying148 rfl kR G ?_;have x:=fun a=>tT b a;have E:∀a,a < d->b.countP (fun e=>decide (e < a))+b.count a<=b.countP (fun e=>decide (e < d)):=fun a U=>by rw [<-x a];exact List.countP_mono_left fun e _ m=>by simp at m⊢;omega
 obtain ⟨C,J,I,A⟩:=hqq4 x E j g;clear x E j g G;have Z:c<=1000:=by
  have g:=A.out;have n:b.countP (fun a=>decide (a < d))+b.count d<=b.length:=by rw [<-C.out d];exact zBh
  omega
 simp only [Act.put,List.setIfInBounds_toArray,List.set_cons_zero,List.set_cons_succ];go_wp2_with fail;go_loopw [1,17] (fun i z wr=>∃a:Nat,a<=d/\z=.int .i64 (a:Int)/\i=.int .i64 ((c - b.countP (fun e=>decide (e < a)):Nat):Int)/\wr=w) (fun _ z _=>257 -(intOf z).toNat)
 case atStart=>exact ⟨0,by omega,rfl,by simp,rfl⟩
 case round=>
  obtain ⟨a,U,rfl,rfl,rfl⟩:=hrel;have T:=aKb b a oM;have j:=I.out;have g:=A.out;have n:=C.out a;have k:=J.out a;obtain ⟨f,s⟩:∃f,b.countP (fun e=>decide (e < d))=f:=⟨_,rfl⟩;obtain ⟨i,l⟩:∃f,b.countP (fun e=>decide (e < a))=f:=⟨_,rfl⟩;obtain ⟨H,t⟩:∃f,b.countP (fun e=>decide (e < a+1))=f:=⟨_,rfl⟩;obtain ⟨q,o⟩:=eqx (b.count a);rw [s] at j g k;rw [l] at n k;rw [t,o] at n;rw [o] at k T;by_cases V:a < d
  · have S:=k V;have r:¬c - i < q:=oM;have N:decide (c - i < q)=false:=zBy r;have D:IntKind.i64.wrap (((c - i:Nat):Int) -(q:Int))=((c - H:Nat):Int):=(by rw [IntKind.wrap_i64];omega);have O:a < 257:=oM;have R:(a:Int) < 257:=oM;rw [l];obtain ⟨u,p⟩:=eqx (c - i);obtain ⟨X,y⟩:∃u,c - H=u:=⟨_,rfl⟩;rw [p] at r N D⊢;rw [y] at D;obtain ⟨K,L⟩:=hqq2 y t;clear j g n k S s l t o p y;go_wp2_with fail;go_roundw
    case rel=>exact ⟨a+1,by omega,by go_num,by rw [L.out,K.out],by first | rfl | trivial⟩
    case measure=>simp [intOf];omega
  · obtain rfl:a=d:=oM;rw [l];obtain rfl:f=i:=(by rw [<-s,<-l]);rw [o] at g;have r:c - f < q:=oM;have O:a < 257:=oM;have R:(a:Int) < 257:=oM;obtain ⟨u,p⟩:=eqx (c - f);rw [p] at r⊢;clear j g n k s l t o p;go_wp2_with fail;go_ret;exact ⟨rfl,Below.refl _ _⟩
end
section
open Go.RowKit Go.Shelf
def zQ (B:Nat) (k:Option Addr) (b f a:Nat) (e:List Nat) (w:World) (u:w.ownsRow B 3 1 (.slice k b f) b (e.map sv)) (Y:a < b) (Z:b<=1000000):
 Calls prog 206 #[.slice k b f,(a:Int),.int .i64 ((a+1:Nat):Int)] w fun o w'=>o=.returned (.slice k (b - 1) f)/\w'.ownsRow B 3 1 (.slice k (b - 1) f) (b - 1) ((aF e a).map sv)/\Keep (fun q=>(Value.slice k b f).ownBlock=some q) w w':=by
 have D:e.length=b:=by have:=u.1;simpa using this
 obtain ⟨i,a2,r,_,X⟩:=World.ownsRow.form u oM;injection r with r _ e3;subst r e3;obtain ⟨H,y,U,a0,E,I,L⟩:=sT u oM;obtain ⟨d,x⟩:∃d:List Int,e.map (fun T=>((T:Nat):Int))=d:=⟨_,rfl⟩;have v:d.length=b:=by rw [<-x,zBc,D]
 have S:e.map sv=d.map (Value.int .i64):=by rw [<-x,zCh];rfl
 have J:Sort.Holds (Value.int .i64) w i 0 d.toArray:=holds_of_blockI y (by
  refine gK (by simp) oM fun c t=>?_;rw [L c oM,S])
 have s:=Any.slices_Delete_int shDel i 0 f a (a+1) d w J oM (by unfold maxLen at E;omega) oM oM;rw [v] at s;have W:(aF e a).length+1=b:=by rw [dE _ oM,D]
 have V:(aF d a).length+1=b:=by rw [dE _ oM,v]
 obtain ⟨m,p⟩:=eqx (d.take a++d.drop (a+1)++List.replicate (a+1 - a) 0);have a1:m.length=b:=by rw [<-p];simp [v];omega
 have O:∀c,c < b - 1->m[c]?=(aF d a)[c]?:=fun c t=>by rw [<-p];show ((aF d a)++List.replicate (a+1 - a) 0)[c]?=_;rw [zAn oM]
 rw [p] at s;clear p;refine s.mono ?_;rintro o w' ⟨rfl,G,rfl⟩;have j:=grownBy_sortedI (w:=w) (g:=i) (n:=G) (os:=#[]) m.toArray;have z:=heap_sortedI (w:=w) (g:=i) (n:=G) (os:=#[]) m.toArray y;rw [Go.Sort.grow_empty] at j z;refine ⟨by rw [show a+1 - a=1 by omega],⟨by rw [zBc,zBl];omega,.inr ⟨i,f,_,rfl,I,z,by omega,E,by simp [Go.Sort.putCells];omega,?_⟩⟩,⟨j.os,j.tape,j.output,j.size,fun q K N=>j.block q K fun o=>N o.symm⟩⟩;rw [zBl];refine gK (by rw [zBc];omega) (by simp [Go.Sort.putCells];omega) fun c t=>?_;have A:c < (aF e a).length:=oM;have R:(aF d a)[c]?=some (((aF e a)[c]:Nat):Int):=by rw [<-x,<-rI,zAf,zAa A];rfl
 rw [zAf,zAa A];have l:=O c t;rw [R] at l;have M:c < H.size:=oM;have C:c < m.length:=oM;rw [zAa C] at l;injection l with l;simp [Go.Sort.putCells,Array.getElem?_mapIdx,M,C,l,sv]
end
section
open Go.RowKit
def xM (B gk:Nat) (f:List Nat) (l k e:Nat) (w:World) (a5:WalkAt w B gk f) (X:e < 257) (aA:l<=k) (a6:k<=f.length) (U:∀N∈f,N < 257) (I:f.length<=1000):
 Calls prog 182 #[gk,(l:Int),(k:Int),(e:Int)] w fun n w'=>n=.returned (.tuple #[.int .i64 ((cL f e l:Nat):Int),.int .i64 ((cL f e k:Nat):Int)])/\VB B w w':=by
 obtain ⟨A,V⟩:=eqx f.length;obtain ⟨i,C⟩:∃i,f.countP (fun N=>decide (N < e))=i:=⟨_,rfl⟩;obtain ⟨o,D⟩:=eqx ((f.take l).count e);obtain ⟨p,E⟩:=eqx ((f.take k).count e);have ad:i<=1000:=by rw [<-C];exact zAk zBh I
 have b1:o<=1000:=by rw [<-D];exact zAk zBv (by rw [zAj];omega)
 have b2:p<=1000:=by rw [<-E];exact zAk zBv (by rw [zAj];omega)
 unfold cL;rw [C,D,E];obtain ⟨t,a4,K,L,Z⟩:=a5;have z:Hid (WalkAt w B gk f):=lhd ⟨t,a4,K,L,Z⟩;obtain ⟨q,S⟩:=hqq2 K L;have aC:A<=1000:=oM;have aB:k<=A:=oM;obtain ⟨x,O,v,u,R,a0,a1⟩:=hqq7 X U I V C D E;have a8:max (l:Int) 0=(l:Int):=oM;have a9:min (l:Int) (A:Int)=(l:Int):=oM;have aa:min (k:Int) (A:Int)=(k:Int):=oM;have ab:max (k:Int) (l:Int)=(k:Int):=oM;clear K L Z U I C D E a6;go_enter func182,ntmps182;go_wp2_with fail;refine (fE e _ X).mono ?_;rintro n w1 ⟨rfl,W⟩;have Y:VB B w w1:=VisK.of_below W;have y:=lhd Y;clear W Y;go_wp2_with fail;refine (kJ B gk f _ (z.out.vis y.out.1)).mono ?_;rintro n j ⟨rfl,rfl⟩;rw [u.out];go_wp2_with fail;refine (kJ B gk f _ (z.out.vis y.out.1)).mono ?_;rintro n j ⟨rfl,rfl⟩;rw [u.out];go_wp2_with fail;have m:=lhd y.out;clear y a8 a9 aa ab V;obtain ⟨j,a7⟩:∃j,j=w1:=⟨_,rfl⟩;subst a7;refine wp_region_any kR ?_;refine aV [28,29,30,31,32,33,34,35,36,37,38,39,40,41,42,43,44,45,46,47,48,49,8,9] (VB B) (Vs [is gk,is (e:Int),is (i:Int),is gk,is gk,is gk,is t,is (l:Int),is (e:Int),is (o:Int),is (.int .i64 ((i+o:Nat):Int)),is gk,is (e:Int),is (i:Int),is gk,is gk,is gk,is t,is (k:Int),is (e:Int),is (p:Int),is (.int .i64 ((i+p:Nat):Int)),is (.int .i64 ((i+o:Nat):Int)),is (.int .i64 ((i+p:Nat):Int))]) _ _ rfl kR vR (fun _ _=>VisK.trans) (cZ tA1) ?_ ?_
 · refine aO ?_;refine pH 0 (.pointer (some gk)) ?_;refine pH 3 (.int .i64 (e:Int)) ?_;refine sC (fun _ d a _ _ _ b _ _ _ c=>?_) ?_
   · have ae:_=_:=b 0 28 kR rfl;have af:_=_:=b 1 29 kR rfl;replace a:(VB B) j d:=bD a;go_simp;refine (iI B gk f e d (z.out.vis (m.out.trans a).1) x.out v.out).mono ?_;rintro n M ⟨rfl,H⟩;rw [R.out];exact c _ _ (VisK.of_below H) rfl
   refine pH 0 (.pointer (some gk)) ?_;refine sC (fun _ d a _ _ _ b _ _ _ c=>?_) ?_
   · have ah:_=_:=b 3 31 kR rfl;replace a:(VB B) j d:=bD a;have g:=(m.out.trans a).1.bk q.out dC dC;have r:=g.cell 0;have s:=g.cell 1;go_simp;exact c _ _ vR rfl
   refine sC (fun _ d a _ _ _ b _ _ _ c=>?_) ?_
   · have ai:_=_:=b 4 32 kR rfl;replace a:(VB B) j d:=bD a;have g:=(m.out.trans a).1.bk q.out dC dC;have r:=g.cell 0;have s:=g.cell 1;go_simp;exact c _ _ vR rfl
   refine sC (fun _ d a _ _ _ b _ _ _ c=>?_) ?_
   · have aj:_=_:=b 5 33 kR rfl;replace a:(VB B) j d:=bD a;have g:=(m.out.trans a).1.bk q.out dC dC;have r:=g.cell 0;have s:=g.cell 1;go_simp;exact c _ _ vR rfl
   refine pH 1 (.int .i64 (l:Int)) ?_;refine pH 3 (.int .i64 (e:Int)) ?_;refine sC (fun _ d a _ _ _ b _ _ _ c=>?_) ?_
   · have ak:_=_:=b 6 34 kR rfl;have al:_=_:=b 7 35 kR rfl;have am:_=_:=b 8 36 kR rfl;replace a:(VB B) j d:=bD a;go_simp;refine (gY B t f l e d (S.out.vis (m.out.trans a).1) x.out (by rw [u.out];omega) O.out v.out).mono ?_;rintro n M ⟨rfl,J⟩;rw [a0.out];exact c _ _ J rfl
   refine sC (fun _ _ _ _ _ _ b _ _ _ c=>?_) ?_
   · have ag:_=_:=b 2 30 kR rfl;have an:_=_:=b 9 37 kR rfl;have G:IntKind.i64.wrap ((i:Int)+(o:Int))=((i+o:Nat):Int):=(by rw [IntKind.wrap_i64];omega);go_simp;exact c _ _ vR (by first | rfl | exact G | simp [is])
   refine pH 0 (.pointer (some gk)) ?_;refine pH 3 (.int .i64 (e:Int)) ?_;refine sC (fun _ d a _ _ _ b _ _ _ c=>?_) ?_
   · have ao:_=_:=b 11 39 kR rfl;have ap:_=_:=b 12 40 kR rfl;replace a:(VB B) j d:=bD a;go_simp;refine (iI B gk f e d (z.out.vis (m.out.trans a).1) x.out v.out).mono ?_;rintro n M ⟨rfl,H⟩;rw [R.out];exact c _ _ (VisK.of_below H) rfl
   refine pH 0 (.pointer (some gk)) ?_;refine sC (fun _ d a _ _ _ b _ _ _ c=>?_) ?_
   · have ar:_=_:=b 14 42 kR rfl;replace a:(VB B) j d:=bD a;have g:=(m.out.trans a).1.bk q.out dC dC;have r:=g.cell 0;have s:=g.cell 1;go_simp;exact c _ _ vR rfl
   refine sC (fun _ d a _ _ _ b _ _ _ c=>?_) ?_
   · have au:_=_:=b 15 43 kR rfl;replace a:(VB B) j d:=bD a;have g:=(m.out.trans a).1.bk q.out dC dC;have r:=g.cell 0;have s:=g.cell 1;go_simp;exact c _ _ vR rfl
   refine sC (fun _ d a _ _ _ b _ _ _ c=>?_) ?_
   · have av:_=_:=b 16 44 kR rfl;replace a:(VB B) j d:=bD a;have g:=(m.out.trans a).1.bk q.out dC dC;have r:=g.cell 0;have s:=g.cell 1;go_simp;exact c _ _ vR rfl
   refine pH 2 (.int .i64 (k:Int)) ?_;refine pH 3 (.int .i64 (e:Int)) ?_;refine sC (fun _ d a _ _ _ b _ _ _ c=>?_) ?_
   · have aw:_=_:=b 17 45 kR rfl;have ax:_=_:=b 18 46 kR rfl;have ay:_=_:=b 19 47 kR rfl;replace a:(VB B) j d:=bD a;go_simp;refine (gY B t f k e d (S.out.vis (m.out.trans a).1) x.out (by rw [u.out];omega) O.out v.out).mono ?_;rintro n M ⟨rfl,J⟩;rw [a1.out];exact c _ _ J rfl
   refine sC (fun _ _ _ _ _ _ b _ _ _ c=>?_) ?_
   · have aq:_=_:=b 13 41 kR rfl;have az:_=_:=b 20 48 kR rfl;have G:IntKind.i64.wrap ((i:Int)+(p:Int))=((i+p:Nat):Int):=(by rw [IntKind.wrap_i64];omega);go_simp;exact c _ _ vR (by first | rfl | exact G | simp [is])
   refine pV 10 38 ?_;refine pV 21 49 ?_;exact aD
 · intro T ac a b;replace a:(VB B) j ac:=bD a;have a2:T (.tmp 8)=.int .i64 ((i+o:Nat):Int):=b 22 8 rfl;have a3:T (.tmp 9)=.int .i64 ((i+p:Nat):Int):=b 23 9 rfl;simp only [zqq];rw [a2];rw [a3];clear b;go_wp2_with fail;go_ret2;exact ⟨rfl,m.out.trans a⟩
end
end Go.Proofs.YthldmddkfbijhaaGreatDoor
