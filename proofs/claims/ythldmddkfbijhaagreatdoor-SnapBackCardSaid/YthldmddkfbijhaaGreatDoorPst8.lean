/- Lemmas of the walk. Conditions: each its own. -/
import Derived.Test.YthldmddkfbijhaaGreatDoorPst5
import Derived.Test.YthldmddkfbijhaaGreatDoorPst6
import Derived.Test.YthldmddkfbijhaaGreatDoorProg
import Derived.Test.YthldmddkfbijhaaGreatDoorRows
import Derived.Test.YthldmddkfbijhaaGreatDoorSht
import Derived.Test.YthldmddkfbijhaaGreatDoorShl
set_option linter.all false
set_option maxRecDepth 100000
set_option maxHeartbeats 2000000
open Go.Proofs.Tryz
namespace Go.Proofs.YthldmddkfbijhaaGreatDoor
section
open Go.ChangeShapes Go.WideShapes Go.ChangeAt Go.RowKit
theorem kM:laidOutB prog=true:=by kernel_rfl
theorem own:ownKnob prog.godebug=none:=by kernel_rfl
theorem aJx {k:IntKind} {w:World} {d:Addr} {c f:Nat} {b:List Int} (v:c<=f) (x:b.length=f) (o:0 < c->d.block < w.heap.size)
 (g:∀e,e < b.length->w.cell? (d.add e)=some (.int k (b.getD e 0))):Rd w w.heap.size 1 (some d) c ((b.take c).map (Value.int k)):=by
 refine ⟨by simp;omega,fun q=>?_⟩;have p:=g 0 oM;obtain ⟨m,s,t⟩:=d;have r:t=none:=by simpa [Addr.add] using World.cell?_spot p
 subst r;refine ⟨m,s,rfl,o q,fun j y a=>?_⟩;simp only [zAf,zBs] at a;split at a
 · rename_i u
   have:=g j oM;rw [mL] at this;rw [this];have i:j < b.length:=oM;rw [zAa i] at a;simp only [Option.map_some,Option.some.injEq] at a;rw [<-a,zAb,zAa i];rfl
 · simp at a
theorem xR {i:Type} {r:TypeId×Value->i} {q f:TypeId} {g:IntKind} {w:World} {j:Option Addr} {e c:Nat} {d:DataW i} {p:List MemPlace}
 (y:prog.underlying q=some (.slice f)) (u:prog.underlying f=some (.int g)) (t:prog.cellsOf f=1)
 (s:DataW.Trod r prog w 0 (fun _=>true) true q (.slice j e c) d p):
 ∃b:List Int,Rd w w.heap.size 1 j e (b.map (Value.int g))/\(∀n∈b,(Lit.int g n).wf=true)/\e<=c/\c<=maxLen:=by
 obtain ⟨G,v⟩:=s;rcases open_ints y u t v with ⟨a,_⟩|⟨D,l,E,b,a,_,m,x,A,H,k,z⟩;simp [Value.cells] at a;obtain ⟨rfl,rfl,rfl⟩:=a;exact ⟨[],Rd.nil _ _ _ _,by simp,zAs _,zAp _⟩;simp [Value.cells] at a;obtain ⟨rfl,rfl,rfl⟩:=a;have C:b.length=c:=(by simpa using A);refine ⟨b.take e,aJx m C (fun o=>?_) k,fun n o=>z n (List.mem_of_mem_take o),m,x⟩;have:=World.block_lt_of_cell? w (D.add 0) (k 0 oM);simpa [Addr.add] using this
end
section
open Go.RowKit
def jC:List (String×DataW Unit):= [("math/bits.deBruijn64tab",Rows.laid_math_bits_deBruijn64tab)]
theorem aK5:prog.globalNamed "math/bits.deBruijn64tab" =some 1:=by kernel_rfl
theorem aLa:(prog.globals[1]?).map (·.type)=some 279:=by kernel_rfl
theorem aC0 (b:Os) (a:Array Value):laidMetH prog jC ((World.doorLaid prog 14 b).forCall (fun _ _=>0) ⟨#[],a, []⟩).memory:=
 laidMetH_of_parts3 (fuel:=8) (laidMet_of_run' 8 kR kR) kR kR
theorem aFY:(Rows.laid_math_bits_deBruijn64tab:DataW Unit)=Lib.tabData .u8 (Lib.deBruijn64tab.map fun n:Nat=>(n:Int)):=rfl
theorem qT {b:World} (a:laidMetH prog jC b):TabW b:=by
 rw [MakeChecks.laidMetH_plain _ _ _ kR] at a;unfold jC at a;rw [aFY] at a;have d:=Lib.tabIs_of_head aK5 aLa underlying279 underlying5 kR kR a;intro c e;have:=d.cell aK5 c (by rw [zBc];exact e);rw [this,zAb,zAf,zAb];cases Lib.deBruijn64tab[c]? <;> rfl
theorem ix9 (a:Nat->Value) (b:Nat) (c:b < 9) (w:World):(Instr.index 152 (.agg #[a 0,a 1,a 2,a 3,a 4,a 5,a 6,a 7,a 8]) (.int .i64 (b:Int))).run prog w=.ok (a b) w:=by
 rcases b with _ | _ | _ | _ | _ | _ | _ | _ | _ | b
 all_goals first |(exfalso;omega)| kernel_rfl
theorem gT (B c:Nat) (f:List Nat) (g b:Nat) (w:World) (aF:WaveAt w B c f) (v:b < 257) (ah:g<=f.length) (I:∀q∈f,q < 257) (aI:f.length<=1000):
 Calls prog 161 #[c,(g:Int),(b:Int)] w fun s w'=>s=.returned (.int .i64 (((f.take g).count b:Nat):Int))/\VB B w w':=by
 have ad:=lH f g b ah I v;have ae:=aAH f g b;obtain ⟨af,i,al,o,aj⟩:=aF;have x:=o.set 10 (.int .i64 0);rw [cM] at x;have U:=VB.set_wave o af 0;obtain ⟨n,O⟩:=eqx f.length;rw [O] at o x ah aI;have bq:max (g:Int) 0=(g:Int):=oM;have br:min (g:Int) (n:Int)=(g:Int):=oM;have aE:=o.frozen 10;have aV:w.cell? ⟨c,10,none⟩=some (.int .i64 al):=(o.cell 10).trans (bI i n al).2.2.2.2.2.2.2.2.2.2;have bm:=o.lt;obtain ⟨aY,J⟩:=eqx (w.setCell ⟨c,10,none⟩ (.int .i64 0));rw [J] at x U;obtain ⟨E,a1,aw,an,ao,aW,aX,ap⟩:=hqq8 x U aj ad ae I O J;clear o aj x U ad ae I O J;go_enter func161,ntmps161;go_wp2_with fail;rw [ap.out];refine (eY b _ v).mono ?_;rintro s w1 ⟨rfl,K⟩;have k:=E.out.below K E.out.lt;have ak:=a1.out.below K;obtain ⟨a3,a4,a5,a6,a7,a8,a9,aa,ab,ac,aA⟩:=bI i (n:Int) 0;have b2:w1.cell? ⟨c,0,none⟩=some (i 0):=(k.cell 0).trans a3;have b3:w1.cell? ⟨c,1,none⟩=some (i 1):=(k.cell 1).trans a4;have b4:w1.cell? ⟨c,2,none⟩=some (i 2):=(k.cell 2).trans a5;have b5:w1.cell? ⟨c,3,none⟩=some (i 3):=(k.cell 3).trans a6;have b6:w1.cell? ⟨c,4,none⟩=some (i 4):=(k.cell 4).trans a7;have b7:w1.cell? ⟨c,5,none⟩=some (i 5):=(k.cell 5).trans a8;have b8:w1.cell? ⟨c,6,none⟩=some (i 6):=(k.cell 6).trans a9;have b9:w1.cell? ⟨c,7,none⟩=some (i 7):=(k.cell 7).trans aa;have ba:w1.cell? ⟨c,8,none⟩=some (i 8):=(k.cell 8).trans ab;have bb:w1.cell? ⟨c,9,none⟩=some (.int .i64 (n:Int)):=(k.cell 9).trans ac;obtain ⟨ar,G⟩:=hqq2 k ak;clear a3 a4 a5 a6 a7 a8 a9 aa ab ac aA k ak K E a1 aV aE;go_wp2_with fail;go_loopw [1,28] (fun q Y wr=>∃a:Nat,a<=9/\Y=.int .i64 a/\q=.int .i64 ((fN f g b a:Nat):Int)/\VB B w1 wr) (fun _ Y _=>9 -(intOf Y).toNat)
 case atStart=>exact ⟨0,by omega,rfl,by rw [an.out],VisK.refl _ _⟩
 case round=>
  obtain ⟨a,bn,rfl,rfl,T⟩:=hrel;by_cases A:a < 9
  · have aH:=ix9 i a A;obtain ⟨D,t,S⟩:=aw.out a A;obtain ⟨y,N⟩:=eqx (2 ^ a);obtain ⟨d,u⟩:=eqx (bC b a);have ai:d < y:=(by rw [<-N,<-u];exact lY b a v oM);rw [N] at t S;obtain ⟨r,a2,ag,bo,bl⟩:=World.ownsRow.form t oM;rw [ag] at aH t;obtain ⟨q,C⟩:=eqx (fN f g b a);obtain ⟨Z,X⟩:=eqx (fN f g b (a+1));obtain ⟨H,M⟩:=eqx (fY b a);have W:=lI f g b a A;have V:=aFQ f g b a;rw [u,C,M,X] at W;rw [u,C] at V;rw [C];have bp:(d:Int) < (y:Int):=oM;obtain ⟨ay,ax,au,a0,av,aq,az,z⟩:=hqq8 W V t (S d ai) u M X T;clear t S ag N u C X M W V T;go_wp2_with fail;refine wp_region_any kR ?_;refine aQ [32,33,34,35,36,37,38,39,40,41,42,43,1] (VB B) (Vs [is c,is (.slice (some ⟨r,0,none⟩) y a2),is (b:Int),is (a:Int),is (d:Int),is (.pointer (some ⟨r,d*3,none⟩)),is (.agg #[.pointer (some ⟨D d,0,none⟩),(a:Int),(d:Int)]),is (q:Int),is (b:Int),is (a:Int),is (.bool H),is (Z:Int),is (Z:Int)]) _ _ rfl kR vR (fun _ _=>VisK.trans) (cV tA1) ?_ ?_
    · refine aO ?_;refine pH 0 (.pointer (some ⟨c,0,none⟩)) ?_;refine pH 8 (.slice (some ⟨r,0,none⟩) y a2) ?_;refine pH 2 (.int .i64 (b:Int)) ?_;refine pH 7 (.int .i64 (a:Int)) ?_;refine sC (fun _ m _ _ _ _ e _ _ _ p=>?_) ?_
      · have bd:_=_:=e 2 34 kR rfl;have be:_=_:=e 3 35 kR rfl;go_simp;refine (kS b a m v oM).mono ?_;rintro s am ⟨rfl,L⟩;rw [av.out];exact p _ _ (VisK.of_below L) rfl
      refine pW 1 33 4 36 ?_;refine sC (fun _ m j _ _ _ e _ _ _ p=>?_) ?_
      · have bf:_=_:=e 5 37 kR rfl;replace j:(VB B) wr m:=bD j;have R:=(G.out.trans (z.out.trans j)).1.own au.out dC dC;obtain ⟨aP,aR,aS⟩:=fF D a y d ai;have aZ:m.cell? ⟨r,d*3,none⟩=_:=(World.ownsRow.cellAt R (d*3) oM).trans aP;have b0:m.cell? ⟨r,d*3+1,none⟩=_:=(World.ownsRow.cellAt R (d*3+1) oM).trans aR;have b1:m.cell? ⟨r,d*3+2,none⟩=_:=(World.ownsRow.cellAt R (d*3+2) oM).trans aS;go_simp;exact p _ _ vR rfl
      refine pH 1 (.int .i64 (q:Int)) ?_;refine pH 2 (.int .i64 (b:Int)) ?_;refine pH 7 (.int .i64 (a:Int)) ?_;refine sC (fun _ m _ _ _ _ e _ _ _ p=>?_) ?_
      · have bi:_=_:=e 8 40 kR rfl;have bj:_=_:=e 9 41 kR rfl;go_simp;refine (mO b a m v A).mono ?_;rintro s am ⟨rfl,L⟩;rw [aq.out];exact p _ _ (VisK.of_below L) rfl
      refine sC (fun _ m j _ _ _ e _ _ _ p=>?_) ?_
      · have bc:_=_:=e 0 32 kR rfl;have bg:_=_:=e 6 38 kR rfl;have bh:_=_:=e 7 39 kR rfl;have bk:_=_:=e 10 42 kR rfl;replace j:(VB B) wr m:=bD j;go_simp;obtain ⟨aT,aN⟩:=(z.out.trans j).1.waveC ar.out;have aJ:=a0.out.2.vis (G.out.trans (z.out.trans j)).1;refine (mN c (D d) i n aT a d (aK f a d) q H m aN aJ ax.out).mono ?_;rintro s am ⟨rfl,aM⟩;rw [ay.out];exact p _ _ (aM.mono fun H o=>by rcases o with rfl | rfl;exact af;exact a0.out.1) rfl
      refine pV 11 43 ?_;exact aD
    · intro aC aU j e;replace j:(VB B) wr aU:=bD j;have aB:aC (.tmp 1)=.int .i64 (Z:Int):=e 12 1 rfl;simp only [zqq];rw [aB];clear e;have aL:=z.out.trans j;go_wp2_with fail;go_roundw
      case rel=>exact ⟨a+1,by omega,by go_num,by rw [az.out],aL⟩
      case measure=>simp [intOf];omega
  · have aG:a=9:=oM;subst aG;rw [ao.out];go_wp2_with fail;go_ret;exact ⟨rfl,G.out.trans T⟩
theorem aEV:(prog.info? 175).map (fun a=>(a.zero,a.size,a.bytes))=some (some (.slice none 0 0),1,24):=by kernel_rfl
theorem aD8:(prog.info? 157).map (fun a=>(a.zero,a.size,a.bytes))=some (some (.agg #[.pointer none,.int .i64 0,.int .i64 0]),3,24):=by kernel_rfl
theorem aHN (n:Nat) (g:n<=1000000) (w:World):(Instr.makeSlice 249 (.int .i64 (n:Int)) (.int .i64 (n:Int))).run prog w=.ok (.slice (some ⟨w.heap.size,0,none⟩) n n) (w.alloc (.cells (rowC (fun _=>.slice none 0 0) n) 175)):=by
 obtain ⟨f,b,c,d,e⟩:=info_parts aEV;have:=run_make (P:=prog) w 249 175 f (.slice none 0 0) underlying249 b c .i64 .i64 n n oM (Int.le_refl _) (by rw [e];omega) oM;rw [this,d,aEe];have a:madeCells #[.slice none 0 0] n=Array.replicate n (.slice none 0 0):=by apply Array.ext';rw [toList_madeCells_one];simp
 simp only [Value.cells,zBr,zBl];rw [a]
end
section
open Go.RowKit Go
section
variable {P : Program} {ops : Array Oper} {Q : Exit -> Act -> World -> Prop} {md : Region.Mode}
theorem tR (n:Nat) (u:List Nat) (d:World->Prop) (j:Nat->World->World->Prop) (k:Nat->World->Prop) (e:Nat->Value->World->Prop) (f:Act)
 (p:World) (L:(ops.toList.take n).filterMap (·.dst)=u) (z:n<=ops.size) (R:gZ md ops f.tmps.size=true) (Y:((List.range ops.size).all fun r=>decide (r < n)||(List.range n).all fun a=>upB md ops ops.size r a)=true) (G:d p) (J:∀a,k a p) (E:∀b w w',b < n->d w->j b w w'->d w')
 (I:∀a b w w',b < n->a≠b->upB md ops ops.size b a=false->k a w->d w->j b w w'->k a w')
 (U:∀a b c w w',b < n->a≠b->uN md ops a b=false->e a c w->d w->j b w w'->e a c w')
 (V:∀b s,b < n->ops[b]?=some s->cY P ops Q md d j k e f b s)
 (M:∀(y:Operand->Value) w v,d w->(∀a m,a < n->((ops[a]?).bind (·.dst))=some m->e a (y (.tmp m)) w)->(∀a,a < n->∃c,e a c w)->wpAny P md ops Q (ops.size - n+v) (bX n ops.size) (dI y u f) w):
 wpAny P md ops Q ops.size (Array.replicate ops.size false) f p:=by
 refine vO n d j k e f p z R Y G J E I (fun a b c w w' g o D _=>U a b c w w' g o D) V fun t w v H W K S A=>?_;have g:=M t.eval w v H (fun a m q i=>by
  cases x:ops[a]? with
  | none=>rw [x] at i;cases i
  | some s=>
    rw [x] at i;obtain ⟨c,g,o⟩:=A a s q x;have:=g m i;change e a (t.tmps.getD m undef) w;rw [this];exact o) (fun a q=>by
  obtain ⟨c,_,o⟩:=A a _ q (zAq (zAl q z));exact ⟨c,o⟩)
 rw [<-nV t f u W K fun Z X=>S Z fun r C N T i=>X ?_] at g;exact g;rw [<-L];refine List.mem_filterMap.2 ⟨C,?_,i⟩;have O:(ops.toList.take n)[r]?=some C:=(by rw [zBs,zBx N,Array.getElem?_toList];exact T);exact zAd O
end
def VFB (B:Nat) (F:Nat->Prop) (w w':World):Prop:=VisF F w w'/\Keep (fun a=>F a∨B<=a) w w'
theorem fD {B:Nat} {F:Nat->Prop} {w w':World} (a:VFB B F w.drew w'):VFB B F w w':=⟨⟨a.1.os,a.1.tape,a.1.output,a.1.size,a.1.block⟩,⟨a.2.os,a.2.tape,a.2.output,a.2.size,a.2.block⟩⟩
section
variable {B : Nat} {F : Nat -> Prop} {w w1 w' : World}
theorem VFB.of_vb (a:VB B w w'):VFB B F w w':=⟨VisF.of_vis a.1,a.2.mono fun _ _ b=>.inr b⟩
theorem VFB.trans (a:VFB B F w w1) (b:VFB B F w1 w'):VFB B F w w':=⟨a.1.trans b.1,a.2.trans b.2⟩
theorem VFB.put (b:VFB B F w w1) {p:Addr} (c:F p.block∨w.heap.size<=p.block) (a:Value):VFB B F w (w1.setCell p a):=⟨VisF.put b.1 c a,b.2.setCell (c.elim (fun d=>.inl (.inl d)) .inr) a⟩
theorem VFB.to_vb (c:VFB B F w w') (d:∀a,a < w.heap.size->¬F a):VB B w w':=⟨c.1.to_vis d,c.2.mono fun a e b=>b.elim (fun b=>absurd b (d a e)) id⟩
end
def aDf (B:Nat) (F:Nat->Prop) (a b:Nat) (w w':World):Prop:=(b=a->VFB B F w w')/\(b≠a->VB B w w')
theorem aAm {B:Nat} {F:Nat->Prop} {a d:Nat} {w w':World} (b:aDf B F a d w w'):VFB B F w w':=by
 by_cases c:d=a;exact b.1 c;exact VFB.of_vb (b.2 c)
theorem aH {B:Nat} {F:Nat->Prop} {b c:Nat} {w w':World} (a:VB B w w'):aDf B F b c w w':=⟨fun _=>VFB.of_vb a,fun _=>a⟩
theorem jQ {B:Nat} {F:Nat->Prop} {a:Nat} {w w':World} (c:VFB B F w w'):aDf B F a a w w':=⟨fun _=>c,fun b=>absurd rfl b⟩
theorem cA {P:Program} {ops:Array Oper} {Q:Exit->Act->World->Prop} {md:Region.Mode} (B n:Nat) (p:List Nat) (F:Nat->Prop) (b:Nat) (r:List Nat) (m:World->Prop) (k:Value->World->Prop) (l:List (Value->World->Prop)) (g:Act) (d:World)
 (E:(ops.toList.take n).filterMap (·.dst)=p) (I:n<=ops.size) (H:gZ md ops g.tmps.size=true) (O:((List.range ops.size).all fun c=>decide (c < n)||(List.range n).all fun a=>upB md ops ops.size c a)=true)
 (L:(r.all fun a=>a==b||upB md ops ops.size b a)=true)
 (K:m d) (J:∀w w',m w->VFB B F d w->VB B w w'->m w') (D:aGZ (VB B) k) (M:∀S∈l,aGZ (VFB B F) S)
 (N:∀e y,e < n->ops[e]?=some y->cY P ops Q md (VFB B F d) (aDf B F b) (fun a w=>r.contains a=true->m w) (VsJ b k l) g e y)
 (G:∀(t:Operand->Value) w f,VFB B F d w->(∀a s,a < n->((ops[a]?).bind (·.dst))=some s->VsJ b k l a (t (.tmp s)) w)->(∀a,a < n->∃o,VsJ b k l a o w)->wpAny P md ops Q (ops.size - n+f) (bX n ops.size) (dI t p g) w):
 wpAny P md ops Q ops.size (Array.replicate ops.size false) g d:=by
 refine tR n p (VFB B F d) (aDf B F b) (fun a w=>r.contains a=true->m w) (VsJ b k l) g d E I H O (VFB.of_vb vR) (fun _ _=>K) (fun e w w' _ A c=>A.trans (aAm c)) (fun a e w w' _ q R i C c v=>?_) (fun a e o w w' _ q _ j _ c=>?_) N G;by_cases x:e=b;exfalso;subst x;have u:=zBf.1 L a (by simpa using v);simp only [R,Bool.or_false,zCq] at u;exact q u;exact J w w' (i v) C (c.2 x);unfold VsJ at j⊢;by_cases i:a=b;rw [zBx i] at j⊢;exact D o w w' j (c.2 fun z=>q (i.trans z.symm));rw [zBw i] at j⊢;exact cV M a o w w' j (aAm c)
end
section
open Go.RowKit
theorem tS {a b:List Nat} (c:a.Perm b):tcells a=tcells b:=by
 refine pX _ _ (eL a) (fun e d=>?_) ?_
 · rw [dR a d,c.count_eq]
 · rw [iC,c.length_eq]
theorem aDZ (b d:List Nat) (a:Nat) (k:a < 257) (e:b.Perm (a::d)):((tcells b).setIfInBounds a (.int .i64 (((b.count a - 1:Nat)):Int))).setIfInBounds 257 (.int .i64 ((b.length - 1:Nat):Int))=tcells d:=by
 have f:=e.count_eq;have g:=e.length_eq;rw [zCg] at g;apply pX
 · simp [eL]
 · intro i j;rw [zCe oM];by_cases c:a=i
   · subst c;rw [Array.getElem?_setIfInBounds_self_of_lt (by rw [eL];omega),f a];simp
   · rw [zCe c,dR b j,f i,List.count_cons_of_ne c]
 rw [Array.getElem?_setIfInBounds_self_of_lt (by simp [eL]),g];rfl
theorem aBH (b:Nat) (c x:List Nat) (a:Nat) (w:World) (y:c.Perm (a::x)) (f:Bk w b 199 (tcells c)) (q:a < 257) (J:c.length<=1000):
 Calls prog 117 #[b,(a:Int),.int .i64 (-1)] w fun H w'=>H=.returned (.int .i64 0)/\Bk w' b 199 (tcells x)/\Keep (fun g=>g=b) w w':=by
 have u:=lhd f;clear f;have a8:¬((a:Int) < 0):=oM;have a9:((a:Int) < 257):=oM;obtain ⟨d,o⟩:=eqx (c.count a);obtain ⟨n,k⟩:=eqx c.length;have ad:d<=1000:=by rw [<-o];exact zAk zBv J
 rw [k] at J;have ac:1<=d:=by rw [<-o,y.count_eq];simp
 have ab:1<=n:=by rw [<-k,y.length_eq];simp
 have A:=aDZ c x a q y;rw [o,k] at A;obtain ⟨K,v,G⟩:=hqq3 A o k;clear A o k;go_enter func117,ntmps117;go_wp2_with fail;refine (eY a _ q).mono ?_;rintro H w1 ⟨rfl,C⟩;have t:=u.out.below C u.out.lt;have U:w1.cell? ⟨b,a,none⟩=some (.int .i64 (d:Int)):=by rw [<-v.out];exact (t.cell a).trans (dR c q)
 have V:w1.cell? ⟨b,257,none⟩=some (.int .i64 (n:Int)):=by rw [<-G.out];exact (t.cell 257).trans (iC c)
 have ae:¬((-1:Int) < -(d:Int)):=oM;have af:¬((-1:Int) > 2147483648 -(n:Int)):=oM;obtain ⟨L,N⟩:=hqq2 C t;clear C t u;go_wp2_with fail;refine wp_region_any kR ?_;refine bH [33,34,35,36,37,38,39,40,41,42,43] (fun g=>g=b) 11 [5,11] (fun i=>Bk i b 199 (tcells c)) (fun _ i=>Bk i b 199 ((tcells c).setIfInBounds a (.int .i64 ((d - 1:Nat):Int)))) [is b,is (a:Int),is b,is b,is (.pointer (some ⟨b,a,none⟩)),is (d:Int),is (.int .i64 (-1)),is (.int .i64 ((d - 1:Nat):Int)),is b,is b,is (.pointer (some ⟨b,a,none⟩)),cX] _ _ rfl kR kR (N.out) (fun i ah f _ R=>Bk.below f R f.lt) (fun _ _ _ f S=>Bk.below f S f.lt) tA0 ?_ ?_
 · refine aO ?_;refine pH3 0 (.pointer (some ⟨b,0,none⟩)) ?_;refine pH3 1 (.int .i64 (a:Int)) ?_;refine pV3 0 33 ?_;refine pV3 2 35 ?_;refine pW3 3 36 1 34 ?_;refine sC3 (fun _ D _ z _ _ _ e _ _ _ j=>?_) ?_
   · have m:=z rfl;have Z:_=_:=e 4 37 kR rfl;have X:D.cell? ⟨b,a,none⟩=some (.int .i64 (d:Int)):=(by rw [<-v.out];exact (m.cell a).trans (dR c q));go_simp;exact kq j rfl
   refine pH3 2 (.int .i64 (-1)) ?_;refine sC3 (fun _ _ _ _ _ _ _ e _ _ _ j=>?_) ?_
   · have a0:_=_:=e 5 38 kR rfl;have a1:_=_:=e 6 39 kR rfl;go_simp;exact j _ _ (aJ bR) (dD (by rw [IntKind.wrap_i64];omega))
   refine pV3 0 33 ?_;refine pV3 8 41 ?_;refine pW3 9 42 1 34 ?_;refine sC3 (fun _ D _ z _ _ _ e _ _ _ j=>?_) ?_
   · have m:=z rfl;have a3:_=_:=e 10 43 kR rfl;have a2:_=_:=e 7 40 kR rfl;have Y:D.cell? ⟨b,a,none⟩=some (.int .i64 (d:Int)):=(by rw [<-v.out];exact (m.cell a).trans (dR c q));have a7:=m.frozen a;go_simp;exact j (.bool true) _ (aV (Keep.setCell (F:=fun g=>g=b) (Keep.refl _ _) (p:=⟨b,a,none⟩) (.inl rfl) _)) (m.set a _)
   exact aD
 · intro a5 E s e I;replace s:Keep (fun g=>g=b) w1 E:=kD s;obtain ⟨ag,r⟩:∃T,(fun _ i=>Bk i b 199 ((tcells c).setIfInBounds a (.int .i64 ((d - 1:Nat):Int)))) T E:=I 11 dC;simp only [zqq];clear e I;have W:E.cell? ⟨b,257,none⟩=some (.int .i64 (n:Int)):=(by refine (r.cell 257).trans ?_;rw [zCe oM,<-G.out];exact iC c);have a6:=r.frozen 257;have a4:(n:Int)+-1=((n - 1:Nat):Int):=oM;obtain ⟨O,M⟩:=hqq2 r s;have aa:=r.lt;clear r s;go_wp2_with fail;go_ret;refine ⟨rfl,?_,?_⟩;rw [<-K.out];exact O.out.set 257 _;exact ((Keep.of_below L.out).trans M.out).setCell (.inl rfl) _
@[irreducible] def cntL (c:List Nat):List Value:=(List.range 257).map fun a=>.int .i64 ((c.count a:Nat):Int)
theorem aBv (b:List Nat) {a:Nat} (c:a < 257):(cntL b)[a]?=some (.int .i64 ((b.count a:Nat):Int)):=by
 unfold cntL;rw [zAf,zCk c];rfl
theorem aC1 (a:List Nat):(cntL a).length=257:=by unfold cntL;simp
theorem aIs {w:World} {b:Nat} {a:List Nat} (f:Bk w b 199 (tcells a)):(loadCells ⟨b,0,none⟩ 257).run prog w=.ok (cntL a).toArray w:=by
 have:=run_loadCells_list (P:=prog) w ⟨b,0,none⟩ (cntL a) (fun c i e=>by
  have g:(⟨b,0,none⟩:Addr).add c=⟨b,c,none⟩:=by unfold Addr.add;split <;> simp_all
  have d:c < 257:=by rw [<-aC1 a];exact (zAc.1 e).1
  rw [g,f.cell c,dR a d,<-aBv a d,e])
 rw [aC1] at this;exact this
theorem zB {g:Oper} {b:Act} {w:World} {i:Act->World->Prop} {Q:Exit->Act->World->Prop} (a:TypeId) (k:Operand) (q:g.op=.load a k)
 (c:Addr) (u:b.eval k=.pointer (some c)) (d:Array Value) (n:Nat) (e:TypeDesc)
 (s:prog.underlying a=some e) (x:(match e with | .struct _ | .array _ _=>true | _=>false)=true) (j:(prog.info? a).map (·.size)=some n)
 (p:(loadCells c n).run prog w=.ok d w) (m:i (b.put g.dst (.agg d)) w):g.wp prog b w i Q:=by
 have t:(loadVar a c).run prog w=.ok (.agg d) w:=by
  cases f:prog.info? a with
  | none=>simp [f] at j
  | some v=>
    have r:v.size=n:=(by simpa [f] using j);have o:(isAgg a).run prog w=.ok true w:=(by unfold isAgg;rw [Sem.run_bind,run_underlying s w];cases e <;> simp_all);simp [loadVar,Sem.run_bind,o,sizeOf,typeInfo,f,r,p]
 unfold Oper.wp execOp;simp only [q,u,Instr.loadAt,Instr.sureAddr,Sem.run_bind,Sem.run_pure,Result.andThen_ok,t];exact m
theorem aKF (b:List Nat) (a:Nat) (c:a < 257) (w:World):(Instr.index 148 (.agg (cntL b).toArray) (.int .i64 (a:Int))).run prog w=.ok (.int .i64 ((b.count a:Nat):Int)) w:=by
 have j:(cntL b).toArray[a]?=some (.int .i64 ((b.count a:Nat):Int)):=by rw [zCw];exact aBv b c
 have d:(0:Int)<=(a:Int)/\(a:Int) < ((257:Nat):Int):=oM;have g:=underlying148;have i:=underlying3;have f:=aBv b c;have e:(isAgg 3).run prog w=.ok false w:=by unfold isAgg;rw [Sem.run_bind,run_underlying i w];rfl
 simp [Instr.index,asIntOf,Sem.run_bind,run_underlying g w,d,Tryz.sizeOf3,c,part,e,f]
theorem yE (y:Nat) (b:List Nat) (c d:Nat) (w:World) (o:Bk w y 199 (tcells b)) (a3:d < 257) (j:b.countP (fun a=>decide (a < d))<=c) (g:c < b.countP (fun a=>decide (a < d))+b.count d) (a2:b.length<=1000):
 Calls prog 180 #[y,(c:Int)] w fun O w'=>O=.returned (.int .i64 (d:Int))/\Below w.heap.size w w':=by
 have I:=aIs o;have Y:=lhd o;clear o;have a0:decide ((c:Int) < 0)=false:=by simp
 go_enter func180,ntmps180;go_wp2_with fail;refine zB 148 (.tmp 15) rfl ⟨y,0,none⟩ rfl (cntL b).toArray 257 _ underlying148 rfl kR I ?_;have z:=fun a=>uA b a;have H:∀a,a < d->b.countP (fun e=>decide (e < a))+b.count a<=b.countP (fun e=>decide (e < d)):=fun a W=>by rw [<-z a];exact List.countP_mono_left fun e _ o=>by simp at o⊢;omega
 obtain ⟨E,L,K,D⟩:=hqq4 z H j g;clear z H j g I;have a1:c<=1000:=by
  have g:=D.out;have p:b.countP (fun a=>decide (a < d))+b.count d<=b.length:=by rw [<-E.out d];exact zBh
  omega
 simp only [Act.put,List.setIfInBounds_toArray,List.set_cons_zero,List.set_cons_succ];go_wp2_with fail;go_loopw [1,17] (fun i C wr=>∃a:Nat,a<=d/\C=.int .i64 (a:Int)/\i=.int .i64 ((c - b.countP (fun e=>decide (e < a)):Nat):Int)/\wr=w) (fun _ C _=>257 -(intOf C).toNat)
 case atStart=>exact ⟨0,by omega,rfl,by simp,rfl⟩
 case round=>
  obtain ⟨a,W,rfl,rfl,rfl⟩:=hrel;have V:=aKF b a oM;have j:=K.out;have g:=D.out;have p:=E.out a;have k:=L.out a;obtain ⟨f,u⟩:∃f,b.countP (fun e=>decide (e < d))=f:=⟨_,rfl⟩;obtain ⟨i,m⟩:∃f,b.countP (fun e=>decide (e < a))=f:=⟨_,rfl⟩;obtain ⟨J,v⟩:∃f,b.countP (fun e=>decide (e < a+1))=f:=⟨_,rfl⟩;obtain ⟨s,q⟩:=eqx (b.count a);rw [u] at j g k;rw [m] at p k;rw [v,q] at p;rw [q] at k V;by_cases X:a < d
  · have U:=k X;have t:¬c - i < s:=oM;have R:decide (c - i < s)=false:=zBy t;have G:IntKind.i64.wrap (((c - i:Nat):Int) -(s:Int))=((c - J:Nat):Int):=(by rw [IntKind.wrap_i64];omega);have S:a < 257:=oM;have T:(a:Int) < 257:=oM;rw [m];obtain ⟨x,r⟩:=eqx (c - i);obtain ⟨Z,A⟩:∃x,c - J=x:=⟨_,rfl⟩;rw [r] at t R G⊢;rw [A] at G;obtain ⟨M,N⟩:=hqq2 A v;clear j g p k U u m v q r A;go_wp2_with fail;go_roundw
    case rel=>exact ⟨a+1,by omega,by go_num,by rw [N.out,M.out],by first | rfl | trivial⟩
    case measure=>simp [intOf];omega
  · obtain rfl:a=d:=oM;rw [m];obtain rfl:f=i:=(by rw [<-u,<-m]);rw [q] at g;have t:c - f < s:=oM;have S:a < 257:=oM;have T:(a:Int) < 257:=oM;obtain ⟨x,r⟩:=eqx (c - f);rw [r] at t⊢;clear j g p k u m v q r;go_wp2_with fail;go_ret;exact ⟨rfl,Below.refl _ _⟩
def kC (c:IntKind) (n:Nat) (a:Nat->Nat):Array Value:=((List.range n).map fun b=>Value.int c ((a b:Nat):Int)).toArray
theorem lJ (b:IntKind) (n:Nat) (a:Nat->Nat):(kC b n a).size=n:=by simp [kC]
theorem fS {c:IntKind} {n:Nat} {b:Nat->Nat} {a:Nat} (d:a < n):(kC c n b)[a]?=some (.int c ((b a:Nat):Int)):=by
 unfold kC;rw [zCw,zAf,zCk d];rfl
theorem tM {c:IntKind} {n:Nat} {b:Nat->Nat} {a:Nat} (d:¬a < n):(kC c n b)[a]?=none:=Array.getElem?_eq_none (by rw [lJ];omega)
theorem dE {d:IntKind} {n:Nat} {b c:Nat->Nat} (e:∀a,a < n->b a=c a):kC d n b=kC d n c:=by
 unfold kC;congr 1;exact List.map_congr_left fun a f=>by rw [e a (zCj.1 f)]
theorem lK {e:IntKind} {n:Nat} {f:Nat->Nat} {d i:Nat} (g:d < n):(kC e n f).setIfInBounds d (.int e ((i:Nat):Int))=kC e n (fun c=>if c=d then i else f c):=by
 apply Array.ext_getElem?;intro c;rw [zCd,lJ];by_cases b:c < n
 · rw [fS b,fS b];by_cases a:d=c
   · subst a;rw [zBx rfl,zBx b,zBx rfl]
   · rw [zBw a,zBw (fun g=>a g.symm)]
 · rw [tM b,tM b];by_cases a:d=c
   · subst a;rw [zBx rfl,zBw b]
   · rw [zBw a]
theorem pA (b:IntKind) (n:Nat):Array.replicate n (Value.int b 0)=kC b n (fun _=>0):=by
 apply Array.ext_getElem?;intro c;by_cases a:c < n;rw [fS a,Array.getElem?_replicate,zBx a];rfl
 · rw [tM a,Array.getElem?_replicate,zBw a]
theorem aGV (b:IntKind) (n:Nat) (a:Nat->Nat):(kC b n a).toList=(List.range n).map fun c=>Value.int b ((a c:Nat):Int):=rfl
def nv (a:Nat):Value:=iv (a:Int)
end
section
open Go.RowKit Go.Shelf
attribute [local go_sem] Oper.semAt_some
section
variable {P : Program} {ops : Array Oper} {md : Region.Mode} {Q : Exit -> Act -> World -> Prop} {l n : Nat}
end
def KpB (b1 b2:Nat) (b c:World):Prop:=∀a:Addr,(a.block=b1∨a.block=b2)->c.cell? a=b.cell? a
theorem KpB.trans {b1 b2:Nat} {a B b:World} (e:KpB b1 b2 a B) (f:KpB b1 b2 B b):KpB b1 b2 a b:=fun d c=>(f d c).trans (e d c)
end
section
open Go.RowKit
theorem pB (d:List UInt8) {c:Nat} {a:UInt8} (b:d[c]?=some a):aN (aF d) c=((a.toNat+1:Nat):Int):=by
 have e:=(zAc.1 b).1;refine kP ?_;unfold aF dF;rw [zAn (by simpa using e),zAf,b];rfl
theorem aI0 (a:List UInt8):aN (aF a) a.length=0:=by
 refine kP (x:=0) ?_;unfold aF dF;rw [zAo (by simp)];simp
structure Shp where
 len:Int
 height:Int
 leaves:Int
 nodes:Int
def Shp.cells (a:Shp):List Value:= [iv a.len,iv a.height,iv a.leaves,iv a.nodes]
def Shp.val (a:Shp):Value:=.agg #[iv a.len,iv a.height,iv a.leaves,iv a.nodes]
def cE (l:List Shp):List Value:=l.flatMap Shp.cells
def Shp.zero:Shp:=⟨0,0,0,0⟩
def Shp.add (a b:Shp):Shp:=⟨a.len+b.len,max a.height b.height,a.leaves+b.leaves,a.nodes+b.nodes⟩
theorem dS (l:List Shp) (a c:Nat) (d:Shp) (b:l[a]?=some d) (g:c < 4):(cE l)[a*4+c]?=d.cells[c]?:=by
 induction l generalizing a with
 | nil=>simp at b
 | cons f l e=>
   rcases a with _ | a
   · simp at b;subst b;simp only [cE,List.flatMap_cons,Nat.zero_mul,zBi];rw [zAn (by simp [Shp.cells];omega)]
   simp only [zCf] at b;have:=e a b;simp only [cE,List.flatMap_cons] at this⊢;rw [zAo (by simp [Shp.cells];omega)];rw [<-this];congr 1;simp [Shp.cells];omega
theorem qZ (l:List Shp):(cE l).length=l.length*4:=by
 induction l with
 | nil=>rfl
 | cons a l d=>
   have c:a.cells.length=4:=rfl;have b:cE (a::l)=a.cells++cE l:=(by simp [cE]);rw [b,zAi,d,c,zCg];omega
def shO (a:List Bool):Shp:=⟨(a.length:Int),0,1,1⟩
def shL (a:List Nat) (b:Nat):Nat->List Shp
 | 0=> []
 | p+1=>shL a b p++if aK a b p= [] then [] else [shO (aK a b p)]
def shA (a:List Nat):Nat->List Shp
 | 0=> []
 | lv+1=>shA a lv++shL a lv (2 ^ lv)
theorem aJq {d:List Nat} {e b:Nat} {g:Shp} (a:g∈shL d e b):∃c,c < b/\aK d e c≠ []/\g=shO (aK d e c):=by
 induction b with
 | zero=>cases a
 | succ b j=>
   unfold shL at a;rcases zCp.1 a with a | a;obtain ⟨c,k,i⟩:=j a;exact ⟨c,by omega,i⟩
   · by_cases f:aK d e b= []
     · rw [zBx f] at a;cases a
     rw [zBw f] at a;exact ⟨b,by omega,f,List.mem_singleton.1 a⟩
theorem aJr {e:List Nat} {d:Nat} {i:Shp} (a:i∈shA e d):∃c b,c < d/\b < 2 ^ c/\aK e c b≠ []/\i=shO (aK e c b):=by
 induction d with
 | zero=>cases a
 | succ d j=>
   unfold shA at a;rcases zCp.1 a with a | a;obtain ⟨c,b,g,f⟩:=j a;exact ⟨c,b,by omega,f⟩;obtain ⟨b,g,f⟩:=aJq a;exact ⟨d,b,by omega,g,f⟩
theorem aA1 (b:List Nat) (c a:Nat):(shL b c a).length<=a:=by
 induction a with
 | zero=>exact zAs _
 | succ a d=>
   unfold shL;rw [zAi];split;simp;omega;simp;omega
theorem aJs (b:List Nat):(shA b 9).length<=511:=by
 have a:=fun c=>aA1 b c (2 ^ c);have:=a 0;have:=a 1;have:=a 2;have:=a 3;have:=a 4;have:=a 5;have:=a 6;have:=a 7;have:=a 8;simp only [shA,zAi,List.length_nil];omega
theorem aJ1 (a:List Nat) (b c:Nat):(aK a b c).length<=a.length:=by
 rw [iW];exact zBh
theorem aGS (b:List Nat) (c:∀a∈b,a < 257):(aK b 0 0).length=b.length:=by
 rw [iW,List.countP_eq_length];intro a d;have e:=c a d;have:bC a 0=0:=by unfold bC;omega
 rw [this];rfl
theorem aHF (a:List Nat) (j:∀p∈a,p < 257) (f:a≠ []):∃c,shA a 9=⟨(a.length:Int),0,1,1⟩::c:=by
 have d:=aGS a j;have m:aK a 0 0≠ []:=fun e=>by rw [e] at d;exact f (zCx.1 d.symm)
 have g:shA a 1= [⟨(a.length:Int),0,1,1⟩]:=by show []++shL a 0 1=_;show []++([]++if aK a 0 0= [] then [] else [shO (aK a 0 0)])=_;rw [zBw m];unfold shO;rw [d];rfl
 have i:∀b,∃c,shA a (1+b)=⟨(a.length:Int),0,1,1⟩::c:=fun b=>by
  induction b with
  | zero=>exact ⟨[],g⟩
  | succ b o=>
    obtain ⟨c,k⟩:=o;refine ⟨c++shL a (1+b) (2 ^(1+b)),?_⟩;show shA a (1+b)++_=_;rw [k];rfl
 exact i 8
theorem aAZ (a b:List Shp):cE (a++b)=cE a++cE b:=by simp [cE]
theorem aCF (w:World):Calls prog 176 #[.int .i64 0] w fun b w'=>b=.returned (.int .i64 1)/\w=w':=by
 go_enter func176,ntmps176;go_wp2;go_loopw [3,5] (fun c a wr=>a=.int .i64 0/\c=.int .i64 1/\wr=w) (fun _ a _=>1 -(intOf a).toNat)
 case atStart=>exact ⟨rfl,rfl,rfl⟩
 case round=>obtain ⟨rfl,rfl,rfl⟩:=hrel;go_wp2;go_ret;exact ⟨rfl,rfl⟩
theorem aEf (n:Int) (w:World) (b:0<=n) (c:n<=1099511627776):
 Calls prog 177 #[.int .i64 n] w fun a w'=>a=.returned (.int .i64 (n / 128*4+n % 128*4 / 128))/\w=w':=by
 go_enter func177,ntmps177;go_wp2;go_ret;exact ⟨rfl,rfl⟩
theorem aGn (n:Int) (w:World) (a:0 < n) (c:n<=1099511627776):
 Calls prog 128 #[.agg #[.int .i64 n,.int .i64 0,.int .i64 1,.int .i64 1]] w fun b w'=>b=.returned (.bool true)/\Below w.heap.size w w':=by
 have d:(n==0)=false:=by rw [zCb];omega
 have e:decide (n > 0)=true:=zBz a;have f:decide (0 < n)=true:=zBz a;have g:decide ((0:Int)<=n / 128*4+n % 128*4 / 128)=true:=zBz oM;go_enter func128,ntmps128;go_wp2_with fail
 go_quiet (first
  |(go_at_call 176;exact qA (aCF _))
  |(go_at_call 177;exact qA (aEf _ _ oM oM)))
 go_wp2;go_ret;exact ⟨rfl,below_drewN (bR.alloc nL _) _⟩
theorem aAI (y:Option Addr) (c S:Nat) (l:List Shp) (p:Int) (R:List Shp) (B:Nat) (w:World) (u:Rd w B 4 y c (cE l)) (U:B<=w.heap.size) (a3:c<=65536) (s:l=⟨p,0,1,1⟩::R)
 (K:∀b∈l,∃n:Int,0 < n/\n<=1099511627776/\b=⟨n,0,1,1⟩):
 Calls prog 71 #[.slice y c S,.int .i64 p] w fun G w'=>G=.returned (.bool true)/\Below w.heap.size w w':=by
 have t:l.length=c:=by have:=u.1;rw [qZ] at this;omega
 have J:0 < c:=by rw [<-t,s];simp
 obtain ⟨d,k,rfl,g,i⟩:=(u.mono U).2 J;have I:∀a b,l[a]?=some b->∀w',Below w.heap.size w w'->w'.cell? ⟨d,k+a*4,none⟩=some (.int .i64 b.len)/\w'.cell? ⟨d,k+a*4+1,none⟩=some (.int .i64 b.height)/\w'.cell? ⟨d,k+a*4+2,none⟩=some (.int .i64 b.leaves)/\w'.cell? ⟨d,k+a*4+3,none⟩=some (.int .i64 b.nodes):=fun a b j w' o=>
  ⟨(o.cell g).trans (i (a*4+0) _ ((dS l a 0 b j oM).trans rfl)),(o.cell g).trans (i (a*4+1) _ ((dS l a 1 b j oM).trans rfl)),(o.cell g).trans (i (a*4+2) _ ((dS l a 2 b j oM).trans rfl)),(o.cell g).trans (i (a*4+3) _ ((dS l a 3 b j oM).trans rfl))⟩
 obtain ⟨A,O,M,N⟩:=hqq4 I K s t;clear u i I K s t;go_enter func71,ntmps71;go_wp2_with fail;go_loopw [5] (fun x wr=>∃a:Nat,a<=c/\x=.int .i64 (a:Int)/\Below w.heap.size w wr) (fun x _=>c -(intOf x).toNat)
 case atStart=>exact ⟨0,zAp _,rfl,Below.refl _ _⟩
 case round=>
  obtain ⟨a,j,rfl,e⟩:=hrel;have a0:=e.size;by_cases X:a < c
  · obtain ⟨b,v⟩:∃b,l[a]?=some b:=⟨_,zAa (by rw [N.out];exact X)⟩;obtain ⟨f,C,D,E⟩:=A.out a b v wr e;obtain ⟨n,Y,Z,rfl⟩:=O.out b (zAd v);simp only at f C D E;have T:decide (n < 1)=false:=zBy oM;have H:∀q,Below wr.heap.size wr q->q.cell? ⟨d,k+a*4,none⟩=some (.int .i64 n):=fun q V=>(V.cell (by have:d < w.heap.size:=g;show d < wr.heap.size;omega)).trans f;obtain ⟨z,m⟩:=hqq2 H e;clear v H e;go_wp2_with fail;refine (aGn n wr Y Z).mono ?_;rintro G w1 ⟨rfl,r⟩;have a1:=z.out w1 r;have L:=lhd (m.out.trans (r.mono a0));clear r z m f C D E;go_wp2_with fail;go_roundw
    case rel=>exact ⟨a+1,by omega,by go_num,L.out⟩
    case measure=>simp [intOf];omega
  · have W:a=c:=oM;subst W;have f:=(A.out 0 ⟨p,0,1,1⟩ (by rw [M.out];rfl) wr e).1;simp only [Nat.zero_mul,zBq] at f;have T:decide ((a:Int) > 0)=true:=zBz oM;have a2:decide (0 < a)=true:=zBz J;have m:=lhd e;clear e;go_wp2_with fail;go_ret;exact ⟨by first | rfl | simp,m.out⟩
theorem aId {a b:Nat} (c:a≠b):((a:Int)==(b:Int))=false:=by rw [zCb];omega
theorem aHq {a b:List Nat} {c n:Nat} (e:a.length=n) (f:b.length=n) (d:a.take c=b.take c) (g:n<=c):a=b:=by
 rw [zAg oM,zAg oM] at d;exact d
theorem kI (C D:Option Addr) (b R f S K L:Nat) (c d:List Nat) (w:World) (p:Rd w K 1 C b (c.map sv)) (q:Rd w L 1 D f (d.map sv)) (a2:b<=1099511627776) (a3:f<=1099511627776):
 Calls prog 15 #[.slice C b R,.slice D f S] w fun V w'=>V=.returned (.bool (decide (c=d)))/\Below w.heap.size w w':=by
 have I:c.length=b:=by simpa using p.1
 have J:d.length=f:=by simpa using q.1
 obtain ⟨M,N,g,i⟩:=hqq4 p q I J;clear p q I J;by_cases r:b=f
 · subst r;go_enter func15,ntmps15;go_wp2;go_loopw [5] (fun y wr=>∃a:Nat,a<=b/\y=.int .i64 a/\c.take a=d.take a/\∃X,wr=w.drewN X) (fun y _=>b -(intOf y).toNat)
   case atStart=>exact ⟨0,zAp _,rfl,rfl,0,rfl⟩
   case round=>
    obtain ⟨a,a1,rfl,k,a4,rfl⟩:=hrel;by_cases H:a < b
    · obtain ⟨z,u⟩:∃z,c[a]?=some z:=⟨c[a]'(by have:=g.out;omega),zAa (by have:=g.out;omega)⟩;obtain ⟨A,x⟩:∃A,d[a]?=some A:=⟨d[a]'(by have:=i.out;omega),zAa (by have:=i.out;omega)⟩;obtain ⟨b1,a5,a7,rfl,Z,s,T⟩:=M.out.get H;obtain ⟨b2,a6,a8,rfl,a0,t,U⟩:=N.out.get H;rw [zAf,u] at s;rw [zAf,x] at t;simp only [Option.map_some,Option.some.injEq] at s t;subst s;subst t;unfold sv at T U;obtain ⟨O,E,G⟩:=hqq3 k u x;clear k u x;by_cases v:z=A
      · subst v;go_wp2;go_quiet (fail);go_wp2;go_roundw
        case rel=>refine ⟨a+1,by omega,by go_num,?_,_,rfl⟩;rw [zAv,zAv,O.out,E.out,G.out]
        case measure=>simp [intOf];omega
      · have Y:=aId v
        have e:c≠d:=fun o=>v (by
         have j:=E.out;rw [o,G.out] at j;injection j with j;exact j.symm)
        have m:=lhd e;clear e;go_wp2;go_quiet (fail);go_wp2;go_ret;exact ⟨cK (by rw [zBy m.out]),below_drewN (below_drewN bR _) _⟩
    · have W:b<=a:=oM;have e:=lhd (aHq g.out i.out k W);clear k;go_wp2;go_ret;exact ⟨cK (by rw [zBz e.out]),below_drewN bR _⟩
 · have e:c≠d:=fun o=>r (by rw [<-g.out,<-i.out,o]);have m:=lhd e;have Y:=aId r;clear e;go_enter func15,ntmps15;go_wp2;go_ret;exact ⟨cK (by rw [zBy m.out]),Below.refl _ _⟩
end
end Go.Proofs.YthldmddkfbijhaaGreatDoor
