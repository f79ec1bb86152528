/- Lemmas of the walk. Conditions: each its own. -/
import Derived.Test.YthldmddkfbijhaaGreatDoorPsl6
import Derived.Test.YthldmddkfbijhaaGreatDoorPsl8
import Derived.Test.YthldmddkfbijhaaGreatDoorRows
import Derived.Test.YthldmddkfbijhaaGreatDoorProg
import Derived.Test.YthldmddkfbijhaaGreatDoorSht
import Derived.Test.YthldmddkfbijhaaGreatDoorShl
set_option linter.all false
set_option maxRecDepth 100000
set_option maxHeartbeats 2000000
open Go.Proofs.Tryz
namespace Go.Proofs.YthldmddkfbijhaaGreatDoor
section
open Go.RowKit
def nN:List (String×DataW Unit):= [("math/bits.deBruijn64tab",Rows.laid_math_bits_deBruijn64tab)]
def aKA:prog.globalNamed "math/bits.deBruijn64tab" =some 1:=by kernel_rfl
def aKF:(prog.globals[1]?).map (·.type)=some 279:=by kernel_rfl
def aIl (b:Os) (a:Array Value):laidMetH prog nN ((World.doorLaid prog 14 b).forCall (fun _ _=>0) ⟨#[],a, []⟩).memory:=
 laidMetH_of_parts3 (fuel:=8) (laidMet_of_run' 8 kR kR) kR kR
def aFN:(Rows.laid_math_bits_deBruijn64tab:DataW Unit)=Lib.tabData .u8 (Lib.deBruijn64tab.map fun n:Nat=>(n:Int)):=rfl
def aAI {b:World} (a:laidMetH prog nN b):TabW b:=by
 rw [MakeChecks.laidMetH_plain _ _ _ kR] at a;unfold nN at a;rw [aFN] at a;have d:=Lib.tabIs_of_head aKA aKF underlying279 underlying5 kR kR a;intro c e;have:=d.cell aKA c (by rw [zBc];exact e);rw [this,zAb,zAf,zAb];cases Lib.deBruijn64tab[c]? <;> rfl
def Gw.gw {c:Nat->Prop} {n d:Nat} (e:n<=d):∀b,Gw (Gw c n) d b->Gw c n b:=fun b a=>by
 rcases a with a | a;exact a;exact .inr oM
def aDy (g gk i:Nat) (y z:Int) (b:Nat->Prop) (c:List Bool) (e:Nat) (f:Bool) (a:World) (r:TreeE a b g c) (k:Bk a gk 3 #[(e:Int)]) (j:Bk a i 4 #[.bool f]) (x:c.length<=127) (w:e<=c.length):
 Calls prog 171 #[.agg #[g,.int .i64 y,.int .i64 z],gk,i] a fun m s=>m=.returned (.tuple #[])/\TreeE s (Gw b a.heap.size) g (aP c e f)/\Keep b a s:=by
 have A:a.cell? gk=some (.int .i64 (e:Int)):=(k.cell 0).trans rfl;have B:a.cell? i=some (.bool f):=(j.cell 0).trans rfl;have C:=k.lt;have D:=j.lt;have v:=lhd r;clear r k j;go_enter func171,ntmps171;go_wp2_with fail;refine (xQ b g e f c _ (v.out.below (bR.alloc nL _)) x w).mono ?_;rintro m w1 ⟨rfl,o,p⟩;have q:Keep b a w1:=(Keep.of_below (bR.alloc nL _)).trans p;have t:=lhd (o.mono (G:=Gw b a.heap.size) fun E _ d=>by
  rcases d with d | d;exact .inl d
  · simp at d;exact .inr oM)
 have u:=lhd q;clear o p q;go_wp2_with fail;go_end0;exact ⟨rfl,t.out,u.out⟩
def aDD (i gk e:Nat) (D E:Int) (j:Value) (b:Nat->Prop) (d:List Bool) (c:Nat) (a:World) (u:TreeE a b i d) (o:Bk a gk 3 #[(c:Int)]) (p:Bk a e 4 #[j]) (C:¬b e) (t:c < d.length):
 Calls prog 203 #[.agg #[i,.int .i64 D,.int .i64 E],gk,e] a fun q F=>q=.returned (.tuple #[])/\∃w1,TreeE w1 (Gw b a.heap.size) i (aF d c)/\Keep b a w1/\Bk w1 e 4 #[j]/\F=w1.setCell e (.bool (d.getD c false)):=by
 have I:a.cell? gk=some (.int .i64 (c:Int)):=(o.cell 0).trans rfl;have M:=o.lt;have N:=p.lt;obtain ⟨H,m⟩:=eqx (d.getD c false);rw [m];obtain ⟨x,B,z,y⟩:=hqq4 m u p t;clear u o p m t;go_enter func203,ntmps203;go_wp2_with fail;refine (xR b i c d _ (B.out.below (bR.alloc nL _)) y.out).mono ?_;rintro q w1 ⟨rfl,r,s⟩;rw [x.out];have k:Keep b a w1:=(Keep.of_below (bR.alloc nL _)).trans s;have g:=k.bk z.out C;have J:w1.cell? e=some j:=(g.cell 0).trans rfl;have K:=g.frozen 0;have L:=g.lt;have v:=lhd (r.mono (G:=Gw b a.heap.size) fun j _ f=>by
  rcases f with f | f;exact .inl f
  · simp at f;exact .inr oM)
 obtain ⟨w,A⟩:=hqq2 k g;clear r s k g;go_wp2_with fail;go_end0;exact ⟨rfl,w1,v.out,w.out,A.out,rfl⟩
def qB {d:World} {a b:Nat} {e:List Bool} {f:Array Value} (g:TreeAt d a e) (c:Bk d b 154 f):a≠b:=by
 rintro rfl;obtain ⟨k,m,⟨_,_,i⟩|⟨_,_,_,_,_,j⟩⟩:=g;exact absurd (aL i c).1 dC;exact absurd (aL j.tree c).1 dC
def aGT (a g gk J:Nat) (t:Nat->Value) (n i G A:Int) (f:Nat->Prop) (u:List Bool) (r:Nat) (c:Bool) (b:World) (N:Bk b a 154 (wcells t n i)) (a5:TreeE b f g u) (an:¬f a) (Y:∀e,f e->e < b.heap.size) (B:Bk b gk 3 #[(r:Int)]) (a1:Bk b J 4 #[.bool c]) (av:u.length<=127) (au:r<=u.length):
 Calls prog 111 #[a,.agg #[g,.int .i64 G,.int .i64 A],.func (.func 171) #[] #[gk,J]] b fun o O=>o=.returned (.tuple #[])/\
  TreeE O (Gw f b.heap.size) g (aP u r c)/\Keep (fun e=>f e∨e=a) b O/\∃ax,Bk O a 154 (wcells t n ax):=by
 obtain ⟨aa,L⟩:=eqx (Obj.cells #[g,.int .i64 G,.int .i64 A] 157);have Z:=(Below.refl b.heap.size b).alloc nL aa;have M:=Bk.new b 157 #[g,.int .i64 G,.int .i64 A];rw [L] at M;have aI:=N.lt;obtain ⟨U,S,R,V,I,T,af,ac⟩:=hqq8 a5 B a1 N Z M L Y;clear a5 B a1 N Z M L Y;go_enter func111,ntmps111;go_wp2_with fail;rw [af.out];refine (aDy g gk J G A f u r c _ (U.out.below I.out) (S.out.alloc _) (R.out.alloc _) av au).mono ?_;rintro o w ⟨rfl,a6,C⟩;have E:=C.bk (V.out.alloc aa) an;have D:=C.bk T.out (fun j=>by have:=ac.out _ j;omega);have a4:Keep f b w:=(Keep.of_below I.out).trans C;have z:TreeE w (Gw f b.heap.size) g (aP u r c):=a6.mono fun e _ j=>by rcases j with j | j;exact .inl j;simp at j;exact .inr oM
 obtain ⟨s,a8⟩:=z.at.visits;have aw:=z.at.lt;have aH:=D.lt;have aq:=Bk.ne E D dC;have ar:=qB z.at E;obtain ⟨W,ag,ae,ai,aj⟩:=hqq5 E D a4 z a8;clear E D a4 z a8 a6 C I U S R V T;go_wp2_with fail;refine wp_region_any kR ?_;refine bH [9,10,11,12,13,14,15,16,17,18] (fun c=>c=a) 10 [3,10] (fun v=>Bk v a 154 (wcells t n i)) (fun _ v=>Bk v a 154 (wcells t n (IntKind.i64.wrap (i+s)))) [is a,is a,is (.pointer (some ⟨a,10,none⟩)),is (.int .i64 i),is b.heap.size,is g,is (.int .i64 s),is (.int .i64 (IntKind.i64.wrap (i+s))),is a,is (.pointer (some ⟨a,10,none⟩)),dA] _ _ rfl kR kR (W.out) (fun v aN q _ ap=>Bk.below q ap q.lt) (fun _ _ _ q r=>Bk.below q r q.lt) tA0 ?_ ?_
 · refine aO ?_;refine pH3 0 (.pointer (some a)) ?_;refine pV3 0 9 ?_;refine pV3 1 10 ?_;refine sC3 (fun _ k _ K _ _ _ m _ _ _ x=>?_) ?_
   · have y:=K rfl;have aA:_=_:=m 2 11 kR rfl;have al:k.cell? ⟨a,10,none⟩=some (.int .i64 i):=(y.cell 10).trans (bI _ _ _).2.2.2.2.2.2.2.2.2.2;go_simp;exact kq x rfl
   refine pH3 4 (.pointer (some b.heap.size)) ?_;refine pL3 4 13 (fun k d=>have d:Keep (fun c=>c=a) w k:=kD d;(((d.bk ag.out (fun q=>aq (show b.heap.size=a from q).symm)).cell 0).trans rfl:k.cell? b.heap.size=some (.pointer (some g)))) ?_;refine sC3 (fun _ k d _ _ _ _ m _ _ _ x=>?_) ?_
   · replace d:Keep (fun c=>c=a) w k:=kD d;have aB:_=_:=m 5 14 kR rfl;go_simp;refine (fN g s k ((d.cell aw ar).trans aj.out)).mono ?_;rintro o aQ ⟨rfl,ao⟩;exact x _ _ (aJ ao) rfl
   refine pW3 3 12 6 15 ?_;refine pV3 0 9 ?_;refine pV3 8 17 ?_;refine sC3 (fun _ k _ K _ _ _ m _ _ _ x=>?_) ?_
   · have y:=K rfl;have aE:_=_:=m 9 18 kR rfl;have aC:_=_:=m 7 16 kR rfl;have al:k.cell? ⟨a,10,none⟩=some (.int .i64 i):=(y.cell 10).trans (bI _ _ _).2.2.2.2.2.2.2.2.2.2;have aG:=y.frozen 10;go_simp;refine x (.bool true) _ (aU (Keep.setCell (F:=fun c=>c=a) (Keep.refl _ _) (p:=⟨a,10,none⟩) (.inl rfl) _)) ?_;have X:=y.set 10 (.int .i64 (IntKind.i64.wrap (i+s)));rw [cR] at X;exact X
   exact aD
 · intro aF H d m a0;replace d:Keep (fun c=>c=a) w H:=kD d;obtain ⟨aM,ab⟩:∃ay,(fun _ v=>Bk v a 154 (wcells t n (IntKind.i64.wrap (i+s)))) ay H:=a0 10 dC;simp only [zqq];clear m a0;have a9:Bk H a 154 (wcells t n (IntKind.i64.wrap (i+s))):=ab;have a7:=ai.out.keep d fun e aK az a2 B _=>fun o=>by have am:e=a:=o;subst am;rw [(aL B W.out).1] at a2;exact absurd a2 dC
   have a3:Keep (fun e=>f e∨e=a) b H:=(ae.out.mono fun e _ j=>.inl j).trans (d.mono fun e _ o=>.inr o);obtain ⟨ak,ah,ad⟩:=hqq3 a9 a7 a3;clear ab a9 a7 a3 d;go_wp2_with fail;go_end0;exact ⟨rfl,ah.out,ad.out,_,ak.out⟩
def aGV (a j gk b:Nat) (y:Nat->Value) (n q L s:Int) (c:Value) (f:Nat->Prop) (u:List Bool) (o:Nat) (e:World) (K:Bk e a 154 (wcells y n q)) (af:TreeE e f j u) (aK:¬f a) (aI:¬f b) (a6:∀c,f c->c < e.heap.size) (C:Bk e gk 3 #[(o:Int)]) (J:Bk e b 4 #[c]) (aP:∀g,f g->g≠b) (ac:o < u.length):
 Calls prog 111 #[a,.agg #[j,.int .i64 L,.int .i64 s],.func (.func 203) #[] #[gk,b]] e fun m M=>m=.returned (.tuple #[])/\
  TreeE M (Gw f e.heap.size) j (aF u o)/\Keep (fun c=>f c∨c=a∨c=b) e M/\Bk M b 4 #[.bool (u.getD o false)]/\∃aV,Bk M a 154 (wcells y n aV):=by
 obtain ⟨z,T⟩:=eqx (u.getD o false);rw [T];have aq:=lhd T;clear T;obtain ⟨an,W⟩:=eqx (Obj.cells #[j,.int .i64 L,.int .i64 s] 157);have a8:=(Below.refl e.heap.size e).alloc nL an;have X:=Bk.new e 157 #[j,.int .i64 L,.int .i64 s];rw [W] at X;have b4:=K.lt;have b5:=J.lt;have am:=Bk.ne J K dC;obtain ⟨a1,Y,Z,a2,O,a0,ay,ap,av⟩:=hqq9 af C J K a8 X W a6 ac;clear af C J K a8 X W a6 ac;go_enter func111,ntmps111;go_wp2_with fail;rw [ay.out];refine (aDD j gk b L s c f u o _ (a1.out.below O.out) (Y.out.alloc _) (Z.out.alloc _) aI av.out).mono ?_;rintro m x ⟨rfl,w1,ag,I,ad,rfl⟩;rw [aq.out];have ak:=I.bk (a2.out.alloc an) aK;have H:=ak.far (p:=b) (fun k=>am k.symm) (.bool z);have E:=(I.bk a0.out (fun d=>by have:=ap.out _ d;omega)).far (p:=b) (fun k=>absurd (show e.heap.size=b from k) oM) (.bool z);have V:=ad.set 0 (.bool z);have U:Keep (fun g=>f g∨g=b) e (w1.setCell b (.bool z)):=Keep.setCell (F:=fun g=>f g∨g=b) (((Keep.of_below O.out).trans I).mono fun g _ d=>.inl d) (p:=b) (.inl (.inr rfl)) _;have ai:TreeE w1 (Gw f e.heap.size) j (aF u o):=ag.mono fun c _ d=>by rcases d with d | d;exact .inl d;simp at d;exact .inr oM
 have A:TreeE (w1.setCell b (.bool z)) (Gw f e.heap.size) j (aF u o):=ai.keep (G:=fun g=>g=b) (Keep.setCell (F:=fun g=>g=b) (Keep.refl _ _) (p:=b) (.inl rfl) _) fun g aT aH _ C d=>fun m=>by rcases d with d | d;exact aP g d m;have a4:g=b:=m;omega
 obtain ⟨R,a7⟩:=eqx (w1.setCell b (.bool z));rw [a7] at H E V U A⊢;obtain ⟨w,aj⟩:=A.at.visits;have aS:=A.at.lt;have b3:=E.lt;have aQ:=Bk.ne H E dC;have aR:=qB A.at H;obtain ⟨a3,az,aw,au,aB,aC⟩:=hqq6 H E V U A aj;clear H E V U A aj ag I O a1 Y Z a2 a0 a7 ai ak ad;go_wp2_with fail;refine wp_region_any kR ?_;refine bH [9,10,11,12,13,14,15,16,17,18] (fun r=>r=a) 10 [3,10] (fun x=>Bk x a 154 (wcells y n q)) (fun _ x=>Bk x a 154 (wcells y n (IntKind.i64.wrap (q+w)))) [is a,is a,is (.pointer (some ⟨a,10,none⟩)),is (.int .i64 q),is e.heap.size,is j,is (.int .i64 w),is (.int .i64 (IntKind.i64.wrap (q+w))),is a,is (.pointer (some ⟨a,10,none⟩)),dA] _ _ rfl kR kR (a3.out) (fun x b7 k _ aN=>Bk.below k aN k.lt) (fun _ _ _ k o=>Bk.below k o k.lt) tA0 ?_ ?_
 · refine aO ?_;refine pH3 0 (.pointer (some a)) ?_;refine pV3 0 9 ?_;refine pV3 1 10 ?_;refine sC3 (fun _ t _ S _ _ _ v _ _ _ B=>?_) ?_
   · have D:=S rfl;have aX:_=_:=v 2 11 kR rfl;have aG:t.cell? ⟨a,10,none⟩=some (.int .i64 q):=(D.cell 10).trans (bI _ _ _).2.2.2.2.2.2.2.2.2.2;go_simp;exact kq B rfl
   refine pH3 4 (.pointer (some e.heap.size)) ?_;refine pL3 4 13 (fun t i=>have i:Keep (fun r=>r=a) R t:=kD i;(((i.bk az.out (fun k=>aQ (show e.heap.size=a from k).symm)).cell 0).trans rfl:t.cell? e.heap.size=some (.pointer (some j)))) ?_;refine sC3 (fun _ t i _ _ _ _ v _ _ _ B=>?_) ?_
   · replace i:Keep (fun r=>r=a) R t:=kD i;have aY:_=_:=v 5 14 kR rfl;go_simp;refine (fN j w t ((i.cell aS aR).trans aC.out)).mono ?_;rintro m b8 ⟨rfl,aM⟩;exact B _ _ (aJ aM) rfl
   refine pW3 3 12 6 15 ?_;refine pV3 0 9 ?_;refine pV3 8 17 ?_;refine sC3 (fun _ t _ S _ _ _ v _ _ _ B=>?_) ?_
   · have D:=S rfl;have b0:_=_:=v 9 18 kR rfl;have aZ:_=_:=v 7 16 kR rfl;have aG:t.cell? ⟨a,10,none⟩=some (.int .i64 q):=(D.cell 10).trans (bI _ _ _).2.2.2.2.2.2.2.2.2.2;have b2:=D.frozen 10;go_simp;refine B (.bool true) _ (aU (Keep.setCell (F:=fun r=>r=a) (Keep.refl _ _) (p:=⟨a,10,none⟩) (.inl rfl) _)) ?_;have a5:=D.set 10 (.int .i64 (IntKind.i64.wrap (q+w)));rw [cR] at a5;exact a5
   exact aD
 · intro b1 N i v a9;replace i:Keep (fun r=>r=a) R N:=kD i;obtain ⟨b6,ao⟩:∃aW,(fun _ x=>Bk x a 154 (wcells y n (IntKind.i64.wrap (q+w)))) aW N:=a9 10 dC;simp only [zqq];clear v a9;have al:Bk N a 154 (wcells y n (IntKind.i64.wrap (q+w))):=ao;have ah:=aB.out.keep i fun c aT aH aa C _=>fun m=>by have a4:c=a:=m;subst a4;rw [(aL C a3.out).1] at aa;exact absurd aa dC
   have ae:=i.bk aw.out am;have ab:Keep (fun c=>f c∨c=a∨c=b) e N:=(au.out.mono (G:=fun c=>f c∨c=a∨c=b) fun c _ d=>by
    rcases d with d | d;exact .inl d
    · exact .inr (.inr d)).trans (i.mono fun c _ m=>.inr (.inl m))
   obtain ⟨aE,aA,ax,ar⟩:=hqq4 al ah ae ab;clear ao al ah ab i ae;go_wp2_with fail;go_end0;exact ⟨rfl,aA.out,ar.out,ax.out,_,aE.out⟩
def uQ:(prog.info? 5).map (fun a=>(a.zero,a.size,a.bytes))=some (some (.int .u8 0),1,1):=by kernel_rfl
def aIM (n:Nat) (a:World) (t:n<=1099511627776):
 Calls prog 102 #[.slice none 0 0,(n:Int)] a fun j f=>∃e,j=.returned e/\f.ownsRow a.heap.size 5 1 e 0 []/\Below a.heap.size a f:=by
 obtain ⟨q,k,o,u,p⟩:=info_parts uQ;rcases zBa n with b | b
 · subst b;go_enter func102,ntmps102;go_wp2;go_ret;exact ⟨_,rfl,World.ownsRow_nil _ _ _ _,Below.refl _ _⟩
 · have c:=Lib.run_append_nil_zeros (P:=prog) a 26 3 26 5 q (.int .u8 0) .i64 .i64 underlying26 underlying3 k o n b oM oM (by rw [p];omega);have s:=grownCap_ge a n 0 5;have m:=grownCap_le_maxLen a n 0 5 (by unfold maxLen;omega);generalize grownCap a n 0 5=cp at*
   have d:(Builtin.zeroCells (Value.int .u8 0).cells n++Builtin.zeroCells (Value.int .u8 0).cells (cp - n)).size=cp*1:=(by simp [Builtin.zeroCells,Value.cells];omega);obtain ⟨i,g⟩:=hqq2 d c;clear d c;have r:¬((n:Int) < 0):=oM;go_enter func102,ntmps102;go_wp2_with (at_builtin;refine Lib.wpList_append_run _ rfl (.tmp 20) (.tmp 21) _ _ rfl _ _ rfl rfl _ _ g.out ?_);go_ret;exact ⟨_,rfl,World.ownsRow_made _ _ _ nL m i.out,bR.drew.alloc nL _⟩
structure Sl where
 A:Option Addr
 n:Nat
 c:Nat
 l:List UInt8
def slV (a:Sl):Value:=.slice a.A a.n a.c
def gX (a:List Sl):List UInt8:=a.flatMap (·.l)
def aAr (b:List Sl) (a:Nat) (c:Sl) (d:b[a]?=some c):gX (b.take (a+1))=gX (b.take a)++c.l:=by
 rw [zAv,d];simp [gX]
def aBj (a:List Sl) (b:Nat):(gX (a.take b)).length<=(gX a).length:=by
 have:gX a=gX (a.take b)++gX (a.drop b):=by unfold gX;rw [<-List.flatMap_append,zAu]
 rw [this,zAi];omega
def mI (I:Option Addr) (f a2 v:Nat) (d:List Sl) (x:List UInt8) (o:Nat) (z:gX d=x) (T:x.length=o) (g:World) (E:Rd g v 1 I f (d.map slV)) (F:∀b∈d,Rd g v 1 b.A b.n (b.l.map bv)) (S:v<=g.heap.size) (an:f<=1099511627776) (ab:o<=1099511627776):
 Calls prog 41 #[.slice I f a2] g fun R Z=>∃t u,R=.returned (.slice t o u)/\Made Z g.heap.size 5 1 t o u (x.map bv)/\Below g.heap.size g Z:=by
 obtain ⟨aj,a8,ag,ah,ai⟩:=info_parts uQ;have U:d.length=f:=by simpa using E.1
 have V:∀a,(gX (d.take a)).length<=1099511627776:=fun a=>by have:=aBj d a;rw [z] at this;omega
 have X:∀a b,d[a]?=some b->b.l.length=b.n/\(gX (d.take (a+1))).length=(gX (d.take a)).length+b.n:=fun a b e=>by
  have p:=(F b (zAd e)).1;have i:b.l.length=b.n:=by simpa using p
  rw [aAr d a b e,zAi,i];exact ⟨rfl,rfl⟩
 obtain ⟨m,M,O,N,a0,K,J⟩:=hqq7 U V X (E.mono S) (fun b e=>(F b e).mono S) z T;clear U V X E F z T;go_enter func41,ntmps41;go_wp2;go_loopw [3,11] (fun H k wr=>∃a:Nat,a<=f/\k=.int .i64 a/\H=.int .i64 ((gX (d.take a)).length:Int)/\g=wr) (fun _ k _=>f -(intOf k).toNat)
 case atStart=>exact ⟨0,zAp _,rfl,by simp [gX],rfl⟩
 case round=>
  obtain ⟨a,a9,rfl,rfl,rfl⟩:=hrel;by_cases D:a < f
  · obtain ⟨b,e⟩:∃b,d[a]?=some b:=⟨d[a]'(by have:=m.out;omega),zAa (by have:=m.out;omega)⟩;obtain ⟨a1,ak,al,rfl,a5,j,B⟩:=N.out.get D;rw [zAf,e] at j;simp at j;subst j;unfold slV at B;obtain ⟨p,i⟩:=O.out a b e;have y:=M.out (a+1);generalize W:(gX (d.take a)).length=G at*
    have w:=lhd i;rw [i] at y;clear p i e W;have ao:¬((G:Int)+(b.n:Int) < 0):=oM;go_wp2;go_roundw
    case rel=>exact ⟨a+1,by omega,by go_num,by rw [w.out];go_num,trivial⟩
    case measure=>simp [intOf];omega
  · have C:a=f:=oM;have a7:f<=a:=oM;have s:d.take a=d:=zAg (by have:=m.out;omega);rw [s,K.out,J.out];clear C s;go_wp2_with fail;refine (aIM o _ ab).mono ?_;rintro R w1 ⟨ap,rfl,ac,a4⟩;go_wp2_with fail;go_loopw [6,27] (fun H k wr=>∃a:Nat,a<=f/\k=.int .i64 a/\wr.ownsRow g.heap.size 5 1 H (gX (d.take a)).length ((gX (d.take a)).map bv)/\Below g.heap.size g wr) (fun _ k _=>f -(intOf k).toNat)
    case atStart=>exact ⟨0,zAp _,rfl,ac,a4⟩
    case round=>
        obtain ⟨a,a9,rfl,r,q⟩:=hrel;have Y:=q.size;by_cases D:a < f
        · obtain ⟨b,e⟩:∃b,d[a]?=some b:=⟨d[a]'(by have:=m.out;omega),zAa (by have:=m.out;omega)⟩;obtain ⟨a1,ak,al,rfl,a5,j,B⟩:=(N.out.below q).get D;rw [zAf,e] at j;simp at j;subst j;unfold slV at B;have ae:=lhd ((a0.out b (zAd e)).below q);obtain ⟨p,i⟩:=O.out a b e;have y:=M.out (a+1);obtain ⟨af,w⟩:=hqq2 (aAr d a b e) i;generalize W:(gX (d.take a)).length=G at*
          rw [i] at y;have L:=lhd r;clear p i e r;go_wp2_with (at_builtin;refine bY _ rfl (.tmp 31) (.tmp 32) _ rfl g.heap.size 5 aj (.int .u8 0) 1 1 underlying26 a8 ag ah ai rfl dC _ G _ rfl L.out g.heap.size b.A b.n b.c _ rfl ae.out (lP _) (by unfold maxLen;omega) oM Y ?_;intro aq ar ad a6 am);have a3:=aZ q L.out a6 Y;go_roundw
          case rel=>refine ⟨a+1,by omega,by go_num,?_,a3⟩;rw [w.out,af.out,zAz];exact ad
          case measure=>simp [intOf];omega
        · have C:a=f:=oM;have a7:f<=a:=oM;have s:d.take a=d:=zAg (by have:=m.out;omega);rw [s,K.out,J.out] at r;obtain ⟨t,u,rfl,aa⟩:=aT r;clear C s r;go_wp2;go_ret;exact ⟨t,u,rfl,aa,q⟩
def aHE (a:Option Addr) (n c b:Nat):Array Value:=#[.slice a n c,.int .i64 (b:Int),.bool false]
def mG (c:Nat) (f:Option Addr) (n e m i k a b:Nat) (l:List UInt8) (d:World) (g:Bk d c 82 (aHE f n e i)) (r:Rd d m 1 f n (l.map bv)) (y:n<=e) (o:e<=maxLen) (q:eJ l (i:Int)=(a,(k:Int),0)) (F:a<=b) (E:b<=4611686018427387904):
 Calls prog 46 #[c,(b:Int)] d fun x s=>x=.returned (.int .i64 (a:Int))/\Bk s c 82 (aHE f n e k)/\Keep (fun j=>j=c) d s:=by
 have B:d.cell? c=some (.slice f n e):=g.cell 0;have C:d.cell? ⟨c,1,none⟩=some (.int .i64 (i:Int)):=g.cell 1;have D:=g.frozen 1;obtain ⟨t,w,v,u⟩:=hqq4 g r q o;have z:¬((a:Int) > (b:Int)):=oM;have G:decide ((a:Int) > (b:Int))=false:=zBy z;have A:¬b < a:=oM;have H:decide (b < a)=false:=zBy A;have I:IntKind.u64.wrap (b:Int)=(b:Int):=by rw [IntKind.wrap_u64];omega
 have J:IntKind.i64.wrap (a:Int)=(a:Int):=by rw [IntKind.wrap_i64];omega
 clear g r q o;go_enter func46,ntmps46;go_wp2_with fail;go_quiet (exact pF (fF f n e l (i:Int) m _ a (k:Int) 0 v.out (w.out.drewN _) y u.out));go_wp2_with fail;go_ret;exact ⟨rfl,(t.out.drewN nq).set 1 _,((Keep.refl (fun j=>j=c) d).drewN nq).setCell (p:=⟨c,1,none⟩) (.inl rfl) _⟩
def rT (b:Nat) (f:Option Addr) (n e s o a c d:Nat) (l:List UInt8) (i:World) (q:Bk i b 82 (aHE f n e o)) (A:Rd i s 1 f n (l.map bv)) (R:n<=e) (N:e<=maxLen) (Z:n<=1099511627776) (x:eJ l (o:Int)=(c,(a:Int),0)) (a0:a+(c+4)=d) (a2:d<=n):
 Calls prog 47 #[b] i fun v D=>v=.returned (.slice (fT f e a 1) c (e - a))/\Bk D b 82 (aHE f n e d)/\Keep (fun G=>G=b) i D:=by
 have z:=mG b f n e s o a c n l i q A R N x oM oM;have H:i.cell? b=some (.slice f n e):=q.cell 0;clear q A x;go_enter func47,ntmps47;go_wp2_with fail;refine z.mono ?_;clear z;rintro v w1 ⟨rfl,j,y⟩;have I:w1.cell? b=some (.slice f n e):=j.cell 0;have J:w1.cell? ⟨b,1,none⟩=some (.int .i64 (a:Int)):=j.cell 1;have K:w1.cell? ⟨b,2,none⟩=some (.bool false):=j.cell 2;have M:=j.frozen 1;obtain ⟨t,u⟩:=hqq2 j y;obtain ⟨g,O⟩:∃g,n - a=g+4:=⟨n - a - 4,by omega⟩;have T:IntKind.i64.wrap ((n:Int) -(a:Int))=((g+4:Nat):Int):=by rw [IntKind.wrap_i64];omega
 have U:IntKind.i64.wrap (((g+4:Nat):Int) - 4)=(g:Int):=by rw [IntKind.wrap_i64];omega
 have B:¬((c:Int) > (g:Int)):=oM;have V:decide ((c:Int) > (g:Int))=false:=zBy B;have C:¬g < c:=oM;have W:decide (g < c)=false:=zBy C;clear j y H;go_wp2_with fail;go_quiet (fail);go_wp2_with fail;have L:((a:Int)+((c:Int)+4))=(d:Int):=oM;rw [L];have k:=(t.out.drewN nq).set 1 (.int .i64 (d:Int));have m:=(u.out.drewN nq).setCell (p:=⟨b,1,none⟩) (.inl rfl) (.int .i64 (d:Int));generalize (w1.drewN nq).setCell ⟨b,1,none⟩ (.int .i64 (d:Int))=w2 at k m⊢;have X:w2.cell? b=some (.slice f n e):=k.cell 0;have Y:w2.cell? ⟨b,1,none⟩=some (.int .i64 (d:Int)):=k.cell 1;obtain ⟨E,F⟩:=hqq2 k m;obtain ⟨r,a3⟩:=eqx (a+c);have a6:IntKind.i64.wrap ((d:Int) -(c:Int))=((a+4:Nat):Int):=by rw [IntKind.wrap_i64];omega
 have a7:IntKind.i64.wrap (((a+4:Nat):Int) - 4)=(a:Int):=by rw [IntKind.wrap_i64];omega
 have a8:IntKind.i64.wrap ((d:Int) - 4)=(r:Int):=by rw [IntKind.wrap_i64];omega
 have S:=fun i=>aAS (P:=prog) 26 5 1 underlying26 (fun i=>by kernel_rfl) f n e a r oM oM i;have w:r - a=c:=oM;rw [w] at S;have a1:a<=1099511627776:=oM;have a4:d<=1099511627776:=oM;have a5:a+c+4=d:=oM;clear k m t u I J K M O T U B V C W w;go_quiet (fail);go_wp2_with fail;go_ret;exact ⟨rfl,E.out.drewN _,F.out.drewN _⟩
def aE7 (k m:Option Addr) (n u v g:Nat) (d:List Nat) (b:World) (i:Rd b g 1 k n (d.map sv)) (q:Rd b g 1 m n (d.map sv)) (o:g<=b.heap.size) (G:n<=1099511627776):
 Calls prog 163 #[.slice k n u,.slice m n v] b fun w B=>w=.returned (.bool true)/\Below b.heap.size b B:=by
 have E:d.length=n:=by have:=i.1;simpa using this
 obtain ⟨s,t⟩:=hqq2 i q;clear i q;go_enter func163,ntmps163;go_wp2_with fail;go_loopw [13] (fun j wr=>∃c:Nat,c<=n/\j=.int .i64 (c:Int)/\Below b.heap.size b wr) (fun j _=>n -(intOf j).toNat)
 case atStart=>exact ⟨0,by omega,rfl,Below.refl _ _⟩
 case round=>
  obtain ⟨c,F,rfl,a⟩:=hrel;by_cases p:c < n
  · obtain ⟨b1,H,J,rfl,C,e,x⟩:=(s.out.below (a.mono o)).get p;obtain ⟨b2,I,K,rfl,D,f,y⟩:=(t.out.below (a.mono o)).get p;obtain ⟨r,A⟩:∃r,d[c]?=some r:=⟨_,zAa oM⟩;rw [zAf,A] at e f;injection e with e;injection f with f;subst e f;unfold sv at x y;go_wp2_with fail;go_quiet (fail);go_wp2_with fail;go_roundw
    case rel=>exact ⟨c+1,by omega,by go_num,⟨a.os,a.tape,a.output,a.size,a.block⟩⟩
    case measure=>simp [intOf];omega
  · have z:c=n:=oM;subst z;go_wp2_with fail;go_ret;exact ⟨rfl,a⟩
def yA (c d:Option Addr) (n f g b:Nat) (e:List Nat) (a:World) (j:Rd a b 1 c n (e.map sv)) (k:Rd a b 1 d n (e.map sv)) (m:b<=a.heap.size) (q:n<=1099511627776):
 Calls prog 109 #[.slice c n f,.slice d n g] a fun i r=>i=.returned (.bool true)/\Below a.heap.size a r:=by
 have p:=aE7 c d n f g b e a j k m q;clear j k;go_enter func109,ntmps109;go_wp2_with fail;refine p.mono ?_;rintro i w1 ⟨rfl,o⟩;go_wp2_with fail;go_ret;exact ⟨rfl,o⟩
def yL (c d:Option Addr) (n g k m j:Nat) (l b:List UInt8) (a:World) (o:Rd a j 1 c n (l.map bv)) (p:Rd a j 1 d g (b.map bv)):
 Calls prog 50 #[.slice c n k,.slice d g m] a fun q v=>q=.returned (.bool (l==b))/\Below a.heap.size a v:=by
 have t:(convert 26 9 (.slice c n k)).run prog a=.ok (.string ⟨l.toArray⟩) a:=lK (P:=prog) 26 9 5 underlying26 underlying5 underlying9 o;have u:(convert 26 9 (.slice d g m)).run prog a=.ok (.string ⟨b.toArray⟩) a:=lK (P:=prog) 26 9 5 underlying26 underlying5 underlying9 p;obtain ⟨w,e⟩:∃i:ByteArray,⟨l.toArray⟩=i:=⟨_,rfl⟩;obtain ⟨x,f⟩:∃i:ByteArray,⟨b.toArray⟩=i:=⟨_,rfl⟩;rw [e] at t;rw [f] at u;have r:w.toList=l:=by rw [<-e,ByteArray.toList_eq]
 have s:x.toList=b:=by rw [<-f,ByteArray.toList_eq]
 clear e f o p;go_enter func50,ntmps50;go_wp2_with fail;go_ret;refine ⟨?_,Below.refl _ _⟩;rw [<-r,<-s];rfl
def aBK (g e m:Nat) (v w x u:Value) (i P:Nat) (b:List Nat) (a:List (Nat×Nat)) (t:List Bool) (k:List Nat) (row:Nat) (d:World) (o:PermAt d g e m v w x u i P b a t k) (s:b.Pairwise (fun z A=>aB a z < aB a A)) (D:b.length<=1099511627776) (r:∀c∈b,aB a c≠row):
 Calls prog 183 #[e,(row:Int)] d fun j E=>j=.returned (.int .i64 (-1))/\Below d.heap.size d E:=by
 have f:=jV g e m v w x u i P b a t k row d o s D;have q:decide (∃c∈b,aB a c=row)=false:=by simp only [decide_eq_false_iff_not];rintro ⟨c,B,C⟩;exact r c B C
 rw [q] at f;clear o s r q;go_enter func183,ntmps183;go_wp2_with fail;refine f.mono ?_;rintro j w1 ⟨rfl,p⟩;have y:=lhd p;clear f p;go_wp2_with fail;go_ret;exact ⟨rfl,y.out⟩
def aBJ (z k F:Nat) (M N O L:Value) (A P:Nat) (d:List Nat) (a:List (Nat×Nat)) (K:List Bool) (C:List Nat) (row i:Nat) (r:World) (g:PermAt r z k F M N O L A P d a K C) (p:d.Pairwise (fun j s=>aB a j < aB a s)) (a1:d.length<=1099511627776) (ab:a.length<=1099511627776) (o:i∈d) (w:aB a i=row):
 Calls prog 183 #[k,(row:Int)] r fun B a7=>B=.returned (.int .i64 ((aI a i:Nat):Int))/\Below r.heap.size r a7:=by
 have t:=jV z k F M N O L A P d a K C row r g p a1;have H:decide (∃y∈d,aB a y=row)=true:=zBz ⟨i,o,w⟩;rw [H] at t;obtain ⟨e,q,a4⟩:=(sZ p row).2 ⟨i,o,w⟩;obtain ⟨f,J⟩:∃f,(d.countP fun y=>decide (aB a y < row))=f:=⟨_,rfl⟩;rw [J] at q t;have a6:e=i:=by
  obtain ⟨j,G,u⟩:=zBo.1 o;obtain ⟨s,v⟩:=zAc.1 q;rcases Nat.lt_trichotomy j f with b | b | b;have:=zAr.1 p j f G s b;rw [u,v] at this;omega
  · subst b;rw [<-u,<-v]
  have:=zAr.1 p f j s G b;rw [u,v] at this;omega
 subst a6;have ai:f < d.length:=(zAc.1 q).1;have a5:e < a.length:=g.lt e o;obtain ⟨D,X,a3,af,Z⟩:=World.ownsRow.form g.orow oM;obtain ⟨E,Y,a2,ag,a0⟩:=World.ownsRow.form g.lrow oM;subst a3;subst a2;have I:=(cK a e a5).2;obtain ⟨R,V,T⟩:=hqq3 g q I;have ah:(f:Int) < (d.length:Int):=oM;have aj:(e:Int) < (a.length:Int):=oM;clear g p H a4 J q I o w;go_enter func183,ntmps183;go_wp2_with fail;refine t.mono ?_;rintro B w1 ⟨rfl,m⟩;have b:=R.out.below m;have a8:∀c,(w1.drewN c).cell? ⟨k,1,none⟩=some (.slice (some E) a.length Y):=fun c=>(b.blk.cell 1).trans rfl;have a9:∀c,(w1.drewN c).cell? ⟨k,2,none⟩=some (.slice (some D) d.length X):=fun c=>(b.blk.cell 2).trans rfl;have ae:=b.blk.lt;have aa:∀c,(w1.drewN c).cell? ⟨D,f,none⟩=some (.int .i64 (e:Int)):=fun c=>(World.ownsRow.cellAt b.orow f oM).trans (by rw [zAf,V.out];rfl);have W:∀c,(w1.drewN c).cell? ⟨E,e*2+1,none⟩=some (.int .i64 ((aI a e:Nat):Int)):=fun c=>(World.ownsRow.cellAt b.lrow (e*2+1) oM).trans T.out;have S:=lhd m;have ac:=zAl Z m.size;have ad:=zAl a0 m.size;obtain ⟨ak,x⟩:=eqx (aI a e);rw [x] at W;have U:=lhd x;clear t m b x;go_wp2_with fail;go_quiet (fail);go_wp2_with fail;go_ret;exact ⟨by rw [U.out];rfl,below_drewN S.out _⟩
end
section
open Go.RowKit Go.Shelf
attribute [local go_sem] Oper.semAt_some
section
variable {P : Program} {ops : Array Oper} {md : Region.Mode} {Q : Exit -> Act -> World -> Prop} {l n : Nat}
def aFH {f:Oper} {e:Act} {d:Act->World->Prop} {b:Result Next} (a:f.upon P e d Q b):f.uponIn (Fence.wide.inRound l) n P e d Q b:=by
 cases b with
 | ok c s=>
   cases c with
   | value g=>exact a
   | skip=>exact a
   | defer t=>exact a
   | enter u j=>
     refine ⟨fun a=>(by simp [Fence.wide] at a),CallsIn.inRound l (callsIn_wide.2 (Calls.mono a ?_))⟩;intro o i p;cases o <;> exact p
   | row row j=>
     refine ⟨fun a=>(by simp [Fence.wide] at a),fun k m _=>?_⟩;obtain ⟨g,i,q,r⟩:=a k m;exact ⟨g,i,q,stepsIn_wide.2 r⟩
   | _=>exact a.elim
 | halt c s=>cases c <;> exact a
def aDJ (r:¬LetsOut Q) (p:∀(e:Nat) (f:Oper),ops[e]?=some f->∀o,f.op≠.defer o):∀(d:Nat) (i:Array Bool) (b:Act) (c:World),wpAny P md ops Q d i b c->wpAnyIn (Fence.wide.inRound l) n P md ops Q d i b c:=by
 intro d
 induction d with
 | zero=>intro i b c g;exact g
 | succ d k=>
   intro i b c g;refine ⟨g.1,fun e q=>?_⟩;have a:=g.2 e q;unfold wpOp at a;unfold wpOpIn;cases j:ops[e]? with
   | none=>
     rw [j] at a;exact k _ _ _ a
   | some f=>
     rw [j] at a;simp only at a⊢;by_cases m:Region.wanted f (yielded ops b.tmps)=true;rw [zBx m] at a⊢;rcases a with a | a;refine ⟨fun _ _=>trivial,?_⟩;rw [Oper.semAt_eq _ _ _ (p e f j)];exact aFH (Oper.wp_mono (fun b c=>k _ b c) a);exact absurd a.2 r;rw [zBw m] at a⊢;exact ⟨fun _ _=>trivial,k _ _ _ a⟩
end
def KpB (b1 b2:Nat) (b c:World):Prop:=∀a:Addr,(a.block=b1∨a.block=b2)->c.cell? a=b.cell? a
def KpB.trans {b1 b2:Nat} {a b c:World} (f:KpB b1 b2 a b) (g:KpB b1 b2 b c):KpB b1 b2 a c:=fun e d=>(g e d).trans (f e d)
def bkL (a:List UInt8) (c:Nat):List (Nat×UInt8):=(List.range c).map fun b=>(a.length - 1 - b,a.getD (a.length - 1 - b) 0)
def aIA (a:List UInt8) (b:Nat):bkL a (b+1)=bkL a b++ [(a.length - 1 - b,a.getD (a.length - 1 - b) 0)]:=by simp [bkL,List.range_succ]
def aJy (b:List UInt8) (a:Nat):(bkL b a).length=a:=by simp [bkL]
def aBV (s:Fence) (n:Nat) (Z:s.fn 216) (a1:s.round=none) (a9:1<=n) (l j o y V:Nat) (z:Option Addr) (b:List UInt8) (C:0 < b.length->z=some ⟨o,y,none⟩) (a0:b.length<=1000000) (m A:List (Nat×UInt8)->World->Prop)
 (F:∀g i e,m g e->g.length < b.length->YieldAt s (n - 1) prog l #[(i.1:Int),.int .u8 (i.2.toNat:Int)] e fun d f=>
  (d=.returned (.bool true)/\m (g++ [i]) f/\KpB j o e f)∨(d=.returned (.bool false)/\A (g++ [i]) f))
 (e:World) (u:e.cell? j=some (.slice z b.length V)) (G:∀a,a < b.length->e.cell? ⟨o,y+a,none⟩=some (.int .u8 ((b.getD a 0).toNat:Int))) (B:m [] e):
 CallsIn s n prog 216 #[.func (.yield l) #[] #[],j] e fun d f=>(∃a3,d=.returned a3)/\
  ((∃J,J=bkL b b.length/\m J f)∨(∃g,True/\A g f)):=by
 obtain ⟨c,w⟩:=eqx b.length;rw [w] at u a0;obtain ⟨L,k,O,S,M,K⟩:=hqq6 C w F G u B;clear w F G B C;refine callsIn_of_wp func216 rfl Z ?_ a1;simp only [ntmps216,List.size_toArray,zCg,List.length_nil,Nat.reduceAdd,Nat.reduceSub,Array.replicate_succ,Array.replicate_zero,List.push_toArray,List.append_toArray,List.nil_append,List.cons_append]
 gi_wp2
 clear u
 gi_loopw [3] (fun x wr=>∃r:Nat,r<=c/\x=.int .i64 ((r:Int) - 1)/\m (bkL b (c - r)) wr/\KpB j o e wr) (fun x _=>(intOf x+1).toNat)
 case atStart=>exact ⟨c,zAs _,rfl,by rw [Nat.sub_self];exact K.out,fun _ _=>rfl⟩
 case round=>
  obtain ⟨r,aa,rfl,p,q⟩:=hrel;rcases r with _ | a
  · have d:((0:Nat):Int) - 1=-1:=oM;rw [d];rw [Nat.sub_zero] at p;have N:=lhd p;clear p q
    gi_wp2
    go_end0;exact ⟨⟨_,rfl⟩,.inl ⟨_,rfl,by rw [k.out];exact N.out⟩⟩
  · have d:((a+1:Nat):Int) - 1=(a:Int):=oM;rw [d];have v:bkL b (c - a)=bkL b (c -(a+1))++ [(a,b.getD a 0)]:=(by rw [show c - a=(c -(a+1))+1 by omega,aIA,k.out,show c - 1 -(c -(a+1))=a by omega]);have X:=(q ⟨j,0,none⟩ (.inl rfl)).trans M.out;rw [L.out (by rw [k.out];omega)] at X;have Y:=(q ⟨o,y+a,none⟩ (.inr rfl)).trans (S.out a (by rw [k.out];omega));have a8:a < c:=oM;obtain ⟨i,I⟩:=eqx (b.getD a 0);rw [I] at Y v;obtain ⟨a7,ab,a5,a6,a2,W⟩:=O.out (bkL b (c -(a+1))) (a,i) wr p (by rw [aJy,k.out];omega);dsimp only at a2;obtain ⟨R,T⟩:=hqq2 v q;clear v q p d I
    gi_wp2
    refine W.mono ?_;rintro d a4 (⟨rfl,D,H⟩|⟨rfl,E⟩)
    · obtain ⟨t,U⟩:=hqq2 D H;clear D H
      gi_wp2
      go_roundw
      case rel=>exact ⟨a,by omega,rfl,by rw [R.out];exact t.out,T.out.trans U.out⟩
      case measure=>simp [intOf]
    · have t:=lhd E;clear E
      gi_wp2
      refine bodyPost_ret (results_none rfl _ _ _) rfl ?_;exact ⟨⟨_,rfl⟩,.inr ⟨_,trivial,t.out⟩⟩
end
section
open Go.RowKit
def vA {n:Nat} {a b:Int} (c:iE n a b=false):a < 0∨(0<=a/\b < 0)∨(0<=a/\0<=b/\(n:Int) < a)∨(0<=a/\0<=b/\a<=(n:Int)/\(n:Int) - a < b):=by
 unfold iE at c;have:=of_decide_eq_false c;omega
def aFF (g:Nat) (j:Option Addr) (c o m:Nat) (D k i b:Int) (f e:List UInt8) (J:List UInt8) (W:Told) (a:doM f b D k i e=(J,W)) (d:World) (v:Bk d g 56 #[.string ⟨f.toArray⟩,.int .i64 b])
 (p:Rd d m 1 j c (e.map bv)) (r:m<=d.heap.size) (u:0 < c->∀B,j=some B->B.block≠g) (Z:f.length<=549755813888) (s:c<=549755813888) (y:-9223372036854775808<=k/\k<=9223372036854775807) (w:-9223372036854775808<=i/\i<=9223372036854775807) (x:0<=b/\b<=2147483648):
 Calls prog 25 #[g,aY D k i j c o] d fun X Y=>cC g b J W d Y X:=by
 have H:e.length=c:=by simpa using p.1
 obtain ⟨n,q⟩:=eqx f.length;have t:n<=549755813888:=oM;unfold doM at a;rw [q] at a;by_cases M:D=1
 · subst M;rw [zBx rfl] at a;cases A:iE n k 0 with
   | false=>
     rw [zBx A] at a;cases a;rcases vA A with z |⟨_,z⟩|⟨z,_,C⟩|⟨_,_,z,C⟩;exact aDj g j c o m k i b f e n q d v p r u t s y w x z;exact absurd z oM;exact aDk g j c o m k i b f e n q d v p r u t s y w x oM oM;omega
   | true=>
     rw [zBw (by rw [A];decide)] at a;by_cases I:b -(n:Int) < (e.length:Int);rw [zBx I] at a;cases a;obtain ⟨B,E,rfl,L,F⟩:=iH A;exact aBA g j c o m B i b f e n q d v p r u t s y w x oM oM (by rw [<-H];exact I);rw [zBw I] at a;cases a;obtain ⟨B,E,rfl,L,F⟩:=iH A;exact aE0 g j c o m B i b f e n q d v p r u t s y w x oM (by rw [<-H];omega)
 rw [zBw M] at a;by_cases N:D=2
 · subst N;rw [zBx rfl] at a;cases A:iE n k i with
   | false=>
     rw [zBx A] at a;cases a;rcases vA A with z |⟨z,C⟩|⟨z,C,G⟩|⟨z,C,G,K⟩;exact aDl g j c o m k i b f e n q d v p r u t s y w x z;exact aBB g j c o m k i b f e n q d v p r u t s y w x oM C;exact aDm g j c o m k i b f e n q d v p r u t s y w x oM oM oM;exact aBC g j c o m k i b f e n q d v p r u t s y w x oM oM oM oM
   | true=>
     rw [zBw (by rw [A];decide)] at a;cases a;obtain ⟨B,E,rfl,rfl,F⟩:=iH A;exact aE1 g j c o m B E b f e n q d v p r u t s y w x F
 rw [zBw N] at a;by_cases S:D=5
 · subst S;rw [zBx rfl] at a;cases A:iE n k i with
   | false=>
     rw [zBx A] at a;cases a;rcases vA A with z |⟨z,C⟩|⟨z,C,G⟩|⟨z,C,G,K⟩;exact aBx g j c o m k i b f e n q d v p r u t s y w x z;exact zC g j c o m k i b f e n q d v p r u t s y w x oM C;exact aBy g j c o m k i b f e n q d v p r u t s y w x oM oM oM;exact zD g j c o m k i b f e n q d v p r u t s y w x oM oM oM oM
   | true=>
     rw [zBw (by rw [A];decide)] at a;cases a;obtain ⟨B,E,rfl,rfl,F⟩:=iH A;exact aDg g j c o m B E b f e n q d v p r u t s y w x F
 rw [zBw S] at a;by_cases O:D=3
 · subst O;rw [zBx rfl,H] at a;cases A:iE n k c with
   | false=>
     rw [zBx A] at a;cases a;rcases vA A with z |⟨z,C⟩|⟨z,C,G⟩|⟨z,C,G,K⟩;exact aDh g j c o m k i b f e n q d v p r u t s y w x z;omega;exact aDi g j c o m k i b f e n q d v p r u t s y w x oM oM;exact aBz g j c o m k i b f e n q d v p r u t s y w x oM oM oM
   | true=>
     rw [zBw (by rw [A];decide)] at a;cases a;obtain ⟨B,E,rfl,L,F⟩:=iH A;exact aEX g j c o m B i b f e n q d v p r u t s y w x oM
 rw [zBw O] at a;by_cases R:D=4;subst R;rw [zBx rfl] at a;cases a;exact aJB g j c o m k i b f e n q d v p r u t s y w x;rw [zBw R] at a;by_cases T:D=6;subst T;rw [zBx rfl] at a;cases a;exact aGP g j c o m k i b f e n q d v p r u t s y w x;rw [zBw T] at a;by_cases U:D=7;subst U;rw [zBx rfl] at a;cases a;exact aEZ g j c o m k i b f e n q d v p r u t s y w x;rw [zBw U] at a;by_cases V:D=8;subst V;rw [zBx rfl] at a;cases a;exact aEY g j c o m k i b f e n q d v p r u t s y w x;rw [zBw V] at a;cases a;exact aGO g j c o m D k i b f e n q d v p r u t s y w x oM
def shO (a:List Bool):Shp:=⟨(a.length:Int),0,1,1⟩
def shL (a:List Nat) (b:Nat):Nat->List Shp
 | 0=> []
 | p+1=>shL a b p++if aK a b p= [] then [] else [shO (aK a b p)]
def shA (a:List Nat):Nat->List Shp
 | 0=> []
 | lv+1=>shA a lv++shL a lv (2 ^ lv)
def aIZ {d:List Nat} {e b:Nat} {g:Shp} (a:g∈shL d e b):∃c,c < b/\aK d e c≠ []/\g=shO (aK d e c):=by
 induction b with
 | zero=>cases a
 | succ b j=>
   unfold shL at a;rcases zCp.1 a with a | a;obtain ⟨c,k,i⟩:=j a;exact ⟨c,by omega,i⟩
   · by_cases f:aK d e b= []
     · rw [zBx f] at a;cases a
     rw [zBw f] at a;exact ⟨b,by omega,f,List.mem_singleton.1 a⟩
def aI0 {e:List Nat} {d:Nat} {i:Shp} (a:i∈shA e d):∃c b,c < d/\b < 2 ^ c/\aK e c b≠ []/\i=shO (aK e c b):=by
 induction d with
 | zero=>cases a
 | succ d j=>
   unfold shA at a;rcases zCp.1 a with a | a;obtain ⟨c,b,g,f⟩:=j a;exact ⟨c,b,by omega,f⟩;obtain ⟨b,g,f⟩:=aIZ a;exact ⟨d,b,by omega,g,f⟩
def aAO (b:List Nat) (c a:Nat):(shL b c a).length<=a:=by
 induction a with
 | zero=>exact zAs _
 | succ a d=>
   unfold shL;rw [zAi];split;simp;omega;simp;omega
def aI1 (b:List Nat):(shA b 9).length<=511:=by
 have a:=fun c=>aAO b c (2 ^ c);have:=a 0;have:=a 1;have:=a 2;have:=a 3;have:=a 4;have:=a 5;have:=a 6;have:=a 7;have:=a 8;simp only [shA,zAi,List.length_nil];omega
def aJA (a:List Nat) (b c:Nat):(aK a b c).length<=a.length:=by
 rw [iU];exact zBh
def aGC (b:List Nat) (c:∀a∈b,a < 257):(aK b 0 0).length=b.length:=by
 rw [iU,List.countP_eq_length];intro a d;have e:=c a d;have:bE a 0=0:=by unfold bE;omega
 rw [this];rfl
def aHo (a:List Nat) (j:∀p∈a,p < 257) (f:a≠ []):∃c,shA a 9=⟨(a.length:Int),0,1,1⟩::c:=by
 have d:=aGC a j;have m:aK a 0 0≠ []:=fun e=>by rw [e] at d;exact f (zCx.1 d.symm)
 have g:shA a 1= [⟨(a.length:Int),0,1,1⟩]:=by show []++shL a 0 1=_;show []++([]++if aK a 0 0= [] then [] else [shO (aK a 0 0)])=_;rw [zBw m];unfold shO;rw [d];rfl
 have i:∀b,∃c,shA a (1+b)=⟨(a.length:Int),0,1,1⟩::c:=fun b=>by
  induction b with
  | zero=>exact ⟨[],g⟩
  | succ b o=>
    obtain ⟨c,k⟩:=o;refine ⟨c++shL a (1+b) (2 ^(1+b)),?_⟩;show shA a (1+b)++_=_;rw [k];rfl
 exact i 8
def aAM (a b:List Shp):cH (a++b)=cH a++cH b:=by simp [cH]
def aFa (f:Nat->Prop) (b:Nat) (a:World) (k:ArenaE a f b [true] []):
 Calls prog 198 #[b] a fun j m=>j=.returned (.int .i64 1)/\Below a.heap.size a m:=by
 obtain ⟨_,e,i,d,g,c,_⟩:=k;have o:a.cell? b=some (.slice e 1 i):=(c.cell 0).trans rfl;have p:a.cell? ⟨b,1,none⟩=some (.slice d 0 g):=(c.cell 1).trans rfl;clear c;go_enter func198,ntmps198;go_wp2;go_quiet (fail);go_wp2;go_ret;exact ⟨rfl,below_drewN bR _⟩
def aGI (c:Nat->Prop) (e b:Nat) (j k m:Value) (a:World) (i:Bk a e 202 #[b,j,k,m]) (f:ArenaE a c b [true] []):
 Calls prog 215 #[e] a fun d p=>d=.returned (.int .i64 1)/\Below a.heap.size a p:=by
 have q:=i.cell 0;have g:=aFa c b a f;clear i f;go_enter func215,ntmps215;go_wp2_with fail;refine g.mono ?_;rintro d w1 ⟨rfl,o⟩;clear g;go_wp2_with fail;go_ret;exact ⟨rfl,o⟩
def yU (W:Nat->Prop) (c:Nat) (r:List Bool) (k:World) (B:TreeE k W c r) (a7:r≠ []):
 Calls prog 179 #[c] k fun u V=>u=.returned (shO r).val/\Below k.heap.size k V:=by
 have a2:=B;obtain ⟨aB,aA,b9,⟨v,_⟩|⟨v,_⟩|⟨v,aC,t,a0,b8,aE,aF,w,a1⟩⟩:=B;exact absurd v a7;exact absurd v a7;obtain ⟨I,C⟩:=eqx (k.alloc (.cells #[.int .i64 0,.int .i64 0,.int .i64 0,.int .i64 0] 122));obtain ⟨e,q⟩:=eqx k.heap.size;obtain ⟨n,N⟩:=eqx r.length;have F:Below e k I:=by rw [<-C,<-q];exact bR.alloc nL _
 have L:Bk I e 122 #[.int .i64 0,.int .i64 0,.int .i64 0,.int .i64 0]:=by rw [<-C,<-q];exact Bk.new _ _ _
 have H:=L.lt;have G:c < e:=by rw [<-q];exact w.tree.lt
 have aI:t < e:=by rw [<-q];exact w.row.lt.2
 have a6:=aGI W c aA _ _ _ I (w.tree.below F G) (a1.vis (Vis.of_below (by rw [q];exact F)));obtain ⟨aN,a9,aa,aQ,aR,aS,ab,aT,aV,aW,aO,aP⟩:=w.cells;have a8:(shO r).val=.agg #[(n:Int),.int .i64 0,.int .i64 1,.int .i64 1]:=by rw [<-N];rfl
 obtain ⟨ae,A,ah,aj,ao,Y,ap,ad,al⟩:=hqq9 C q F L a9 aa ab a2 N;have an:=lhd a8;clear a2 aB v aC aE aF w a1 C q F L aN a9 aa aQ aR aS ab aT aV aW aO aP a8 N;rw [an.out,A.out];go_enter func179,ntmps179;have J:k.cell? ⟨c,2,none⟩=some (.int .i64 0):=Y.out;have aK:c < k.heap.size:=by rw [A.out];exact G
 go_wp2_with fail;rw [ae.out]
 try rw [A.out]
 refine a6.mono ?_;clear a6 J aK;rintro u o ⟨rfl,E⟩;have D:Below e k o:=ah.out.trans (E.mono (zCm H));have M:e<=o.heap.size:=zAk (zCm H) E.size;have a4:∀a,Keep (fun _=>False) o a->a.cell? ⟨c,1,none⟩=some (.slice (some t) 1 a0)/\a.cell? ⟨c,2,none⟩=some (.int .i64 0)/\a.cell? ⟨t,2,none⟩=some (.int .i64 0):=fun a R=>by have x:=D.trans (R.to_below M fun Z _ j=>j.elim);exact ⟨(x.cell G).trans ao.out,(x.cell G).trans Y.out,(x.cell aI).trans ap.out⟩
 have a5:∀a,Keep (fun _=>False) o a->Calls prog 178 #[c] a fun u V=>u=.returned (.int .i64 (n:Int))/\Below a.heap.size a V:=fun a R=>by have x:=D.trans (R.to_below M fun Z _ j=>j.elim);have:=eR c r a (ad.out.at.below (by rw [A.out];exact x));rw [al.out] at this;exact this
 obtain ⟨X,af,z,ak⟩:=hqq4 (aj.out.below E H) D a4 a5;clear E D M a4 a5 H;go_wp2_with fail;refine wp_region_any kR ?_;refine cV 18 [16,17,18,19,20,21,22,23,24,25,26,27,28,29,30,31,32,33] (fun _=>False) 0 [] (fun _=>True) (is c) [dA,is (n:Int),is c,is c,is (.pointer (some ⟨c,1,none⟩)),is (.slice (some t) 1 a0),is c,is c,is (.pointer (some ⟨c,2,none⟩)),is (.int .i64 0),is t,is (.pointer (some ⟨t,2,none⟩)),is (.int .i64 0),is (.int .i64 1),is (.int .i64 2),is (.int .i64 1),is (.int .i64 1),is (.agg #[(n:Int),.int .i64 0,.int .i64 1,.int .i64 1])] _ _ rfl dC kR kR kR (trivial) (fun _ _ _ _ _=>trivial) (fun _ _ _ B _=>B) tA0 ?_ ?_
 · refine bG ?_;refine sC3 (fun s _ _ _ _ _ aL _ _ _ _ g=>?_) ?_
   · have aX:s (.tmp 0)=.pointer (some c):=aL 0 kR;go_simp;exact g _ _ (aU (Keep.refl _ _)) rfl
   refine sC3 (fun s a b _ _ _ _ d _ _ _ g=>?_) ?_
   · replace b:Keep (fun _=>False) o a:=kD b;have aM:(is c) (s (.tmp 16)) a:=d 0 16 kR rfl;have aY:s (.tmp 16)=.pointer (some c):=aM;have aH:=ak.out a b;go_simp;refine aH.mono ?_;rintro u ba ⟨rfl,aG⟩;exact g _ _ (aJ aG) rfl
   refine pH3 0 (.pointer (some c)) ?_;refine pV3 2 18 ?_;refine pV3 3 19 ?_;refine sC3 (fun _ a b _ _ _ _ d _ _ _ g=>?_) ?_
   · replace b:Keep (fun _=>False) o a:=kD b;have b0:_=_:=d 4 20 kR rfl;obtain ⟨S,T,U⟩:=z.out a b;go_simp;exact kq g rfl
   refine pH3 0 (.pointer (some c)) ?_;refine pV3 6 22 ?_;refine pV3 7 23 ?_;refine sC3 (fun _ a b _ _ _ _ d _ _ _ g=>?_) ?_
   · replace b:Keep (fun _=>False) o a:=kD b;have b2:_=_:=d 8 24 kR rfl;obtain ⟨S,T,U⟩:=z.out a b;go_simp;exact kq g rfl
   refine sC3 (fun _ a b _ _ _ _ d _ _ _ g=>?_) ?_
   · replace b:Keep (fun _=>False) o a:=kD b;have b1:_=_:=d 5 21 kR rfl;have b3:_=_:=d 9 25 kR rfl;obtain ⟨S,T,U⟩:=z.out a b;go_simp;exact kq g rfl
   refine pV3 10 26 ?_;refine sC3 (fun _ a b _ _ _ _ d _ _ _ g=>?_) ?_
   · replace b:Keep (fun _=>False) o a:=kD b;have b4:_=_:=d 11 27 kR rfl;obtain ⟨S,T,U⟩:=z.out a b;go_simp;exact kq g rfl
   refine pH3 3 (.int .i64 1) ?_;refine pV3 13 29 ?_;refine pV3 14 30 ?_;refine pH3 3 (.int .i64 1) ?_;refine sC3 (fun _ _ _ _ _ _ _ d _ _ _ g=>?_) ?_
   · have aZ:_=_:=d 1 17 kR rfl;have b5:_=_:=d 12 28 kR rfl;have b6:_=_:=d 15 31 kR rfl;have b7:_=_:=d 16 32 kR rfl;go_simp;exact kq g rfl
   exact aD
 · intro s y j b d;replace b:Keep (fun _=>False) o y:=kD b;have av:s (.tmp 33)=.agg #[(n:Int),.int .i64 0,.int .i64 1,.int .i64 1]:=d 17 33 dC rfl;simp only [zqq];rw [av];clear d;have m:Bk y e 122 #[.int .i64 0,.int .i64 0,.int .i64 0,.int .i64 0]:=Keep.bk b X.out fun j=>j;have aw:=m.frozen 0;have ax:=m.frozen 1;have ay:=m.frozen 2;have az:=m.frozen 3;have aq:=m.cell 0;have ar:=m.cell 1;have J:=m.cell 2;have au:=m.cell 3;obtain ⟨ag,ac⟩:=hqq2 m b;clear m b;change wpAny prog Region.Mode.any _ _ (1+j) (bX 18 19) _ y;rw [zCs 1 j];refine bC (f:=j) (i:=18) kR ?_;refine bN rfl rfl ?_;generalize g:wpAny prog _ _ _ j _=K5;go_simp;subst g;refine bT kR ?_;have a3:Below e k y:=af.out.trans (ac.out.to_below (zCm X.out.lt) fun Z _ j=>j.elim);have K:=(((a3.setCell (p:=⟨e,0,none⟩) nL (.int .i64 (n:Int))).setCell (p:=⟨e,1,none⟩) nL (.int .i64 0)).setCell (p:=⟨e,2,none⟩) nL (.int .i64 1)).setCell (p:=⟨e,3,none⟩) nL (.int .i64 1);have O:=(((ag.out.set 0 (.int .i64 (n:Int))).set 1 (.int .i64 0)).set 2 (.int .i64 1)).set 3 (.int .i64 1);generalize (((y.setCell ⟨e,0,none⟩ (.int .i64 (n:Int))).setCell ⟨e,1,none⟩ (.int .i64 0)).setCell ⟨e,2,none⟩ (.int .i64 1)).setCell ⟨e,3,none⟩ (.int .i64 1)=w9 at K O⊢;obtain ⟨ai,am⟩:=hqq2 K O;clear K O a3 aw ax ay az aq ar J au;go_wp2_with fail;exact bodyPost_ret (results_cell_row (P:=prog) (fn:=f179) (p:=2) (ty:=122) rfl _ w9 e 122 #[(n:Int),.int .i64 0,.int .i64 1,.int .i64 1] (0,0) _ rfl am.out underlying122 rfl kR) rfl ⟨rfl,ai.out⟩
def aHV {a b:Nat} (c:a≠b):((a:Int)==(b:Int))=false:=by rw [zCb];omega
def aHa {a b:List Nat} {c n:Nat} (e:a.length=n) (f:b.length=n) (d:a.take c=b.take c) (g:n<=c):a=b:=by
 rw [zAg oM,zAg oM] at d;exact d
def tM (B C:Option Addr) (b N g O I J:Nat) (c d:List Nat) (f:World) (q:Rd f I 1 B b (c.map sv)) (r:Rd f J 1 C g (d.map sv)) (a1:b<=1099511627776) (a2:g<=1099511627776):
 Calls prog 15 #[.slice B b N,.slice C g O] f fun T X=>T=.returned (.bool (decide (c=d)))/\Below f.heap.size f X:=by
 have G:c.length=b:=by simpa using q.1
 have H:d.length=g:=by simpa using r.1
 obtain ⟨K,L,i,j⟩:=hqq4 q r G H;clear q r G H;by_cases s:b=g
 · subst s;go_enter func15,ntmps15;go_wp2;go_loopw [5] (fun y wr=>∃a:Nat,a<=b/\y=.int .i64 a/\c.take a=d.take a/\∃V,wr=f.drewN V) (fun y _=>b -(intOf y).toNat)
   case atStart=>exact ⟨0,zAp _,rfl,rfl,0,rfl⟩
   case round=>
    obtain ⟨a,a0,rfl,m,a3,rfl⟩:=hrel;by_cases F:a < b
    · obtain ⟨z,v⟩:∃z,c[a]?=some z:=⟨c[a]'(by have:=i.out;omega),zAa (by have:=i.out;omega)⟩;obtain ⟨A,x⟩:∃A,d[a]?=some A:=⟨d[a]'(by have:=j.out;omega),zAa (by have:=j.out;omega)⟩;obtain ⟨b1,a4,a6,rfl,Y,t,R⟩:=K.out.get F;obtain ⟨b2,a5,a7,rfl,Z,u,S⟩:=L.out.get F;rw [zAf,v] at t;rw [zAf,x] at u;simp only [Option.map_some,Option.some.injEq] at t u;subst t;subst u;unfold sv at R S;obtain ⟨M,D,E⟩:=hqq3 m v x;clear m v x;by_cases w:z=A
      · subst w;go_wp2;go_quiet (fail);go_wp2;go_roundw
        case rel=>refine ⟨a+1,by omega,by go_num,?_,_,rfl⟩;rw [zAv,zAv,M.out,D.out,E.out]
        case measure=>simp [intOf];omega
      · have W:=aHV w
        have e:c≠d:=fun p=>w (by
         have k:=D.out;rw [p,E.out] at k;injection k with k;exact k.symm)
        have o:=lhd e;clear e;go_wp2;go_quiet (fail);go_wp2;go_ret;exact ⟨cO (by rw [zBy o.out]),below_drewN (below_drewN bR _) _⟩
    · have U:b<=a:=oM;have e:=lhd (aHa i.out j.out m U);clear m;go_wp2;go_ret;exact ⟨cO (by rw [zBz e.out]),below_drewN bR _⟩
 · have e:c≠d:=fun p=>s (by rw [<-i.out,<-j.out,p]);have o:=lhd e;have W:=aHV s;clear e;go_enter func15,ntmps15;go_wp2;go_ret;exact ⟨cO (by rw [zBy o.out]),Below.refl _ _⟩
end
end Go.Proofs.YthldmddkfbijhaaGreatDoor
