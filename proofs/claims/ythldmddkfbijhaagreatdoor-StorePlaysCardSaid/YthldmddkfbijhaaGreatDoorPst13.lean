/- Lemmas of the walk. Conditions: each its own. -/
import Derived.Test.YthldmddkfbijhaaGreatDoorPst9
import Derived.Test.YthldmddkfbijhaaGreatDoorPst10
import Derived.Test.YthldmddkfbijhaaGreatDoorProg
import Derived.Test.YthldmddkfbijhaaGreatDoorShl
set_option linter.all false
set_option maxRecDepth 100000
set_option maxHeartbeats 4000000
open Go.Proofs.Tryz
namespace Go.Proofs.YthldmddkfbijhaaGreatDoor
section
open Go.ChangeShapes Go.WideShapes Go.ChangeAt Go.RowKit
theorem aIP (a:List Int) (b:∀n∈a,(Lit.int .u8 n).wf=true):∃l:List UInt8,a.map (Value.int .u8)=l.map bv:=by
 induction a with
 | nil=>exact ⟨[],rfl⟩
 | cons c a f=>
   obtain ⟨l,d⟩:=f fun n e=>b n (List.mem_cons_of_mem _ e);have g:=bounds_u8 (b c (List.mem_cons_self ..));refine ⟨UInt8.ofNat c.toNat::l,?_⟩;simp only [List.map_cons,d];congr 1;unfold bv;congr 1;simp [UInt8.toNat_ofNat'];omega
end
section
open Go.RowKit
theorem aBZ (g e m:Nat) (v w x u:Value) (i P:Nat) (b:List Nat) (a:List (Nat×Nat)) (t:List Bool) (k:List Nat) (row:Nat) (d:World) (o:PermAt d g e m v w x u i P b a t k) (s:b.Pairwise (fun z A=>aB a z < aB a A)) (D:b.length<=1099511627776) (r:∀c∈b,aB a c≠row):
 Calls prog 183 #[e,(row:Int)] d fun j E=>j=.returned (.int .i64 (-1))/\Below d.heap.size d E:=by
 have f:=kA g e m v w x u i P b a t k row d o s D;have q:decide (∃c∈b,aB a c=row)=false:=by simp only [decide_eq_false_iff_not];rintro ⟨c,B,C⟩;exact r c B C
 rw [q] at f;clear o s r q;go_enter func183,ntmps183;go_wp2_with fail;refine f.mono ?_;rintro j w1 ⟨rfl,p⟩;have y:=lhd p;clear f p;go_wp2_with fail;go_ret;exact ⟨rfl,y.out⟩
theorem aBY (z k F:Nat) (M N O L:Value) (A P:Nat) (d:List Nat) (a:List (Nat×Nat)) (K:List Bool) (C:List Nat) (row i:Nat) (r:World) (g:PermAt r z k F M N O L A P d a K C) (p:d.Pairwise (fun j s=>aB a j < aB a s)) (a1:d.length<=1099511627776) (ab:a.length<=1099511627776) (o:i∈d) (w:aB a i=row):
 Calls prog 183 #[k,(row:Int)] r fun B a7=>B=.returned (.int .i64 ((aI a i:Nat):Int))/\Below r.heap.size r a7:=by
 have t:=kA z k F M N O L A P d a K C row r g p a1;have H:decide (∃y∈d,aB a y=row)=true:=zBz ⟨i,o,w⟩;rw [H] at t;obtain ⟨e,q,a4⟩:=(tL p row).2 ⟨i,o,w⟩;obtain ⟨f,J⟩:∃f,(d.countP fun y=>decide (aB a y < row))=f:=⟨_,rfl⟩;rw [J] at q t;have a6:e=i:=by
  obtain ⟨j,G,u⟩:=zBo.1 o;obtain ⟨s,v⟩:=zAc.1 q;rcases Nat.lt_trichotomy j f with b | b | b;have:=zAr.1 p j f G s b;rw [u,v] at this;omega
  · subst b;rw [<-u,<-v]
  have:=zAr.1 p f j s G b;rw [u,v] at this;omega
 subst a6;have ai:f < d.length:=(zAc.1 q).1;have a5:e < a.length:=g.lt e o;obtain ⟨D,X,a3,af,Z⟩:=World.ownsRow.form g.orow oM;obtain ⟨E,Y,a2,ag,a0⟩:=World.ownsRow.form g.lrow oM;subst a3;subst a2;have I:=(cG a e a5).2;obtain ⟨R,V,T⟩:=hqq3 g q I;have ah:(f:Int) < (d.length:Int):=oM;have aj:(e:Int) < (a.length:Int):=oM;clear g p H a4 J q I o w;go_enter func183,ntmps183;go_wp2_with fail;refine t.mono ?_;rintro B w1 ⟨rfl,m⟩;have b:=R.out.below m;have a8:∀c,(w1.drewN c).cell? ⟨k,1,none⟩=some (.slice (some ⟨E,0,none⟩) a.length Y):=fun c=>(b.blk.cell 1).trans rfl;have a9:∀c,(w1.drewN c).cell? ⟨k,2,none⟩=some (.slice (some ⟨D,0,none⟩) d.length X):=fun c=>(b.blk.cell 2).trans rfl;have ae:=b.blk.lt;have aa:∀c,(w1.drewN c).cell? ⟨D,f,none⟩=some (.int .i64 (e:Int)):=fun c=>(World.ownsRow.cellAt b.orow f oM).trans (by rw [zAf,V.out];rfl);have W:∀c,(w1.drewN c).cell? ⟨E,e*2+1,none⟩=some (.int .i64 ((aI a e:Nat):Int)):=fun c=>(World.ownsRow.cellAt b.lrow (e*2+1) oM).trans T.out;have S:=lhd m;have ac:=zAl Z m.size;have ad:=zAl a0 m.size;obtain ⟨ak,x⟩:=eqx (aI a e);rw [x] at W;have U:=lhd x;clear t m b x;go_wp2_with fail;go_quiet (fail);go_wp2_with fail;go_ret;exact ⟨by rw [U.out];rfl,below_drewN S.out _⟩
end
section
open Go.RowKit Go.Shelf
attribute [local go_sem] Oper.semAt_some
section
variable {P : Program} {ops : Array Oper} {md : Region.Mode} {Q : Exit -> Act -> World -> Prop} {l n : Nat}
theorem aFS {f:Oper} {e:Act} {d:Act->World->Prop} {b:Result Next} (a:f.upon P e d Q b):f.uponIn (Fence.wide.inRound l) n P e d Q b:=by
 cases b with
 | ok c s=>
   cases c with
   | value g=>exact a
   | skip=>exact a
   | defer t=>exact a
   | enter u j=>
     refine ⟨fun a=>(by simp [Fence.wide] at a),CallsIn.inRound l (callsIn_wide.2 (Calls.mono a ?_))⟩;intro o i p;cases o <;> exact p
   | row row j=>
     refine ⟨fun a=>(by simp [Fence.wide] at a),fun k m _=>?_⟩;obtain ⟨g,i,q,r⟩:=a k m;exact ⟨g,i,q,stepsIn_wide.2 r⟩
   | _=>exact a.elim
 | halt c s=>cases c <;> exact a
theorem aDV (r:¬LetsOut Q) (p:∀(e:Nat) (f:Oper),ops[e]?=some f->∀o,f.op≠.defer o):∀(d:Nat) (i:Array Bool) (b:Act) (c:World),wpAny P md ops Q d i b c->wpAnyIn (Fence.wide.inRound l) n P md ops Q d i b c:=by
 intro d
 induction d with
 | zero=>intro i b c g;exact g
 | succ d k=>
   intro i b c g;refine ⟨g.1,fun e q=>?_⟩;have a:=g.2 e q;unfold wpOp at a;unfold wpOpIn;cases j:ops[e]? with
   | none=>
     rw [j] at a;exact k _ _ _ a
   | some f=>
     rw [j] at a;simp only at a⊢;by_cases m:Region.wanted f (yielded ops b.tmps)=true;rw [zBx m] at a⊢;rcases a with a | a;refine ⟨fun _ _=>trivial,?_⟩;rw [Oper.semAt_eq _ _ _ (p e f j)];exact aFS (Oper.wp_mono (fun b c=>k _ b c) a);exact absurd a.2 r;rw [zBw m] at a⊢;exact ⟨fun _ _=>trivial,k _ _ _ a⟩
end
def bkL (a:List UInt8) (c:Nat):List (Nat×UInt8):=(List.range c).map fun b=>(a.length - 1 - b,a.getD (a.length - 1 - b) 0)
theorem aIU (a:List UInt8) (b:Nat):bkL a (b+1)=bkL a b++ [(a.length - 1 - b,a.getD (a.length - 1 - b) 0)]:=by simp [bkL,List.range_succ]
theorem aJZ (b:List UInt8) (a:Nat):(bkL b a).length=a:=by simp [bkL]
theorem aB9 (s:Fence) (n:Nat) (Z:s.fn 216) (a1:s.round=none) (a9:1<=n) (l j o y V:Nat) (z:Option Addr) (b:List UInt8) (C:0 < b.length->z=some ⟨o,y,none⟩) (a0:b.length<=1000000) (m A:List (Nat×UInt8)->World->Prop)
 (F:∀g i e,m g e->g.length < b.length->YieldAt s (n - 1) prog l #[(i.1:Int),.int .u8 (i.2.toNat:Int)] e fun d f=>
  (d=.returned (.bool true)/\m (g++ [i]) f/\KpB j o e f)∨(d=.returned (.bool false)/\A (g++ [i]) f))
 (e:World) (u:e.cell? ⟨j,0,none⟩=some (.slice z b.length V)) (G:∀a,a < b.length->e.cell? ⟨o,y+a,none⟩=some (.int .u8 ((b.getD a 0).toNat:Int))) (B:m [] e):
 CallsIn s n prog 216 #[.func (.yield l) #[] #[],j] e fun d f=>(∃a3,d=.returned a3)/\
  ((∃J,J=bkL b b.length/\m J f)∨(∃g,True/\A g f)):=by
 obtain ⟨c,w⟩:=eqx b.length;rw [w] at u a0;obtain ⟨L,k,O,S,M,K⟩:=hqq6 C w F G u B;clear w F G B C;refine callsIn_of_wp func216 rfl Z ?_ a1;simp only [ntmps216,List.size_toArray,zCg,List.length_nil,Nat.reduceAdd,Nat.reduceSub,Array.replicate_succ,Array.replicate_zero,List.push_toArray,List.append_toArray,List.nil_append,List.cons_append]
 gi_wp2
 clear u
 gi_loopw [3] (fun x wr=>∃r:Nat,r<=c/\x=.int .i64 ((r:Int) - 1)/\m (bkL b (c - r)) wr/\KpB j o e wr) (fun x _=>(intOf x+1).toNat)
 case atStart=>exact ⟨c,zAs _,rfl,by rw [Nat.sub_self];exact K.out,fun _ _=>rfl⟩
 case round=>
  obtain ⟨r,aa,rfl,p,q⟩:=hrel;rcases r with _ | a
  · have d:((0:Nat):Int) - 1=-1:=oM;rw [d];rw [Nat.sub_zero] at p;have N:=lhd p;clear p q
    gi_wp2
    go_end0;exact ⟨⟨_,rfl⟩,.inl ⟨_,rfl,by rw [k.out];exact N.out⟩⟩
  · have d:((a+1:Nat):Int) - 1=(a:Int):=oM;rw [d];have v:bkL b (c - a)=bkL b (c -(a+1))++ [(a,b.getD a 0)]:=(by rw [show c - a=(c -(a+1))+1 by omega,aIU,k.out,show c - 1 -(c -(a+1))=a by omega]);have X:=(q ⟨j,0,none⟩ (.inl rfl)).trans M.out;rw [L.out (by rw [k.out];omega)] at X;have Y:=(q ⟨o,y+a,none⟩ (.inr rfl)).trans (S.out a (by rw [k.out];omega));have a8:a < c:=oM;obtain ⟨i,I⟩:=eqx (b.getD a 0);rw [I] at Y v;obtain ⟨a7,ab,a5,a6,a2,W⟩:=O.out (bkL b (c -(a+1))) (a,i) wr p (by rw [aJZ,k.out];omega);dsimp only at a2;obtain ⟨R,T⟩:=hqq2 v q;clear v q p d I
    gi_wp2
    refine W.mono ?_;rintro d a4 (⟨rfl,D,H⟩|⟨rfl,E⟩)
    · obtain ⟨t,U⟩:=hqq2 D H;clear D H
      gi_wp2
      go_roundw
      case rel=>exact ⟨a,by omega,rfl,by rw [R.out];exact t.out,T.out.trans U.out⟩
      case measure=>simp [intOf]
    · have t:=lhd E;clear E
      gi_wp2
      refine bodyPost_ret (results_none rfl _ _ _) rfl ?_;exact ⟨⟨_,rfl⟩,.inr ⟨_,trivial,t.out⟩⟩
end
section
open Go.RowKit
theorem aBj {a:List UInt8} {b:List Nat} (c:IsSuf (aF a) b):(aE (aF a) b).length=a.length+1:=by rw [bP,c.len,aL]
theorem aBP (c:Nat) (m:Option Addr) (d q B:Nat) (j r:Int) (i:Int) (o C:List UInt8) (n:Nat) (A:o.length=n) (a:World) (t:Bk a c 56 #[.string ⟨o.toArray⟩,.int .i64 i])
 (z:Rd a B 1 m d (C.map bv)) (M:B<=a.heap.size) (H:0 < d->∀D,m=some D->D.block≠c) (a5:n<=549755813888) (a3:d<=549755813888) (a9:-9223372036854775808<=(j:Int)/\(j:Int)<=9223372036854775807) (a7:-9223372036854775808<=(r:Int)/\(r:Int)<=9223372036854775807) (a8:0<=i/\i<=2147483648)
 (a1:¬(j < 0)) (a2:¬(j > (n:Int))) (a6:i -(n:Int) < (d:Int)):
 Calls prog 25 #[c,aZ 1 j r m d q] a fun J O=>cD c i (o) ⟨3,0, [], []⟩ a O J:=by
 have a4:C.length=d:=by simpa using z.1
 have f:=bS (kind:=1) (p:=j) (k:=r) (cd:=q) t z M;obtain ⟨w,I,S,R⟩:=hqq4 f t A H;have N:=t.lt;have af:(⟨o.toArray⟩:ByteArray).size=n:=(aT o).trans A;have ae:a.cell? ⟨c,0,none⟩=some (.string ⟨o.toArray⟩):=(t.cell 0).trans rfl;clear z t f A H;unfold aZ;go_enter func25,ntmps25;go_wp2;obtain ⟨x,F⟩:=eqx ((a.alloc (.cells #[.int .i64 1,.int .i64 j,.int .i64 r,.slice m d q] 46)).alloc (.cells #[.int .i64 0,.int .i64 0,.slice none 0 0,.slice none 0 0] 50));rw [F] at w⊢;have f:=w.out;clear F w;refine wp_region_any kR ?_;refine aQ [27,28,29,30,31,32,33,34,35,36] Grow (Vs [is (.pointer (some ⟨a.heap.size,3,none⟩)),is (.slice m d q),is (d:Int),is c,is c,is (.pointer (some ⟨c,1,none⟩)),is (.int .i64 i),is (n:Int),is (.int .i64 (i -(n:Int))),is (.bool true)]) _ _ rfl kR bR (fun _ _=>Grow.trans) (gK tA2) ?_ ?_
 · refine aO ?_;refine pH 3 (.pointer (some ⟨a.heap.size,0,none⟩)) ?_;refine pL 0 27 (fun u b=>have b:Grow x u:=gD b;(((f.step.below b f.step.lt).cell 3).trans rfl:u.cell? ⟨a.heap.size,3,none⟩=some (.slice m d q))) ?_;refine pV 1 28 ?_;refine pH 0 (.pointer (some ⟨c,0,none⟩)) ?_;refine pV 3 30 ?_;refine pV 4 31 ?_;refine pL 5 32 (fun u b=>have b:Grow x u:=gD b;(((f.mod.below b f.mod.lt).cell 1).trans rfl:u.cell? ⟨c,1,none⟩=some (.int .i64 i))) ?_;refine pH 5 (.int .i64 (n:Int)) ?_;refine sC (fun _ _ _ _ _ _ g _ _ _ y=>?_) ?_
   · have U:_=_:=g 6 33 kR rfl;have V:_=_:=g 7 34 kR rfl;go_simp;exact y _ _ bR (dD (by rw [IntKind.wrap_i64];omega))
   refine sC (fun _ _ _ _ _ _ g _ _ _ y=>?_) ?_
   · have T:_=_:=g 2 29 kR rfl;have W:_=_:=g 8 35 kR rfl;go_simp;exact y _ _ bR (vK (by simp <;> omega))
   exact aD
 · intro L v b g;replace b:Grow x v:=gD b;have K:L (.tmp 36)=.bool true:=g 9 36 rfl;simp only [zqq];rw [K];clear g;have E:=f.grow b;have e:=E.res;have aa:v.cell? ⟨a.heap.size+1,0,none⟩=some (.int .i64 0):=(e.cell 0).trans rfl;have X:=e.frozen 0;have ab:v.cell? ⟨a.heap.size+1,1,none⟩=some (.int .i64 0):=(e.cell 1).trans rfl;have Y:=e.frozen 1;have ac:v.cell? ⟨a.heap.size+1,2,none⟩=some (.slice none 0 0):=(e.cell 2).trans rfl;have Z:=e.frozen 2;have ad:v.cell? ⟨a.heap.size+1,3,none⟩=some (.slice none 0 0):=(e.cell 3).trans rfl;have a0:=e.frozen 3;go_wp2;have G:=aCT (v0:=.int .i64 3) (v1:=.int .i64 0) (v2:=.slice none 0 0) (v3:=.slice none 0 0) (Nat.le_succ a.heap.size) E.low;exact cQ (s:=a.heap.size+1) (A1:=none) (c1:=0) (A2:=none) (c2:=0) rfl (lW e) (Keep.of_below G) (RdN.nil _ _ _ _) (bB _ _ _) (I.out.below G N)
theorem aFc (a:Nat) (v:Option Addr) (q w K:Nat) (d:Nat) (x:Int) (r:Int) (g y:List UInt8) (n:Nat) (J:g.length=n) (b:World) (z:Bk b a 56 #[.string ⟨g.toArray⟩,.int .i64 r])
 (I:Rd b K 1 v q (y.map bv)) (Z:K<=b.heap.size) (S:0 < q->∀L,v=some L->L.block≠a) (aA:n<=549755813888) (ay:q<=549755813888) (aH:-9223372036854775808<=(d:Int)/\(d:Int)<=9223372036854775807) (aF:-9223372036854775808<=(x:Int)/\(x:Int)<=9223372036854775807) (aG:0<=r/\r<=2147483648)
 (ax:d<=n) (aB:(q:Int)<=r -(n:Int)):
 Calls prog 25 #[a,aZ 1 d x v q w] b fun X a4=>cD a r (g.take d++(y++g.drop (d+0))) ⟨0,0, [], []⟩ b a4 X:=by
 have az:y.length=q:=by simpa using I.1
 have f:=bS (kind:=1) (p:=d) (k:=x) (cd:=w) z I Z;obtain ⟨G,a5,B,V⟩:=hqq4 f z J S;have aC:=z.lt;have aU:(⟨g.toArray⟩:ByteArray).size=n:=(aT g).trans J;have aS:b.cell? ⟨a,0,none⟩=some (.string ⟨g.toArray⟩):=(z.cell 0).trans rfl;clear I z f J S;obtain ⟨D,H⟩:=eqx ((g.take d++y)++g.drop d);have N:g.take d++(y++g.drop (d+0))=D:=by rw [zBq,<-zCo];exact H
 rw [N];have U:=lhd H;clear H N;have a6:=fun b=>aIX g b d (by have:=B.out;omega);have a7:=fun b=>aIW g b d (by have:=B.out;omega);have b1:=fun b=>aAX g b d (by have:=B.out;omega);have b2:=fun b=>aAW g b d (by have:=B.out;omega);have ab:¬((d:Int) < 0):=oM;have ac:¬((d:Int) > (n:Int)):=oM;unfold aZ;go_enter func25,ntmps25;go_wp2;obtain ⟨E,O⟩:=eqx ((b.alloc (.cells #[.int .i64 1,.int .i64 d,.int .i64 x,.slice v q w] 46)).alloc (.cells #[.int .i64 0,.int .i64 0,.slice none 0 0,.slice none 0 0] 50));rw [O] at G⊢;have f:=G.out;clear O G;refine wp_region_any kR ?_;refine aQ [27,28,29,30,31,32,33,34,35,36] Grow (Vs [is (.pointer (some ⟨b.heap.size,3,none⟩)),is (.slice v q w),is (q:Int),is a,is a,is (.pointer (some ⟨a,1,none⟩)),is (.int .i64 r),is (n:Int),is (.int .i64 (r -(n:Int))),is (.bool false)]) _ _ rfl kR bR (fun _ _=>Grow.trans) (gK tA2) ?_ ?_
 · refine aO ?_;refine pH 3 (.pointer (some ⟨b.heap.size,0,none⟩)) ?_;refine pL 0 27 (fun i c=>have c:Grow E i:=gD c;(((f.step.below c f.step.lt).cell 3).trans rfl:i.cell? ⟨b.heap.size,3,none⟩=some (.slice v q w))) ?_;refine pV 1 28 ?_;refine pH 0 (.pointer (some ⟨a,0,none⟩)) ?_;refine pV 3 30 ?_;refine pV 4 31 ?_;refine pL 5 32 (fun i c=>have c:Grow E i:=gD c;(((f.mod.below c f.mod.lt).cell 1).trans rfl:i.cell? ⟨a,1,none⟩=some (.int .i64 r))) ?_;refine pH 5 (.int .i64 (n:Int)) ?_;refine sC (fun _ _ _ _ _ _ e _ _ _ m=>?_) ?_
   · have ae:_=_:=e 6 33 kR rfl;have af:_=_:=e 7 34 kR rfl;go_simp;exact m _ _ bR (dD (by rw [IntKind.wrap_i64];omega))
   refine sC (fun _ _ _ _ _ _ e _ _ _ m=>?_) ?_
   · have ad:_=_:=e 2 29 kR rfl;have ag:_=_:=e 8 35 kR rfl;go_simp;exact m _ _ bR (vK (by simp <;> omega))
   exact aD
 · intro M t c e;replace c:Grow E t:=gD c;have Y:M (.tmp 36)=.bool false:=e 9 36 rfl;simp only [zqq];rw [Y];clear e;have T:=f.grow c;clear f c;revert T;generalize t=W2;intro f;go_wp2;refine wp_region_any kR ?_;refine bH [38,39,40,41,42,43,44,45,46,47,48,49,50,51,52,53,54,55,56,57,58,59] (fun o=>o=a) 22 [4,15,22] (fun w1=>Bk w1 a 56 #[.string ⟨g.toArray⟩,.int .i64 r]) (fun _ w1=>Bk w1 a 56 #[.string ⟨D.toArray⟩,.int .i64 r]) [is a,is a,is a,is a,is (.string ⟨g.toArray⟩),is (.pointer (some ⟨b.heap.size,1,none⟩)),is (d:Int),is (.string ⟨(g.take d).toArray⟩),is (.pointer (some ⟨b.heap.size,3,none⟩)),is (.slice v q w),is (.string ⟨y.toArray⟩),is (.string ⟨(g.take d++y).toArray⟩),is a,is a,is a,is (.string ⟨g.toArray⟩),is (.pointer (some ⟨b.heap.size,1,none⟩)),is (d:Int),is (.string ⟨(g.drop d).toArray⟩),is (.string ⟨D.toArray⟩),is a,is a,cX] _ _ rfl kR kR (f.mod) (fun w1 aR j _ z=>Bk.below j z j.lt) (fun _ _ _ j x=>Bk.below j x j.lt) tA0 ?_ ?_
   · refine aO ?_;refine pH3 0 (.pointer (some ⟨a,0,none⟩)) ?_;refine pH3 0 (.pointer (some ⟨a,0,none⟩)) ?_;refine pV3 1 39 ?_;refine pV3 2 40 ?_;refine sC3 (fun _ i _ C _ _ _ e _ _ _ m=>?_) ?_
     · have A:=C rfl;have ah:_=_:=e 3 41 kR rfl;have a9:i.cell? ⟨a,0,none⟩=some (.string ⟨g.toArray⟩):=(A.cell 0).trans rfl;go_simp;exact kq m rfl
     refine pH3 3 (.pointer (some ⟨b.heap.size,0,none⟩)) ?_;refine pL3 5 43 (fun i c=>have c:Keep (fun o=>o=a) W2 i:=kD c;(((c.bk f.step (fun j=>absurd (show b.heap.size=a from j) (by have:=f.gxl;omega))).cell 1).trans rfl:i.cell? ⟨b.heap.size,1,none⟩=some (.int .i64 (d:Int)))) ?_;refine pW3 4 42 6 44 ?_;refine pH3 3 (.pointer (some ⟨b.heap.size,0,none⟩)) ?_;refine pL3 8 46 (fun i c=>have c:Keep (fun o=>o=a) W2 i:=kD c;(((c.bk f.step (fun j=>absurd (show b.heap.size=a from j) (by have:=f.gxl;omega))).cell 3).trans rfl:i.cell? ⟨b.heap.size,3,none⟩=some (.slice v q w))) ?_;refine sC3 (fun _ i c _ _ _ _ e _ _ _ m=>?_) ?_
     · replace c:Keep (fun o=>o=a) W2 i:=kD c;have aj:_=_:=e 9 47 kR rfl;have aN:=iR (Rd.keepF f.rD c f.low.size V.out);go_simp;exact kq m rfl
     refine sC3 (fun _ _ _ _ _ _ _ e _ _ _ m=>?_) ?_
     · have ai:_=_:=e 7 45 kR rfl;have ak:_=_:=e 10 48 kR rfl;go_simp;rw [zBw (by have:=B.out;simp;omega)];exact m _ _ (aJ bR) (iQ _ _)
     refine pH3 0 (.pointer (some ⟨a,0,none⟩)) ?_;refine pV3 12 50 ?_;refine pV3 13 51 ?_;refine sC3 (fun _ i _ C _ _ _ e _ _ _ m=>?_) ?_
     · have A:=C rfl;have am:_=_:=e 14 52 kR rfl;have aa:i.cell? ⟨a,0,none⟩=some (.string ⟨g.toArray⟩):=(A.cell 0).trans rfl;go_simp;exact kq m rfl
     refine pH3 3 (.pointer (some ⟨b.heap.size,0,none⟩)) ?_;refine pL3 16 54 (fun i c=>have c:Keep (fun o=>o=a) W2 i:=kD c;(((c.bk f.step (fun j=>absurd (show b.heap.size=a from j) (by have:=f.gxl;omega))).cell 1).trans rfl:i.cell? ⟨b.heap.size,1,none⟩=some (.int .i64 (d:Int)))) ?_;refine pW3 15 53 17 55 ?_;refine sC3 (fun _ _ _ _ _ _ _ e _ _ _ m=>?_) ?_
     · have al:_=_:=e 11 49 kR rfl;have an:_=_:=e 18 56 kR rfl;go_simp;rw [zBw (by have:=B.out;simp;omega)];exact m _ _ (aJ bR) ((iQ _ _).trans (by rw [U.out]))
     refine pV3 0 38 ?_;refine pV3 20 58 ?_;refine sC3 (fun _ i _ C _ _ _ e _ _ _ m=>?_) ?_
     · have A:=C rfl;have ap:_=_:=e 21 59 kR rfl;have ao:_=_:=e 19 57 kR rfl;have av:=A.frozen 0;have a8:i.cell? ⟨a,0,none⟩=some (.string ⟨g.toArray⟩):=(A.cell 0).trans rfl;go_simp;exact m (.bool true) _ (aV (Keep.setCell (F:=fun o=>o=a) (Keep.refl _ _) (p:=⟨a,0,none⟩) (.inl rfl) _)) (A.set 0 _)
     exact aD
   · intro M t c e R;replace c:Keep (fun o=>o=a) W2 t:=kD c;obtain ⟨aP,a2⟩:∃a3,(fun _ w1=>Bk w1 a 56 #[.string ⟨D.toArray⟩,.int .i64 r]) a3 t:=R 22 dC;simp only [zqq];clear e R;have aE:=f.gxl;have u:=c.bk f.res (fun j=>absurd (show b.heap.size+1=a from j) oM);have aI:t.cell? ⟨b.heap.size+1,0,none⟩=some (.int .i64 0):=(u.cell 0).trans rfl;have aq:=u.frozen 0;have aK:t.cell? ⟨b.heap.size+1,1,none⟩=some (.int .i64 0):=(u.cell 1).trans rfl;have ar:=u.frozen 1;have aL:t.cell? ⟨b.heap.size+1,2,none⟩=some (.slice none 0 0):=(u.cell 2).trans rfl;have au:=u.frozen 2;have aM:t.cell? ⟨b.heap.size+1,3,none⟩=some (.slice none 0 0):=(u.cell 3).trans rfl;have aw:=u.frozen 3;go_wp2;have a0:=xB (v0:=.int .i64 0) (v1:=.int .i64 0) (v2:=.slice none 0 0) (v3:=.slice none 0 0) (Nat.le_succ b.heap.size) ((Keep.of_below f.low).trans c);have a1:=qJ (W:=t) (s:=b.heap.size+1) (v0:=.int .i64 0) (v1:=.int .i64 0) (v2:=.slice none 0 0) (v3:=.slice none 0 0);exact cQ (s:=b.heap.size+1) (A1:=none) (c1:=0) (A2:=none) (c2:=0) rfl (lW u) a0 (RdN.nil _ _ _ _) (bB _ _ _) (a1.bk a2 (fun j=>absurd (show a=b.heap.size+1 from j) (by have:=f.gxl;omega)))
theorem aFd (b:Nat) (C:Option Addr) (x E K:Nat) (c f:Nat) (v:Int) (d L:List UInt8) (n:Nat) (J:d.length=n) (a:World) (t:Bk a b 56 #[.string ⟨d.toArray⟩,.int .i64 v])
 (I:Rd a K 1 C x (L.map bv)) (V:K<=a.heap.size) (S:0 < x->∀M,C=some M->M.block≠b) (ax:n<=549755813888) (av:x<=549755813888) (aC:-9223372036854775808<=(c:Int)/\(c:Int)<=9223372036854775807) (aA:-9223372036854775808<=(f:Int)/\(f:Int)<=9223372036854775807) (aB:0<=v/\v<=2147483648)
 (au:c+f<=n):
 Calls prog 25 #[b,aZ 2 c f C x E] a fun U a2=>cD b v (d.take c++([]++d.drop (c+f))) ⟨0,0, [], []⟩ a a2 U:=by
 have aw:L.length=x:=by simpa using I.1
 have g:=bS (kind:=2) (p:=c) (k:=f) (cd:=E) t I V;obtain ⟨G,a4,y,a3⟩:=hqq4 g t J S;have ay:=t.lt;have aM:(⟨d.toArray⟩:ByteArray).size=n:=(aT d).trans J;have aL:a.cell? ⟨b,0,none⟩=some (.string ⟨d.toArray⟩):=(t.cell 0).trans rfl;clear I t g J S;obtain ⟨B,Y⟩:=eqx (c+f);obtain ⟨D,H⟩:=eqx ((d.take c++ [])++d.drop B);have N:d.take c++([]++d.drop (c+f))=D:=by rw [Y,<-zCo];exact H
 rw [N];have T:=lhd H;clear H N;have a5:=fun a=>aIX d a c (by have:=y.out;omega);have a6:=fun a=>aIW d a B (by have:=y.out;omega);have b1:=fun a=>aAX d a c (by have:=y.out;omega);have b2:=fun a=>aAW d a B (by have:=y.out;omega);have aa:¬((c:Int) < 0):=oM;have ab:¬((c:Int) > (n:Int)):=oM;have ac:¬((f:Int) > (n:Int) -(c:Int)):=oM;have ad:¬((f:Int) < 0):=oM;unfold aZ;go_enter func25,ntmps25;go_wp2;obtain ⟨z,O⟩:=eqx ((a.alloc (.cells #[.int .i64 2,.int .i64 c,.int .i64 f,.slice C x E] 46)).alloc (.cells #[.int .i64 0,.int .i64 0,.slice none 0 0,.slice none 0 0] 50));rw [O] at G⊢;have g:=G.out;clear O G;refine wp_region_any kR ?_;refine bH [104,105,106,107,108,109,110,111,112,113,114,115,116,117,118,119,120,121,122,123,124] (fun o=>o=b) 21 [4,11,21] (fun w1=>Bk w1 b 56 #[.string ⟨d.toArray⟩,.int .i64 v]) (fun _ w1=>Bk w1 b 56 #[.string ⟨D.toArray⟩,.int .i64 v]) [is b,is b,is b,is b,is (.string ⟨d.toArray⟩),is (.pointer (some ⟨a.heap.size,1,none⟩)),is (c:Int),is (.string ⟨(d.take c).toArray⟩),is b,is b,is b,is (.string ⟨d.toArray⟩),is (.pointer (some ⟨a.heap.size,1,none⟩)),is (c:Int),is (.pointer (some ⟨a.heap.size,2,none⟩)),is (f:Int),is (B:Int),is (.string ⟨(d.drop B).toArray⟩),is (.string ⟨D.toArray⟩),is b,is b,cX] _ _ rfl kR kR (g.mod) (fun w1 aK i _ t=>Bk.below i t i.lt) (fun _ _ _ i f=>Bk.below i f i.lt) tA0 ?_ ?_
 · refine aO ?_;refine pH3 0 (.pointer (some ⟨b,0,none⟩)) ?_;refine pH3 0 (.pointer (some ⟨b,0,none⟩)) ?_;refine pV3 1 105 ?_;refine pV3 2 106 ?_;refine sC3 (fun _ m _ A _ _ _ j _ _ _ q=>?_) ?_
   · have u:=A rfl;have ae:_=_:=j 3 107 kR rfl;have a7:m.cell? ⟨b,0,none⟩=some (.string ⟨d.toArray⟩):=(u.cell 0).trans rfl;go_simp;exact kq q rfl
   refine pH3 3 (.pointer (some ⟨a.heap.size,0,none⟩)) ?_;refine pL3 5 109 (fun m e=>have e:Keep (fun o=>o=b) z m:=kD e;(((e.bk g.step (fun i=>absurd (show a.heap.size=b from i) (by have:=g.gxl;omega))).cell 1).trans rfl:m.cell? ⟨a.heap.size,1,none⟩=some (.int .i64 (c:Int)))) ?_;refine pW3 4 108 6 110 ?_;refine pH3 0 (.pointer (some ⟨b,0,none⟩)) ?_;refine pV3 8 112 ?_;refine pV3 9 113 ?_;refine sC3 (fun _ m _ A _ _ _ j _ _ _ q=>?_) ?_
   · have u:=A rfl;have ag:_=_:=j 10 114 kR rfl;have a8:m.cell? ⟨b,0,none⟩=some (.string ⟨d.toArray⟩):=(u.cell 0).trans rfl;go_simp;exact kq q rfl
   refine pH3 3 (.pointer (some ⟨a.heap.size,0,none⟩)) ?_;refine pL3 12 116 (fun m e=>have e:Keep (fun o=>o=b) z m:=kD e;(((e.bk g.step (fun i=>absurd (show a.heap.size=b from i) (by have:=g.gxl;omega))).cell 1).trans rfl:m.cell? ⟨a.heap.size,1,none⟩=some (.int .i64 (c:Int)))) ?_;refine pH3 3 (.pointer (some ⟨a.heap.size,0,none⟩)) ?_;refine pL3 14 118 (fun m e=>have e:Keep (fun o=>o=b) z m:=kD e;(((e.bk g.step (fun i=>absurd (show a.heap.size=b from i) (by have:=g.gxl;omega))).cell 2).trans rfl:m.cell? ⟨a.heap.size,2,none⟩=some (.int .i64 (f:Int)))) ?_;refine sC3 (fun _ _ _ _ _ _ _ j _ _ _ q=>?_) ?_
   · have ah:_=_:=j 13 117 kR rfl;have ai:_=_:=j 15 119 kR rfl;go_simp;exact q _ _ (aJ bR) (dD (by rw [IntKind.wrap_i64];omega))
   refine pW3 11 115 16 120 ?_;refine sC3 (fun _ _ _ _ _ _ _ j _ _ _ q=>?_) ?_
   · have af:_=_:=j 7 111 kR rfl;have aj:_=_:=j 17 121 kR rfl;go_simp;rw [zBw (by have:=y.out;simp;omega)];exact q _ _ (aJ bR) ((iQ _ _).trans (by rw [<-T.out,List.append_nil]))
   refine pV3 0 104 ?_;refine pV3 19 123 ?_;refine sC3 (fun _ m _ A _ _ _ j _ _ _ q=>?_) ?_
   · have u:=A rfl;have al:_=_:=j 20 124 kR rfl;have ak:_=_:=j 18 122 kR rfl;have aq:=u.frozen 0;have a9:m.cell? ⟨b,0,none⟩=some (.string ⟨d.toArray⟩):=(u.cell 0).trans rfl;go_simp;exact q (.bool true) _ (aV (Keep.setCell (F:=fun o=>o=b) (Keep.refl _ _) (p:=⟨b,0,none⟩) (.inl rfl) _)) (u.set 0 _)
   exact aD
 · intro am w e j R;replace e:Keep (fun o=>o=b) z w:=kD e;obtain ⟨aI,a0⟩:∃a1,(fun _ w1=>Bk w1 b 56 #[.string ⟨D.toArray⟩,.int .i64 v]) a1 w:=R 21 dC;simp only [zqq];clear j R;have az:=g.gxl;have r:=e.bk g.res (fun i=>absurd (show a.heap.size+1=b from i) oM);have aE:w.cell? ⟨a.heap.size+1,0,none⟩=some (.int .i64 0):=(r.cell 0).trans rfl;have an:=r.frozen 0;have aF:w.cell? ⟨a.heap.size+1,1,none⟩=some (.int .i64 0):=(r.cell 1).trans rfl;have ao:=r.frozen 1;have aG:w.cell? ⟨a.heap.size+1,2,none⟩=some (.slice none 0 0):=(r.cell 2).trans rfl;have ap:=r.frozen 2;have aH:w.cell? ⟨a.heap.size+1,3,none⟩=some (.slice none 0 0):=(r.cell 3).trans rfl;have ar:=r.frozen 3;go_wp2;have X:=xB (v0:=.int .i64 0) (v1:=.int .i64 0) (v2:=.slice none 0 0) (v3:=.slice none 0 0) (Nat.le_succ a.heap.size) ((Keep.of_below g.low).trans e);have Z:=qJ (W:=w) (s:=a.heap.size+1) (v0:=.int .i64 0) (v1:=.int .i64 0) (v2:=.slice none 0 0) (v3:=.slice none 0 0);exact cQ (s:=a.heap.size+1) (A1:=none) (c1:=0) (A2:=none) (c2:=0) rfl (lW r) X (RdN.nil _ _ _ _) (bB _ _ _) (Z.bk a0 (fun i=>absurd (show b=a.heap.size+1 from i) (by have:=g.gxl;omega)))
theorem aE9 (b:Nat) (t:Option Addr) (m u L:Nat) (c:Nat) (v:Int) (A:Int) (d w:List UInt8) (n:Nat) (K:d.length=n) (a:World) (y:Bk a b 56 #[.string ⟨d.toArray⟩,.int .i64 A])
 (J:Rd a L 1 t m (w.map bv)) (X:L<=a.heap.size) (S:0 < m->∀M,t=some M->M.block≠b) (aA:n<=549755813888) (ay:m<=549755813888) (aG:-9223372036854775808<=(c:Int)/\(c:Int)<=9223372036854775807) (aE:-9223372036854775808<=(v:Int)/\(v:Int)<=9223372036854775807) (aF:0<=A/\A<=2147483648)
 (ax:c+m<=n):
 Calls prog 25 #[b,aZ 3 c v t m u] a fun V a3=>cD b A (d.take c++(w++d.drop (c+m))) ⟨0,0, [], []⟩ a a3 V:=by
 have az:w.length=m:=by simpa using J.1
 have f:=bS (kind:=3) (p:=c) (k:=v) (cd:=u) y J X;obtain ⟨H,a4,C,U⟩:=hqq4 f y K S;have aB:=y.lt;have aR:(⟨d.toArray⟩:ByteArray).size=n:=(aT d).trans K;have aQ:a.cell? ⟨b,0,none⟩=some (.string ⟨d.toArray⟩):=(y.cell 0).trans rfl;clear J y f K S;obtain ⟨E,Z⟩:=eqx (c+m);obtain ⟨G,I⟩:=eqx ((d.take c++w)++d.drop E);have N:d.take c++(w++d.drop (c+m))=G:=by rw [Z,<-zCo];exact I
 rw [N];have T:=lhd I;clear I N;have a5:=fun a=>aIX d a c (by have:=C.out;omega);have a6:=fun a=>aIW d a E (by have:=C.out;omega);have b1:=fun a=>aAX d a c (by have:=C.out;omega);have b2:=fun a=>aAW d a E (by have:=C.out;omega);have aa:¬((c:Int) < 0):=oM;have ab:¬((c:Int) > (n:Int)):=oM;have ac:¬((m:Int) > (n:Int) -(c:Int)):=oM;have ad:¬((m:Int) < 0):=oM;unfold aZ;go_enter func25,ntmps25;go_wp2;obtain ⟨x,O⟩:=eqx ((a.alloc (.cells #[.int .i64 3,.int .i64 c,.int .i64 v,.slice t m u] 46)).alloc (.cells #[.int .i64 0,.int .i64 0,.slice none 0 0,.slice none 0 0] 50));rw [O] at H⊢;have f:=H.out;clear O H;refine wp_region_any kR ?_;refine bH [147,148,149,150,151,152,153,154,155,156,157,158,159,160,161,162,163,164,165,166,167,168,169,170,171,172] (fun o=>o=b) 26 [4,15,26] (fun w1=>Bk w1 b 56 #[.string ⟨d.toArray⟩,.int .i64 A]) (fun _ w1=>Bk w1 b 56 #[.string ⟨G.toArray⟩,.int .i64 A]) [is b,is b,is b,is b,is (.string ⟨d.toArray⟩),is (.pointer (some ⟨a.heap.size,1,none⟩)),is (c:Int),is (.string ⟨(d.take c).toArray⟩),is (.pointer (some ⟨a.heap.size,3,none⟩)),is (.slice t m u),is (.string ⟨w.toArray⟩),is (.string ⟨(d.take c++w).toArray⟩),is b,is b,is b,is (.string ⟨d.toArray⟩),is (.pointer (some ⟨a.heap.size,1,none⟩)),is (c:Int),is (.pointer (some ⟨a.heap.size,3,none⟩)),is (.slice t m u),is (m:Int),is (E:Int),is (.string ⟨(d.drop E).toArray⟩),is (.string ⟨G.toArray⟩),is b,is b,cX] _ _ rfl kR kR (f.mod) (fun w1 aP j _ y=>Bk.below j y j.lt) (fun _ _ _ j v=>Bk.below j v j.lt) tA0 ?_ ?_
 · refine aO ?_;refine pH3 0 (.pointer (some ⟨b,0,none⟩)) ?_;refine pH3 0 (.pointer (some ⟨b,0,none⟩)) ?_;refine pV3 1 148 ?_;refine pV3 2 149 ?_;refine sC3 (fun _ i _ D _ _ _ g _ _ _ q=>?_) ?_
   · have z:=D rfl;have ae:_=_:=g 3 150 kR rfl;have a7:i.cell? ⟨b,0,none⟩=some (.string ⟨d.toArray⟩):=(z.cell 0).trans rfl;go_simp;exact kq q rfl
   refine pH3 3 (.pointer (some ⟨a.heap.size,0,none⟩)) ?_;refine pL3 5 152 (fun i e=>have e:Keep (fun o=>o=b) x i:=kD e;(((e.bk f.step (fun j=>absurd (show a.heap.size=b from j) (by have:=f.gxl;omega))).cell 1).trans rfl:i.cell? ⟨a.heap.size,1,none⟩=some (.int .i64 (c:Int)))) ?_;refine pW3 4 151 6 153 ?_;refine pH3 3 (.pointer (some ⟨a.heap.size,0,none⟩)) ?_;refine pL3 8 155 (fun i e=>have e:Keep (fun o=>o=b) x i:=kD e;(((e.bk f.step (fun j=>absurd (show a.heap.size=b from j) (by have:=f.gxl;omega))).cell 3).trans rfl:i.cell? ⟨a.heap.size,3,none⟩=some (.slice t m u))) ?_;refine sC3 (fun _ i e _ _ _ _ g _ _ _ q=>?_) ?_
   · replace e:Keep (fun o=>o=b) x i:=kD e;have ag:_=_:=g 9 156 kR rfl;have aM:=iR (Rd.keepF f.rD e f.low.size U.out);go_simp;exact kq q rfl
   refine sC3 (fun _ _ _ _ _ _ _ g _ _ _ q=>?_) ?_
   · have af:_=_:=g 7 154 kR rfl;have ah:_=_:=g 10 157 kR rfl;go_simp;rw [zBw (by have:=C.out;simp;omega)];exact q _ _ (aJ bR) (iQ _ _)
   refine pH3 0 (.pointer (some ⟨b,0,none⟩)) ?_;refine pV3 12 159 ?_;refine pV3 13 160 ?_;refine sC3 (fun _ i _ D _ _ _ g _ _ _ q=>?_) ?_
   · have z:=D rfl;have aj:_=_:=g 14 161 kR rfl;have a8:i.cell? ⟨b,0,none⟩=some (.string ⟨d.toArray⟩):=(z.cell 0).trans rfl;go_simp;exact kq q rfl
   refine pH3 3 (.pointer (some ⟨a.heap.size,0,none⟩)) ?_;refine pL3 16 163 (fun i e=>have e:Keep (fun o=>o=b) x i:=kD e;(((e.bk f.step (fun j=>absurd (show a.heap.size=b from j) (by have:=f.gxl;omega))).cell 1).trans rfl:i.cell? ⟨a.heap.size,1,none⟩=some (.int .i64 (c:Int)))) ?_;refine pH3 3 (.pointer (some ⟨a.heap.size,0,none⟩)) ?_;refine pL3 18 165 (fun i e=>have e:Keep (fun o=>o=b) x i:=kD e;(((e.bk f.step (fun j=>absurd (show a.heap.size=b from j) (by have:=f.gxl;omega))).cell 3).trans rfl:i.cell? ⟨a.heap.size,3,none⟩=some (.slice t m u))) ?_;refine pV3 19 166 ?_;refine sC3 (fun _ _ _ _ _ _ _ g _ _ _ q=>?_) ?_
   · have ak:_=_:=g 17 164 kR rfl;have al:_=_:=g 20 167 kR rfl;go_simp;exact q _ _ (aJ bR) (dD (by rw [IntKind.wrap_i64];omega))
   refine pW3 15 162 21 168 ?_;refine sC3 (fun _ _ _ _ _ _ _ g _ _ _ q=>?_) ?_
   · have ai:_=_:=g 11 158 kR rfl;have am:_=_:=g 22 169 kR rfl;go_simp;rw [zBw (by have:=C.out;simp;omega)];exact q _ _ (aJ bR) ((iQ _ _).trans (by rw [T.out]))
   refine pV3 0 147 ?_;refine pV3 24 171 ?_;refine sC3 (fun _ i _ D _ _ _ g _ _ _ q=>?_) ?_
   · have z:=D rfl;have ao:_=_:=g 25 172 kR rfl;have an:_=_:=g 23 170 kR rfl;have av:=z.frozen 0;have a9:i.cell? ⟨b,0,none⟩=some (.string ⟨d.toArray⟩):=(z.cell 0).trans rfl;go_simp;exact q (.bool true) _ (aV (Keep.setCell (F:=fun o=>o=b) (Keep.refl _ _) (p:=⟨b,0,none⟩) (.inl rfl) _)) (z.set 0 _)
   exact aD
 · intro ap B e g R;replace e:Keep (fun o=>o=b) x B:=kD e;obtain ⟨aN,a1⟩:∃a2,(fun _ w1=>Bk w1 b 56 #[.string ⟨G.toArray⟩,.int .i64 A]) a2 B:=R 26 dC;simp only [zqq];clear g R;have aC:=f.gxl;have r:=e.bk f.res (fun j=>absurd (show a.heap.size+1=b from j) oM);have aH:B.cell? ⟨a.heap.size+1,0,none⟩=some (.int .i64 0):=(r.cell 0).trans rfl;have aq:=r.frozen 0;have aI:B.cell? ⟨a.heap.size+1,1,none⟩=some (.int .i64 0):=(r.cell 1).trans rfl;have ar:=r.frozen 1;have aK:B.cell? ⟨a.heap.size+1,2,none⟩=some (.slice none 0 0):=(r.cell 2).trans rfl;have au:=r.frozen 2;have aL:B.cell? ⟨a.heap.size+1,3,none⟩=some (.slice none 0 0):=(r.cell 3).trans rfl;have aw:=r.frozen 3;go_wp2;have Y:=xB (v0:=.int .i64 0) (v1:=.int .i64 0) (v2:=.slice none 0 0) (v3:=.slice none 0 0) (Nat.le_succ a.heap.size) ((Keep.of_below f.low).trans e);have a0:=qJ (W:=B) (s:=a.heap.size+1) (v0:=.int .i64 0) (v1:=.int .i64 0) (v2:=.slice none 0 0) (v3:=.slice none 0 0);exact cQ (s:=a.heap.size+1) (A1:=none) (c1:=0) (A2:=none) (c2:=0) rfl (lW r) Y (RdN.nil _ _ _ _) (bB _ _ _) (a0.bk a1 (fun j=>absurd (show b=a.heap.size+1 from j) (by have:=f.gxl;omega)))
end
section
open Go.ChangeShapes Go.WideShapes Go.ChangeAt Go.RowKit Go.Deep
structure Stp where
 kind:Int
 p:Int
 k:Int
 A:Option Addr
 n:Nat
 c:Nat
 D:List UInt8
def kE (a:Stp):List Value:= [iv a.kind,iv a.p,iv a.k,.slice a.A a.n a.c]
def gJ (l:List Stp):List Value:=l.flatMap kE
theorem qU (l:List Stp):(gJ l).length=l.length*4:=by
 induction l with
 | nil=>rfl
 | cons b l a=>
   simp only [gJ,List.flatMap_cons] at a⊢;rw [zAi,a,zCg];simp only [kE,zCg,List.length_nil];omega
theorem fL (l:List Stp) (a c:Nat) (f:Stp) (b:l[a]?=some f) (j:c < 4):(gJ l)[a*4+c]?=(kE f)[c]?:=by
 induction l generalizing a with
 | nil=>simp at b
 | cons d l i=>
   have e:gJ (d::l)=kE d++gJ l:=(by simp [gJ]);have g:(kE d).length=4:=rfl;rcases a with _ | a
   · simp at b;subst b;rw [e,Nat.zero_mul,zBi,zAn oM]
   simp only [zCf] at b;rw [e,zAo oM,g,show (a+1)*4+c - 4=a*4+c by omega];exact i a b
def aIv (a:Int):Prop:=-9223372036854775808<=a/\a<=9223372036854775807
def Stp.good (b:World) (a:Stp):Prop:=aIv a.kind/\aIv a.p/\aIv a.k/\Rd b b.heap.size 1 a.A a.n (a.D.map bv)/\a.n<=a.c/\a.c<=maxLen
theorem aD7 {C:Type} {J:TypeId×Value->C} {G:World} {K:Nat} {o:List Value} {H:DataW C×List MemPlace}
 (R:DataW.trod J prog G 0 (fun _=>true) true K 46 o=some H):∃F:Stp,o=kE F/\F.good G:=by
 have L:prog.cellsOf 46=4:=by kernel_rfl
 obtain ⟨c,N,e,g,⟨ae,w,W⟩,⟨af,x,X⟩,⟨ag,y,Y⟩,⟨ah,z,Z⟩⟩:∃c:Array Field,prog.underlying 46=some (.struct c)/\oneCellFields prog c=true/\c.size=4/\(∃a,c[0]?=some a/\a.type=3)/\(∃a,c[1]?=some a/\a.type=3)/\(∃a,c[2]?=some a/\a.type=3)/\(∃a,c[3]?=some a/\a.type=26):=
  ⟨_,underlying46,rfl,rfl,⟨_,rfl,rfl⟩,⟨_,rfl,rfl⟩,⟨_,rfl,rfl⟩,⟨_,rfl,rfl⟩⟩
 obtain ⟨b,S,ab,ac,D,i,k⟩:=DataW.trod_struct N R;rw [L] at D
 match o,D with
 | [ai,aj,ak,a0],_=>
   have a2:b[0]?=some (b[0]'(by rw [i,g];decide)):=zAa _;have a3:b[1]?=some (b[1]'(by rw [i,g];decide)):=zAa _;have a4:b[2]?=some (b[2]'(by rw [i,g];decide)):=zAa _;have a5:b[3]?=some (b[3]'(by rw [i,g];decide)):=zAa _;have t:=k 0 _ w;rw [(hone_of e _ _ w).1,(hone_of e _ _ w).2,W,a2] at t;simp only [List.drop_zero,List.drop_succ_cons,List.take_succ_cons,List.take_zero] at t;have u:=k 1 _ x;rw [(hone_of e _ _ x).1,(hone_of e _ _ x).2,X,a3] at u;simp only [List.drop_zero,List.drop_succ_cons,List.take_succ_cons,List.take_zero] at u;have v:=k 2 _ y;rw [(hone_of e _ _ y).1,(hone_of e _ _ y).2,Y,a4] at v;simp only [List.drop_zero,List.drop_succ_cons,List.take_succ_cons,List.take_zero] at v;have j:=k 3 _ z;rw [(hone_of e _ _ z).1,(hone_of e _ _ z).2,Z,a5] at j;simp only [List.drop_zero,List.drop_succ_cons,List.take_succ_cons,List.take_zero] at j;obtain ⟨a6,q,_,w0⟩:=DataW.trod_int underlying3 t;obtain ⟨a7,r,_,w1⟩:=DataW.trod_int underlying3 u;obtain ⟨a8,s,_,a1⟩:=DataW.trod_int underlying3 v;injection q with q;injection r with r;injection s with s;subst q;subst r;subst s;have O:∃(m:Option Addr) (B A:Nat),a0=.slice m B A:=(by rcases open_slice underlying26 j with ⟨f,_⟩|⟨al,ad,aa,_,_,_,_,f,_⟩;injection f with f;exact ⟨_,_,_,f⟩;injection f with f;exact ⟨_,_,_,f⟩);obtain ⟨m,B,A,rfl⟩:=O;obtain ⟨a9,E,T,U,V⟩:=xR (d:=(b[3]'(by rw [i,g];decide)).1) (p:=(b[3]'(by rw [i,g];decide)).2) underlying26 underlying5 kR ⟨S,by simpa [Value.cells] using j⟩;obtain ⟨I,M⟩:=aIP a9 T;rw [M] at E;exact ⟨⟨a6,a7,a8,m,B,A,I⟩,rfl,bounds_i64 w0,bounds_i64 w1,bounds_i64 a1,E,U,V⟩
theorem aGW {q:Type} {F:TypeId×Value->q} {c:World} {r:Option Addr} {b o:Nat} {E:DataW q} {W:List MemPlace}
 (G:DataW.Trod F prog c 0 (fun _=>true) true 41 (.slice r b o) E W):
 ∃l:List Stp,Rd c c.heap.size 4 r b (gJ l)/\l.length=b/\(∀f∈l,f.good c)/\b<=o/\o<=maxLen:=by
 obtain ⟨a3,K⟩:=G;rcases open_slice underlying41 K with ⟨j,_⟩|⟨m,l,a1,a6,n,Z,a0,j,_,O,R,A,_,L⟩;simp [Value.cells] at j;obtain ⟨rfl,rfl,rfl⟩:=j;exact ⟨[],Rd.nil _ _ _ _,rfl,by simp,zAs _,zAp _⟩;simp [Value.cells] at j;obtain ⟨rfl,rfl,rfl⟩:=j;simp at A;subst A;have H:prog.cellsOf 46=4:=(by kernel_rfl);have C:∀d,d < b->∃f:Stp,(∀a,a < 4->c.cell? (m.add (d*4+a))=(kE f)[a]?)/\f.good c:=(by intro d a5;obtain ⟨a2,x,U⟩:=L d oM;rw [H] at x;obtain ⟨f,rfl,k⟩:=aD7 U;obtain ⟨_,a4,I⟩:=World.cells?_some x;refine ⟨f,fun a M=>?_,k⟩;have:=I a M;rw [Go.Deep.add_add] at this;exact this);have X:∃e:Nat->Stp,∀d,d < b->(∀a,a < 4->c.cell? (m.add (d*4+a))=(kE (e d))[a]?)/\(e d).good c:=(by refine ⟨fun i=>if g:i < b then Classical.choose (C i g) else ⟨0,0,0,none,0,0, []⟩,fun i g=>?_⟩;simp only [g,dif_pos];exact Classical.choose_spec (C i g));obtain ⟨e,k⟩:=X;refine ⟨(List.range b).map e,⟨by rw [qU];simp,fun S=>?_⟩,by simp,?_,O,R⟩;have y:=(k 0 S).1 0 oM;simp only [Nat.zero_mul,zBi] at y;have z:c.cell? (m.add 0)=some (iv (e 0).kind):=y.trans rfl;obtain ⟨D,V,Y⟩:=m;have T:Y=none:=(by simpa [Addr.add] using World.cell?_spot z);subst T;have J:=World.block_lt_of_cell? c _ z;refine ⟨D,V,rfl,by simpa [Addr.add] using J,fun a a7 B=>?_⟩;have N:a < b*4:=(by have:=(zAc.1 B).1;rw [qU] at this;simpa using this);have s:a / 4 < b:=Nat.div_lt_of_lt_mul (by rw [Nat.mul_comm];exact N);have t:a % 4 < 4:=Nat.mod_lt _ oM;have u:a / 4*4+a % 4=a:=Nat.div_add_mod' a 4;have p:((List.range b).map e)[a / 4]?=some (e (a / 4)):=(by rw [zAf,zCk s];rfl);have v:=fL _ (a / 4) (a % 4) _ p t;rw [u,B] at v;have w:=(k (a / 4) s).1 (a % 4) t;rw [u,<-v,mL] at w;exact w;intro f p;obtain ⟨i,g,rfl⟩:=zAy.1 p;exact (k i (zCj.1 g)).2
end
end Go.Proofs.YthldmddkfbijhaaGreatDoor
