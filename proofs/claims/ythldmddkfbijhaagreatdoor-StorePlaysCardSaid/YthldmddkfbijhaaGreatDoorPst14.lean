/- Lemmas of the walk. Conditions: each its own. -/
import Derived.Test.YthldmddkfbijhaaGreatDoorPst12
import Derived.Test.YthldmddkfbijhaaGreatDoorPst13
import Derived.Test.YthldmddkfbijhaaGreatDoorProg
set_option linter.all false
set_option maxRecDepth 100000
set_option maxHeartbeats 4000000
open Go.Proofs.Tryz
namespace Go.Proofs.YthldmddkfbijhaaGreatDoor
open Go.RowKit
theorem aDu (n:Nat) (B:Option Addr) (v C J:Nat) (c f:Nat) (D:Int) (i K:List UInt8) (u:Nat) (H:i.length=u) (a:World) (r:Bk a n 56 #[.string ⟨i.toArray⟩,.int .i64 D])
 (G:Rd a J 1 B v (K.map bv)) (X:J<=a.heap.size) (S:0 < v->∀M,B=some M->M.block≠n) (ax:u<=549755813888) (av:v<=549755813888) (aA:-9223372036854775808<=(c:Int)/\(c:Int)<=9223372036854775807) (ay:-9223372036854775808<=(f:Int)/\(f:Int)<=9223372036854775807) (az:0<=D/\D<=2147483648)
 (au:c+f<=u):
 Calls prog 25 #[n,aZ 5 c f B v C] a fun V a8=>cD n D (i) ⟨0,0,(i.drop c).take f, []⟩ a a8 V:=by
 have aw:K.length=v:=by simpa using G.1
 have l:=bS (kind:=5) (p:=c) (k:=f) (cd:=C) r G X;obtain ⟨E,U,L,aa⟩:=hqq4 l r H S;have a0:=r.lt;have aL:(⟨i.toArray⟩:ByteArray).size=u:=(aT i).trans H;have aK:a.cell? ⟨n,0,none⟩=some (.string ⟨i.toArray⟩):=(r.cell 0).trans rfl;clear G r l H S;obtain ⟨A,aB⟩:=eqx (c+f);obtain ⟨j,F⟩:=eqx ((i.drop c).take f);have O:(i.drop c).take (A - c)=j:=by rw [show A - c=f by omega];exact F
 rw [F];have T:=lhd O;clear F O;have ab:=fun a=>wT i a c A oM (by have:=L.out;omega);have b1:=fun a=>nO i a c A oM (by have:=L.out;omega);have ac:¬((c:Int) < 0):=oM;have ad:¬((c:Int) > (u:Int)):=oM;have ae:¬((f:Int) > (u:Int) -(c:Int)):=oM;have af:¬((f:Int) < 0):=oM;unfold aZ;go_enter func25,ntmps25;go_wp2;obtain ⟨s,N⟩:=eqx ((a.alloc (.cells #[.int .i64 5,.int .i64 c,.int .i64 f,.slice B v C] 46)).alloc (.cells #[.int .i64 0,.int .i64 0,.slice none 0 0,.slice none 0 0] 50));rw [N] at E⊢;have l:=E.out;clear N E;refine wp_region_any kR ?_;refine bH [90,91,92,93,94,95,96,97,98,99,100,101,102,103] (fun e=>e=a.heap.size+1) 14 [14] (fun w1=>Bk w1 (a.heap.size+1) 50 #[.int .i64 0,.int .i64 0,.slice none 0 0,.slice none 0 0]) (aIZ (a.heap.size+1) (a.heap.size+2) j) [is n,is n,is n,is (.string ⟨i.toArray⟩),is (.pointer (some ⟨a.heap.size,1,none⟩)),is (c:Int),is (.pointer (some ⟨a.heap.size,1,none⟩)),is (c:Int),is (.pointer (some ⟨a.heap.size,2,none⟩)),is (f:Int),is (A:Int),is (.string ⟨j.toArray⟩),aIh (a.heap.size+2) 1 j.length (j.map bv),aKS (a.heap.size+2) j,cX] _ _ rfl kR kR (l.res) (fun w1 aI m _ r=>Bk.below m r m.lt) (aGX _ _ _) (by repeat' (first | exact kG _ _ | exact iN _ | exact aCl (fun e t=>by subst t;omega) _ _ _ | exact aF5 (fun e t=>by subst t;omega) _ |(refine zAe.2 ⟨?_,?_⟩)|(intro c a2;cases a2))) ?_ ?_
 · refine aO ?_;refine pH3 0 (.pointer (some ⟨n,0,none⟩)) ?_;refine pV3 0 90 ?_;refine pV3 1 91 ?_;refine pL3 2 92 (fun d b=>have b:Keep (fun e=>e=a.heap.size+1) s d:=kD b;(((b.bk l.mod (fun m=>absurd (show n=a.heap.size+1 from m) (by have:=l.gxl;omega))).cell 0).trans rfl:d.cell? ⟨n,0,none⟩=some (.string ⟨i.toArray⟩))) ?_;refine pH3 3 (.pointer (some ⟨a.heap.size,0,none⟩)) ?_;refine pL3 4 94 (fun d b=>have b:Keep (fun e=>e=a.heap.size+1) s d:=kD b;(((b.bk l.step (fun m=>absurd (show a.heap.size=a.heap.size+1 from m) oM)).cell 1).trans rfl:d.cell? ⟨a.heap.size,1,none⟩=some (.int .i64 (c:Int)))) ?_;refine pH3 3 (.pointer (some ⟨a.heap.size,0,none⟩)) ?_;refine pL3 6 96 (fun d b=>have b:Keep (fun e=>e=a.heap.size+1) s d:=kD b;(((b.bk l.step (fun m=>absurd (show a.heap.size=a.heap.size+1 from m) oM)).cell 1).trans rfl:d.cell? ⟨a.heap.size,1,none⟩=some (.int .i64 (c:Int)))) ?_;refine pH3 3 (.pointer (some ⟨a.heap.size,0,none⟩)) ?_;refine pL3 8 98 (fun d b=>have b:Keep (fun e=>e=a.heap.size+1) s d:=kD b;(((b.bk l.step (fun m=>absurd (show a.heap.size=a.heap.size+1 from m) oM)).cell 2).trans rfl:d.cell? ⟨a.heap.size,2,none⟩=some (.int .i64 (f:Int)))) ?_;refine sC3 (fun _ _ _ _ _ _ _ g _ _ _ o=>?_) ?_
   · have am:_=_:=g 7 97 kR rfl;have an:_=_:=g 9 99 kR rfl;go_simp;exact o _ _ (aJ bR) (dD (by rw [IntKind.wrap_i64];omega))
   refine sC3 (fun _ _ _ _ _ _ _ g _ _ _ o=>?_) ?_
   · have ak:_=_:=g 3 93 kR rfl;have al:_=_:=g 5 95 kR rfl;have ag:_=_:=g 10 100 kR rfl;go_simp;exact o _ _ (aJ bR) (congrArg (fun a9:List UInt8=>Value.string ⟨a9.toArray⟩) T.out)
   refine sC3 (fun _ d b _ _ _ _ g _ _ _ o=>?_) ?_
   · replace b:Keep (fun e=>e=a.heap.size+1) s d:=kD b;have ah:_=_:=g 11 101 kR rfl;have a3:=run_bytes_of_string (P:=prog) d 9 26 5 ⟨j.toArray⟩ underlying9 underlying26 underlying5;rw [aT j] at a3;go_simp;exact o _ _ (aJ (bR.drew.alloc nL _)) ⟨_,_,rfl,(aHX d j _ _ _ _ _ rfl rfl).mono (by have:=b.size;have:=l.res.lt;omega)⟩
   refine sC3 (fun y d _ _ _ _ _ g _ _ _ o=>?_) ?_
   · have a4:(aIh (a.heap.size+2) 1 j.length (j.map bv)) (y (.tmp 102)) d:=g 12 102 kR rfl;obtain ⟨w,x,ai,z⟩:=a4;go_simp;exact o _ _ (aJ bR) ⟨w,x,rfl,z⟩
   refine sC3 (fun y d _ Y _ _ a1 g _ _ _ o=>?_) ?_
   · have q:=Y rfl;have aj:y (.tmp 4)=.pointer (some ⟨a.heap.size+1,0,none⟩):=a1 4 kR;have a5:(aKS (a.heap.size+2) j) (y (.tmp 103)) d:=g 13 103 kR rfl;obtain ⟨w,x,W,z⟩:=a5;unfold lX at W;have aC:d.cell? ⟨a.heap.size+1,0,none⟩=some (.int .i64 0):=(q.cell 0).trans rfl;have ao:=q.frozen 0;have aE:d.cell? ⟨a.heap.size+1,1,none⟩=some (.int .i64 0):=(q.cell 1).trans rfl;have ap:=q.frozen 1;have aF:d.cell? ⟨a.heap.size+1,2,none⟩=some (.slice none 0 0):=(q.cell 2).trans rfl;have aq:=q.frozen 2;have aG:d.cell? ⟨a.heap.size+1,3,none⟩=some (.slice none 0 0):=(q.cell 3).trans rfl;have ar:=q.frozen 3;go_simp;exact o (.bool true) _ (aV qJ) ⟨w,x,lW q,z.keepF qJ (fun e t=>by subst t;omega)⟩
   exact aD
 · intro y I b g Q;replace b:Keep (fun e=>e=a.heap.size+1) s I:=kD b;obtain ⟨aH,a6⟩:∃a7,(aIZ (a.heap.size+1) (a.heap.size+2) j) a7 I:=Q 14 dC;simp only [zqq];clear g Q;obtain ⟨w,x,Z,z⟩:=a6;go_wp2;have R:Below a.heap.size a I:=l.low.trans (b.to_below l.low.size (fun e t m=>absurd (show e=a.heap.size+1 from m) oM));exact cQ (A1:=w) (c1:=x) (A2:=none) (c2:=0) rfl Z (Keep.of_below R) (z.mono oM) (bB _ _ _) (U.out.below R a0)
theorem aG5 (i:Nat) (t:Option Addr) (m v J:Nat) (s n:Int) (z:Int) (g u:List UInt8) (A:Nat) (G:g.length=A) (a:World) (r:Bk a i 56 #[.string ⟨g.toArray⟩,.int .i64 z])
 (F:Rd a J 1 t m (u.map bv)) (W:J<=a.heap.size) (Q:0 < m->∀K,t=some K->K.block≠i) (aj:A<=549755813888) (ai:m<=549755813888) (am:-9223372036854775808<=(s:Int)/\(s:Int)<=9223372036854775807) (ak:-9223372036854775808<=(n:Int)/\(n:Int)<=9223372036854775807) (al:0<=z/\z<=2147483648)
  :
 Calls prog 25 #[i,aZ 6 s n t m v] a fun M a6=>cD i z (g) ⟨0,((fC g u).length:Int), [], []⟩ a a6 M:=by
 have X:u.length=m:=by simpa using F.1
 have f:=bS (kind:=6) (p:=s) (k:=n) (cd:=v) r F W;obtain ⟨B,U,V,a7⟩:=hqq4 f r G Q;have a0:=r.lt;have ay:(⟨g.toArray⟩:ByteArray).size=A:=(aT g).trans G;have ax:a.cell? ⟨i,0,none⟩=some (.string ⟨g.toArray⟩):=(r.cell 0).trans rfl;clear F r f G Q;obtain ⟨x,C⟩:=eqx (fC g u);obtain ⟨o,D⟩:=eqx x.length;rw [C,D];obtain ⟨S,T⟩:=hqq2 C D;clear C D;unfold aZ;go_enter func25,ntmps25;go_wp2;obtain ⟨w,N⟩:=eqx ((a.alloc (.cells #[.int .i64 6,.int .i64 s,.int .i64 n,.slice t m v] 46)).alloc (.cells #[.int .i64 0,.int .i64 0,.slice none 0 0,.slice none 0 0] 50));rw [N] at B⊢;have f:=B.out;clear N B;refine wp_region_any kR ?_;refine bH [179,180,181,182,183,184,185,186,187,188] (fun d=>d=a.heap.size+1) 10 [10] (fun w1=>Bk w1 (a.heap.size+1) 50 #[.int .i64 0,.int .i64 0,.slice none 0 0,.slice none 0 0]) (fun _ w1=>Bk w1 (a.heap.size+1) 50 #[.int .i64 0,(o:Int),.slice none 0 0,.slice none 0 0]) [is i,is i,is i,is (.string ⟨g.toArray⟩),is (.pointer (some ⟨a.heap.size,3,none⟩)),is (.slice t m v),is (.string ⟨u.toArray⟩),aIh (a.heap.size+2) 1 o (x.map nv),is (o:Int),is (.agg #[.int .i64 0,(o:Int),.slice none 0 0,.slice none 0 0]),cX] _ _ rfl kR kR (f.res) (fun w1 av e _ r=>Bk.below e r e.lt) (fun _ _ _ e n=>Bk.below e n e.lt) (by repeat' (first | exact kG _ _ | exact iN _ | exact aCl (fun d E=>by subst E;omega) _ _ _ |(refine zAe.2 ⟨?_,?_⟩)|(intro s a2;cases a2))) ?_ ?_
 · refine aO ?_;refine pH3 0 (.pointer (some ⟨i,0,none⟩)) ?_;refine pV3 0 179 ?_;refine pV3 1 180 ?_;refine pL3 2 181 (fun c b=>have b:Keep (fun d=>d=a.heap.size+1) w c:=kD b;(((b.bk f.mod (fun e=>absurd (show i=a.heap.size+1 from e) (by have:=f.gxl;omega))).cell 0).trans rfl:c.cell? ⟨i,0,none⟩=some (.string ⟨g.toArray⟩))) ?_;refine pH3 3 (.pointer (some ⟨a.heap.size,0,none⟩)) ?_;refine pL3 4 183 (fun c b=>have b:Keep (fun d=>d=a.heap.size+1) w c:=kD b;(((b.bk f.step (fun e=>absurd (show a.heap.size=a.heap.size+1 from e) oM)).cell 3).trans rfl:c.cell? ⟨a.heap.size,3,none⟩=some (.slice t m v))) ?_;refine sC3 (fun _ c b _ _ _ _ j _ _ _ q=>?_) ?_
   · replace b:Keep (fun d=>d=a.heap.size+1) w c:=kD b;have a9:_=_:=j 5 184 kR rfl;have ar:=iR (b.rd f.rD f.low.size (fun d E e=>absurd (show d=a.heap.size+1 from e) oM));go_simp;exact kq q rfl
   refine sC3 (fun _ c b _ _ _ _ j _ _ _ q=>?_) ?_
   · replace b:Keep (fun d=>d=a.heap.size+1) w c:=kD b;have a8:_=_:=j 3 182 kR rfl;have aa:_=_:=j 6 185 kR rfl;go_simp;refine (yS g u A m x o c V.out X S.out T.out oM oM).mono ?_;rintro M aw ⟨I,L,rfl,R,Z⟩;exact q _ _ (aJ Z) ⟨I,L,rfl,(RdN.of_made R).mono (by have:=b.size;have:=f.res.lt;omega)⟩
   refine sC3 (fun y c _ _ _ _ _ j _ _ _ q=>?_) ?_
   · have a3:(aIh (a.heap.size+2) 1 o (x.map nv)) (y (.tmp 186)) c:=j 7 186 kR rfl;obtain ⟨I,L,ab,R⟩:=a3;go_simp;exact kq q rfl
   refine pV3 8 187 ?_;refine sC3 (fun y c _ Y _ _ a1 j _ _ _ q=>?_) ?_
   · have l:=Y rfl;have ad:y (.tmp 4)=.pointer (some ⟨a.heap.size+1,0,none⟩):=a1 4 kR;have ac:_=_:=j 9 188 kR rfl;have an:c.cell? ⟨a.heap.size+1,0,none⟩=some (.int .i64 0):=(l.cell 0).trans rfl;have ae:=l.frozen 0;have ao:c.cell? ⟨a.heap.size+1,1,none⟩=some (.int .i64 0):=(l.cell 1).trans rfl;have af:=l.frozen 1;have ap:c.cell? ⟨a.heap.size+1,2,none⟩=some (.slice none 0 0):=(l.cell 2).trans rfl;have ag:=l.frozen 2;have aq:c.cell? ⟨a.heap.size+1,3,none⟩=some (.slice none 0 0):=(l.cell 3).trans rfl;have ah:=l.frozen 3;go_simp;exact q (.bool true) _ (aV qJ) (lW l)
   exact aD
 · intro y H b j O;replace b:Keep (fun d=>d=a.heap.size+1) w H:=kD b;obtain ⟨au,a4⟩:∃a5,(fun _ w1=>Bk w1 (a.heap.size+1) 50 #[.int .i64 0,(o:Int),.slice none 0 0,.slice none 0 0]) a5 H:=O 10 dC;simp only [zqq];clear j O;go_wp2;have P:Below a.heap.size a H:=f.low.trans (b.to_below f.low.size (fun d E e=>absurd (show d=a.heap.size+1 from e) oM));exact cQ (A1:=none) (c1:=0) (A2:=none) (c2:=0) rfl a4 (Keep.of_below P) (RdN.nil _ _ _ _) (bB _ _ _) (U.out.below P a0)
theorem aFb (f:Nat) (u:Option Addr) (l w M:Nat) (r x:Int) (D:Int) (c o:List UInt8) (E:Nat) (L:c.length=E) (a:World) (B:Bk a f 56 #[.string ⟨c.toArray⟩,.int .i64 D])
 (K:Rd a M 1 u l (o.map bv)) (Y:M<=a.heap.size) (T:0 < l->∀O,u=some O->O.block≠f) (ai:E<=549755813888) (ah:l<=549755813888) (al:-9223372036854775808<=(r:Int)/\(r:Int)<=9223372036854775807) (aj:-9223372036854775808<=(x:Int)/\(x:Int)<=9223372036854775807) (ak:0<=D/\D<=2147483648)
  :
 Calls prog 25 #[f,aZ 7 r x u l w] a fun P a7=>cD f D (c) ⟨0,((fC c o).length:Int), [],fC c o⟩ a a7 P:=by
 have Z:o.length=l:=by simpa using K.1
 have e:=bS (kind:=7) (p:=r) (k:=x) (cd:=w) B K Y;obtain ⟨F,V,W,a8⟩:=hqq4 e B L T;have a2:=B.lt;have ax:(⟨c.toArray⟩:ByteArray).size=E:=(aT c).trans L;have aw:a.cell? ⟨f,0,none⟩=some (.string ⟨c.toArray⟩):=(B.cell 0).trans rfl;clear K B e L T;obtain ⟨q,I⟩:=eqx (fC c o);obtain ⟨n,J⟩:=eqx q.length;rw [I,J];obtain ⟨U,N⟩:=hqq2 I J;clear I J;unfold aZ;go_enter func25,ntmps25;go_wp2;obtain ⟨y,Q⟩:=eqx ((a.alloc (.cells #[.int .i64 7,.int .i64 r,.int .i64 x,.slice u l w] 46)).alloc (.cells #[.int .i64 0,.int .i64 0,.slice none 0 0,.slice none 0 0] 50));rw [Q] at F⊢;have e:=F.out;clear Q F;refine wp_region_any kR ?_;refine bH [191,192,193,194,195,196,197,198,6] (fun _=>False) 8 [] (fun _=>True) (rO (a.heap.size+2) 3 1 n (q.map nv)) [is f,is f,is f,is (.string ⟨c.toArray⟩),is (.pointer (some ⟨a.heap.size,3,none⟩)),is (.slice u l w),is (.string ⟨o.toArray⟩),rO (a.heap.size+2) 3 1 n (q.map nv),cX] _ _ rfl kR kR (trivial) (fun _ _ _ _ _=>trivial) (aGw _ _ _ _ _) (by repeat' (first | exact kG _ _ | exact iN _ | exact aAr (fun G A=>A.elim) _ _ _ _ |(refine zAe.2 ⟨?_,?_⟩)|(intro r a3;cases a3))) ?_ ?_
 · refine aO ?_;refine pH3 0 (.pointer (some ⟨f,0,none⟩)) ?_;refine pV3 0 191 ?_;refine pV3 1 192 ?_;refine pL3 2 193 (fun d b=>have b:Keep (fun _=>False) y d:=kD b;(((b.bk e.mod (fun g=>g)).cell 0).trans rfl:d.cell? ⟨f,0,none⟩=some (.string ⟨c.toArray⟩))) ?_;refine pH3 3 (.pointer (some ⟨a.heap.size,0,none⟩)) ?_;refine pL3 4 195 (fun d b=>have b:Keep (fun _=>False) y d:=kD b;(((b.bk e.step (fun g=>g)).cell 3).trans rfl:d.cell? ⟨a.heap.size,3,none⟩=some (.slice u l w))) ?_;refine sC3 (fun _ d b _ _ _ _ j _ _ _ z=>?_) ?_
   · replace b:Keep (fun _=>False) y d:=kD b;have aa:_=_:=j 5 196 kR rfl;have ar:=iR (b.rd e.rD e.low.size (fun G A g=>g));go_simp;exact kq z rfl
   refine sC3 (fun _ d b _ _ _ _ j _ _ _ z=>?_) ?_
   · replace b:Keep (fun _=>False) y d:=kD b;have a9:_=_:=j 3 194 kR rfl;have ab:_=_:=j 6 197 kR rfl;go_simp;refine (yS c o E l q n d W.out Z U.out N.out oM oM).mono ?_;rintro P av ⟨t,v,rfl,C,a0⟩;exact z _ _ (aJ a0) ⟨t,v,rfl,C.mono (by have:=b.size;have:=e.res.lt;omega)⟩
   refine sC3 (fun H d _ _ _ _ _ j _ _ _ z=>?_) ?_
   · have a4:(rO (a.heap.size+2) 3 1 n (q.map nv)) (H (.tmp 198)) d:=j 7 198 kR rfl;obtain ⟨t,v,ac,C⟩:=a4;go_simp;exact z _ _ (aJ bR) ⟨t,v,rfl,C⟩
   exact aD
 · intro H m b j R;replace b:Keep (fun _=>False) y m:=kD b;have a5:(rO (a.heap.size+2) 3 1 n (q.map nv)) (H (.tmp 6)) m:=j 8 6 rfl;obtain ⟨au,am⟩:∃a6,(rO (a.heap.size+2) 3 1 n (q.map nv)) a6 m:=R 8 dC;simp only [zqq];clear j R;obtain ⟨t,v,X,C⟩:=a5;rw [X];have a1:Below a.heap.size a m:=e.low.trans (b.to_below e.low.size (fun G A g=>g));have i:Bk m (a.heap.size+1) 50 #[.int .i64 0,.int .i64 0,.slice none 0 0,.slice none 0 0]:=b.bk e.res (fun g=>g);have an:m.cell? ⟨a.heap.size+1,0,none⟩=some (.int .i64 0):=(i.cell 0).trans rfl;have ad:=i.frozen 0;have ao:m.cell? ⟨a.heap.size+1,1,none⟩=some (.int .i64 0):=(i.cell 1).trans rfl;have ae:=i.frozen 1;have ap:m.cell? ⟨a.heap.size+1,2,none⟩=some (.slice none 0 0):=(i.cell 2).trans rfl;have af:=i.frozen 2;have aq:m.cell? ⟨a.heap.size+1,3,none⟩=some (.slice none 0 0):=(i.cell 3).trans rfl;have ag:=i.frozen 3;go_wp2;have S:=aCT (v0:=.int .i64 0) (v1:=.int .i64 (n:Int)) (v2:=.slice none 0 0) (v3:=.slice t n v) (Nat.le_succ a.heap.size) a1;rw [<-N.out] at*
   exact cQ (s:=a.heap.size+1) (A1:=none) (c1:=0) (A2:=t) (c2:=v) rfl (lW i) (Keep.of_below S) (RdN.nil _ _ _ _) ((C.keepF qJ (fun G A=>by subst A;omega)).mono oM) (V.out.below S a2)
theorem aG4 (g:Nat) (j:Option Addr) (e l r:Nat) (a f d:Int) (m:Int) (c s:List UInt8) (q:Nat) (o:c.length=q) (b:World) (i:Bk b g 56 #[.string ⟨c.toArray⟩,.int .i64 m])
 (n:Rd b r 1 j e (s.map bv)) (y:r<=b.heap.size) (v:0 < e->∀u,j=some u->u.block≠g) (G:q<=549755813888) (E:e<=549755813888) (K:-9223372036854775808<=(f:Int)/\(f:Int)<=9223372036854775807) (I:-9223372036854775808<=(d:Int)/\(d:Int)<=9223372036854775807) (J:0<=m/\m<=2147483648)
 (z:a < 1∨8 < a):
 Calls prog 25 #[g,aZ a f d j e l] b fun x A=>cD g m (c) ⟨1,0, [], []⟩ b A x:=by
 have F:s.length=e:=by simpa using n.1
 have t:=bS (kind:=a) (p:=f) (k:=d) (cd:=l) i n y;obtain ⟨B,w,D,C⟩:=hqq4 t i o v;have H:=i.lt;have U:(⟨c.toArray⟩:ByteArray).size=q:=(aT c).trans o;have T:b.cell? ⟨g,0,none⟩=some (.string ⟨c.toArray⟩):=(i.cell 0).trans rfl;clear n i t o v;have L:(a==1)=false:=by rw [zCb];omega
 have M:(a==2)=false:=by rw [zCb];omega
 have N:(a==3)=false:=by rw [zCb];omega
 have O:(a==4)=false:=by rw [zCb];omega
 have P:(a==5)=false:=by rw [zCb];omega
 have Q:(a==6)=false:=by rw [zCb];omega
 have R:(a==7)=false:=by rw [zCb];omega
 have S:(a==8)=false:=by rw [zCb];omega
 clear z;unfold aZ;go_enter func25,ntmps25;go_wp2;exact cQ (A1:=none) (c1:=0) (A2:=none) (c2:=0) rfl (dT b a f d j e l #[.int .i64 1,.int .i64 0,.slice none 0 0,.slice none 0 0]) (Keep.of_below (dQ _ _ _ _ _ _ _ _)) (RdN.nil _ _ _ _) (bB _ _ _) ((w.out.alloc _).alloc _)
theorem vE {c:Nat} {a b:Int} (d:iE c a b=false):a < 0∨(0<=a/\b < 0)∨(0<=a/\0<=b/\(c:Int) < a)∨(0<=a/\0<=b/\a<=(c:Int)/\(c:Int) - a < b):=by
 unfold iE at d;have:=of_decide_eq_false d;omega
theorem aJ3 (i:Nat) (k:Option Addr) (d n m:Nat) (C l j b:Int) (g f:List UInt8) (I:List UInt8) (T:Told) (a:doM g b C l j f=(I,T)) (e:World) (u:Bk e i 56 #[.string ⟨g.toArray⟩,.int .i64 b])
 (o:Rd e m 1 k d (f.map bv)) (q:m<=e.heap.size) (t:0 < d->∀A,k=some A->A.block≠i) (W:g.length<=549755813888) (r:d<=549755813888) (x:-9223372036854775808<=l/\l<=9223372036854775807) (v:-9223372036854775808<=j/\j<=9223372036854775807) (w:0<=b/\b<=2147483648):
 Calls prog 25 #[i,aZ C l j k d n] e fun U V=>cD i b I T e V U:=by
 have G:f.length=d:=by simpa using o.1
 obtain ⟨c,p⟩:=eqx g.length;have s:c<=549755813888:=oM;unfold doM at a;rw [p] at a;by_cases L:C=1
 · subst L;rw [zBx rfl] at a;cases z:iE c l 0 with
   | false=>
     rw [zBx z] at a;cases a;rcases vE z with y |⟨_,y⟩|⟨y,_,B⟩|⟨_,_,y,B⟩;exact aDx i k d n m l j b g f c p e u o q t s r x v w y;exact absurd y oM;exact aDy i k d n m l j b g f c p e u o q t s r x v w oM oM;omega
   | true=>
     rw [zBw (by rw [z];decide)] at a;by_cases H:b -(c:Int) < (f.length:Int);rw [zBx H] at a;cases a;obtain ⟨A,D,rfl,K,E⟩:=iJ z;exact aBP i k d n m A j b g f c p e u o q t s r x v w oM oM (by rw [<-G];exact H);rw [zBw H] at a;cases a;obtain ⟨A,D,rfl,K,E⟩:=iJ z;exact aFc i k d n m A j b g f c p e u o q t s r x v w oM (by rw [<-G];omega)
 rw [zBw L] at a;by_cases M:C=2
 · subst M;rw [zBx rfl] at a;cases z:iE c l j with
   | false=>
     rw [zBx z] at a;cases a;rcases vE z with y |⟨y,B⟩|⟨y,B,F⟩|⟨y,B,F,J⟩;exact aDz i k d n m l j b g f c p e u o q t s r x v w y;exact aBQ i k d n m l j b g f c p e u o q t s r x v w oM B;exact aDA i k d n m l j b g f c p e u o q t s r x v w oM oM oM;exact aBR i k d n m l j b g f c p e u o q t s r x v w oM oM oM oM
   | true=>
     rw [zBw (by rw [z];decide)] at a;cases a;obtain ⟨A,D,rfl,rfl,E⟩:=iJ z;exact aFd i k d n m A D b g f c p e u o q t s r x v w E
 rw [zBw M] at a;by_cases P:C=5
 · subst P;rw [zBx rfl] at a;cases z:iE c l j with
   | false=>
     rw [zBx z] at a;cases a;rcases vE z with y |⟨y,B⟩|⟨y,B,F⟩|⟨y,B,F,J⟩;exact aBM i k d n m l j b g f c p e u o q t s r x v w y;exact zS i k d n m l j b g f c p e u o q t s r x v w oM B;exact aBN i k d n m l j b g f c p e u o q t s r x v w oM oM oM;exact zT i k d n m l j b g f c p e u o q t s r x v w oM oM oM oM
   | true=>
     rw [zBw (by rw [z];decide)] at a;cases a;obtain ⟨A,D,rfl,rfl,E⟩:=iJ z;exact aDu i k d n m A D b g f c p e u o q t s r x v w E
 rw [zBw P] at a;by_cases N:C=3
 · subst N;rw [zBx rfl,G] at a;cases z:iE c l d with
   | false=>
     rw [zBx z] at a;cases a;rcases vE z with y |⟨y,B⟩|⟨y,B,F⟩|⟨y,B,F,J⟩;exact aDv i k d n m l j b g f c p e u o q t s r x v w y;omega;exact aDw i k d n m l j b g f c p e u o q t s r x v w oM oM;exact aBO i k d n m l j b g f c p e u o q t s r x v w oM oM oM
   | true=>
     rw [zBw (by rw [z];decide)] at a;cases a;obtain ⟨A,D,rfl,K,E⟩:=iJ z;exact aE9 i k d n m A j b g f c p e u o q t s r x v w oM
 rw [zBw N] at a;by_cases O:C=4;subst O;rw [zBx rfl] at a;cases a;exact aJ2 i k d n m l j b g f c p e u o q t s r x v w;rw [zBw O] at a;by_cases Q:C=6;subst Q;rw [zBx rfl] at a;cases a;exact aG5 i k d n m l j b g f c p e u o q t s r x v w;rw [zBw Q] at a;by_cases R:C=7;subst R;rw [zBx rfl] at a;cases a;exact aFb i k d n m l j b g f c p e u o q t s r x v w;rw [zBw R] at a;by_cases S:C=8;subst S;rw [zBx rfl] at a;cases a;exact aFa i k d n m l j b g f c p e u o q t s r x v w;rw [zBw S] at a;cases a;exact aG4 i k d n m C l j b g f c p e u o q t s r x v w oM
theorem aEN (b c:List UInt8) (n a o m:Int):(doM b n a o m c).2.places.length<=b.length+1:=by
 unfold doM;by_cases d:a=1
 · rw [zBx d];split
   · simp
   · split <;> simp
 rw [zBw d];by_cases e:a=2
 · rw [zBx e];split <;> simp
 rw [zBw e];by_cases i:a=5
 · rw [zBx i];split <;> simp
 rw [zBw i];by_cases f:a=3
 · rw [zBx f];split <;> simp
 rw [zBw f];by_cases g:a=4
 · rw [zBx g];simp
 rw [zBw g];by_cases j:a=6
 · rw [zBx j];simp
 rw [zBw j];by_cases k:a=7;rw [zBx k];have:=aAB b c (b.length+1 - c.length);simp only [fC];omega;rw [zBw k];by_cases l:a=8
 · rw [zBx l];simp
 rw [zBw l];simp
def nN (d f c:Int) (a:Option Addr) (e b:Nat):Array Value:=#[.int .i64 d,.int .i64 f,.int .i64 c,.slice a e b]
def nB (a:Int):Prop:=-9223372036854775808<=a/\a<=9223372036854775807
def yV (e:World) (f:Option Addr) (j g:Nat) (i:Ending) (k:World):Prop:=
 ∃b d a c,i=.returned (.agg (nN b d a f c g))/\c<=j/\nB b/\nB d/\nB a/\Below e.heap.size e k
theorem wR {l e:World} {k:Array Value} {g m d j:Nat} {c a b:Int} {i:Option Addr} (u:k.getD 6 undef=.pointer (some ⟨g,0,none⟩)) (r:Bk e g 46 (nN c a b i d j)) (t:d<=m) (n:nB c) (o:nB a) (q:nB b) (s:Below l.heap.size l e):
 bodyPost prog f20 (yV l i m j) .ret ⟨k, []⟩ e:=
 bodyPost_ret (results_cell_row (P:=prog) (fn:=f20) (p:=6) (ty:=46) rfl k e g 46 (nN c a b i d j) (0,0) _ u r underlying46 rfl kR) rfl ⟨c,a,b,d,rfl,t,n,o,q,s⟩
theorem aI7 (f i e:Int) (d:Option Addr) (a b o j:Nat) (c:World) (a3:o<=1000000) (Z:j<=1000000) (a2:a<=b) (Y:b<=maxLen) (t:0 < a->∃q r,d=some ⟨q,r,none⟩) (z:nB f) (A:nB i) (B:nB e):
 Calls prog 20 #[.agg #[.int .i64 f,.int .i64 i,.int .i64 e,.slice d a b],(o:Int),(j:Int)] c (yV c d a b):=by
 obtain ⟨u,n⟩:=eqx c.heap.size;obtain ⟨s,p⟩:=eqx ((c.alloc (.cells #[.int .i64 f,.int .i64 i,.int .i64 e,.slice d a b] 46)).alloc (.cells #[.int .i64 0,.int .i64 0,.int .i64 0,.slice none 0 0] 46));have E:Bk s u 46 (nN f i e d a b):=by rw [<-p,<-n];exact (Bk.new c _ _).alloc _
 have D:Bk s (u+1) 46 (nN 0 0 0 none 0 0):=by rw [<-p,<-n];have:=Bk.new (c.alloc (.cells #[.int .i64 f,.int .i64 i,.int .i64 e,.slice d a b] 46)) 46 (nN 0 0 0 none 0 0);rw [World.size_alloc] at this;exact this
 have C:Below u c s:=by rw [<-p,<-n];exact (bR.alloc nL _).alloc (by simp) _
 have a0:((j:Int).tmod 7)=((j % 7:Nat):Int):=rfl;obtain ⟨R,O,Q,P,N,F,G,H⟩:=hqq8 n C E D p z A B;clear C E D p z A B;go_enter func20,ntmps20;by_cases X:j % 7=6
 · have I:(((j % 7:Nat):Int)==6)=true:=(by rw [zCq];omega);clear n;go_wp2_with fail;refine wR (g:=c.heap.size+1) rfl ?_ (zAs a) F.out G.out H.out ((bR.alloc nL _).alloc (by simp) _);have:=Bk.new (c.alloc (.cells #[.int .i64 f,.int .i64 i,.int .i64 e,.slice d a b] 46)) 46 (nN f i e d a b);rw [World.size_alloc] at this;exact this
 · have I:(((j % 7:Nat):Int)==6)=false:=(by rw [zCb];omega);obtain ⟨k,a4,K⟩:=iH f 8 oM;obtain ⟨l,a5,L⟩:=iH i ((o:Int)+1) oM;obtain ⟨m,a6,M⟩:=iH e 7 oM;have S:IntKind.i64.wrap (k:Int)=(k:Int):=(by rw [IntKind.wrap_i64];omega);have T:IntKind.i64.wrap (l:Int)=(l:Int):=(by rw [IntKind.wrap_i64];omega);have U:IntKind.i64.wrap (m:Int)=(m:Int):=(by rw [IntKind.wrap_i64];omega);have V:IntKind.u64.wrap ((o:Int)+1)=(o:Int)+1:=(by rw [IntKind.wrap_u64];omega);have W:¬(o:Int)+1=0:=oM;have b1:nB (wrap64 (1+(k:Int))):=(by unfold nB wrap64;omega);have b2:nB (l:Int):=(by unfold nB;omega);have y:nB (m:Int):=(by unfold nB;omega);obtain ⟨v,w,x⟩:=hqq3 b1 b2 y;clear n K L M b1 b2 y;by_cases a1:6 < a
   · have J:decide ((a:Int) > 6)=true:=zBz oM;obtain ⟨q,r,rfl⟩:=t oM;clear t;go_wp2_with fail;refine wR (g:=c.heap.size+1) rfl ?_ (show 6<=a by omega) v.out w.out x.out ((bR.alloc nL _).alloc (by simp) _);have:=Bk.new (c.alloc (.cells #[.int .i64 (wrap64 (1+(k:Int))),(l:Int),(m:Int),.slice (some ⟨q,r,none⟩) 6 b] 46)) 46 (nN (wrap64 (1+(k:Int))) l m (some ⟨q,r,none⟩) 6 b);rw [World.size_alloc] at this;exact this
   · have J:decide ((a:Int) > 6)=false:=zBy oM;clear t;go_wp2_with fail;refine wR (g:=c.heap.size+1) rfl ?_ (zAs a) v.out w.out x.out ((bR.alloc nL _).alloc (by simp) _);have:=Bk.new (c.alloc (.cells #[.int .i64 (wrap64 (1+(k:Int))),(l:Int),(m:Int),.slice d a b] 46)) 46 (nN (wrap64 (1+(k:Int))) l m d a b);rw [World.size_alloc] at this;exact this
def aCW (a:List Stp) (b c:Nat):Bool:=(a.all fun d=>decide (d.n<=60))&&decide (b<=c)
theorem aJe (o:Option Addr) (d D w f:Nat) (c:List Stp) (j:World) (t:Rd j w 4 o d (gJ c)) (q:c.length=d) (G:d<=maxLen) (r:∀a∈c,a.n<=maxLen):
 Calls prog 24 #[.slice o d D,(f:Int)] j fun E K=>E=.returned (.bool (aCW c d f))/\j=K:=by
 obtain ⟨A,k,x⟩:=hqq3 t q r;unfold maxLen at G;clear t q r;go_enter func24,ntmps24;go_wp2;go_loopw [5] (fun m wr=>∃b:Nat,b<=d/\m=.int .i64 b/\(∀a∈c.take b,a.n<=60)/\j=wr) (fun m _=>d -(intOf m).toNat)
 case atStart=>exact ⟨0,zAp _,rfl,by simp,rfl⟩
 case round=>
  obtain ⟨b,P,rfl,i,rfl⟩:=hrel;by_cases Q:b < d
  · obtain ⟨a,e⟩:∃a,c[b]?=some a:=⟨c[b]'(by have:=k.out;omega),zAa (by have:=k.out;omega)⟩;obtain ⟨C,I,rfl,N,p⟩:=A.out.2 oM;have M:j.cell? ⟨C,I+b*4+3,none⟩=some (.slice a.A a.n a.c):=(by rw [Nat.add_assoc];exact p (b*4+3) _ ((fL c b 3 a e oM).trans rfl));have H:=x.out a (zAd e);unfold maxLen at H;have s:c.take (b+1)=c.take b++ [a]:=(by rw [zAv,e];rfl);obtain ⟨z,y,B⟩:=hqq3 i s e;clear p i s e;by_cases F:a.n<=60
    · have J:decide ((a.n:Int) > 60)=false:=(by simp;omega);go_wp2;go_roundw
      case rel=>refine ⟨b+1,by omega,by go_num,?_,trivial⟩;intro L v;rw [y.out] at v;rcases zCp.1 v with g | g;exact z.out L g;rw [List.mem_singleton.1 g];exact F
      case measure=>simp [intOf];omega
    · have J:decide ((a.n:Int) > 60)=true:=(by simp;omega);have l:aCW c d f=false:=(by unfold aCW;have:(c.all fun a=>decide (a.n<=60))=false:=(by rw [List.all_eq_false];exact ⟨a,zAd B.out,by simp;omega⟩);rw [this,Bool.false_and]);go_wp2;go_ret;exact ⟨cK l.symm,rfl⟩
  · have O:d<=b:=oM;have u:c.take b=c:=zAg (by have:=k.out;omega);rw [u] at i;have l:aCW c d f=decide (d<=f):=(by unfold aCW;rw [zBf.2 (fun a e=>zBz (i a e)),Bool.true_and]);clear u i;go_wp2;go_ret;exact ⟨cK (by rw [l] <;>(by_cases g:d<=f <;> simp [g] <;> omega)),rfl⟩
end Go.Proofs.YthldmddkfbijhaaGreatDoor
