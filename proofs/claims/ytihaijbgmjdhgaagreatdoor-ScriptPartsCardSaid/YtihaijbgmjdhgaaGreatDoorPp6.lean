/- Lemmas of the walk. Conditions: each its own. -/
import Derived.Test.YtihaijbgmjdhgaaGreatDoorPp2
import Derived.Test.YtihaijbgmjdhgaaGreatDoorPp3
import Derived.Test.YtihaijbgmjdhgaaGreatDoorProg
set_option linter.all false
set_option maxRecDepth 100000
set_option maxHeartbeats 4000000
namespace Go.Proofs.YtihaijbgmjdhgaaGreatDoor
open Tryz
open Go.RowKit
def PlS (w:World) (gp:Nat) (T:List UInt8):Prop:=∃A c,Bk w gp 63 #[.slice A T.length c]/\Rd w w.heap.size 1 A T.length (T.map bv)/\T.length<=c/\(0 < T.length->∀a,A=some a->a.block≠gp/\∃b,Bk w a.block 5 b)
theorem dS {w:World} {gp:Nat} {T:List UInt8} (b:PlS w gp T):∃A c,Bk w gp 63 #[.slice A T.length c]/\Rd w w.heap.size 1 A T.length (T.map bv)/\T.length<=c/\(0 < T.length->∀a,A=some a->a.block≠gp):=by
 obtain ⟨A,c,e,f,i,j⟩:=b;exact ⟨A,c,e,f,i,fun d a l=>(j d a l).1⟩
def dM (gp:Nat) (i:List UInt8) (a:Told) (w w':World) (l:Ending):Prop:=
 ∃b e d f,l=.returned (.agg (iK a b e d f))/\Keep (fun j=>j=gp) w w'/\Made w' w.heap.size 5 1 b a.data.length e (a.data.map bv)/\Made w' w.heap.size 3 1 d a.places.length f (a.places.map nv)/\PlS w' gp i
theorem eG {gp:Nat} {e:List UInt8} {a:Told} {w w':World} {d:Array Value} {s:Nat} {A1:Option Addr} {c1:Nat} {A2:Option Addr} {c2:Nat} {b:Exit} (u:b=.ret∨b=.normal) (v:d.getD 4 undef=.pointer (some s)) (t:Bk w' s 41 (iK a A1 c1 A2 c2))
 (i:Keep (fun q=>q=gp) w w') (j:Made w' w.heap.size 5 1 A1 a.data.length c1 (a.data.map bv)) (l:Made w' w.heap.size 3 1 A2 a.places.length c2 (a.places.map nv)) (m:PlS w' gp e):
 bodyPost prog f30 (fun r w'=>dM gp e a w w' r) b ⟨d, []⟩ w':=by
 have o:=results_cell_row (P:=prog) (fn:=f30) (p:=4) (ty:=41) rfl d w' s 41 (iK a A1 c1 A2 c2) (0,0) _ v t underlying41 rfl kR;rcases u with rfl | rfl;exact bodyPost_ret o rfl ⟨A1,c1,A2,c2,rfl,i,j,l,m⟩;exact bodyPost_end o rfl ⟨A1,c1,A2,c2,rfl,i,j,l,m⟩
theorem PlS.keep {w w':World} {gp:Nat} {T:List UInt8} (l:PlS w gp T) (k:Grow w w'):PlS w' gp T:=by
 obtain ⟨A,c,e,m,o,f⟩:=l
 exact ⟨A,c,e.below k e.lt,(m.below k).mono (Below.size k),o,fun d a i=>⟨(f d a i).1,by
  obtain ⟨j,b⟩:=(f d a i).2;exact ⟨j,b.below k b.lt⟩⟩⟩
structure DoF (w W:World) (g gp n c nd cd:Nat) (A AD:Option Addr) (T D:List UInt8) (most kind p k:Int):Prop where
 low:Below w.heap.size w W
 step:Bk W w.heap.size 44 #[.int .i64 kind,.int .i64 p,.int .i64 k,.slice AD nd cd]
 res:Bk W (w.heap.size+1) 41 #[.int .i64 0,.int .i64 0,.slice none 0 0,.slice none 0 0]
 mod:Bk W g 65 #[gp,.int .i64 most]
 pl:Bk W gp 63 #[.slice A n c]
 rT:Rd W w.heap.size 1 A n (T.map bv)
 rD:Rd W w.heap.size 1 AD nd (D.map bv)
 gpl:gp < w.heap.size
 gne:g≠gp
 gll:g < w.heap.size
section
variable {w W W' : World} {g gp n c nd cd : Nat} {A AD : Option Addr} {T D : List UInt8} {most kind p k : Int}
theorem DoF.grow (a:DoF w W g gp n c nd cd A AD T D most kind p k) (b:Grow W W'):DoF w W' g gp n c nd cd A AD T D most kind p k:=
 ⟨a.low.trans (Below.mono b a.low.size),a.step.below b a.step.lt,a.res.below b a.res.lt,a.mod.below b a.mod.lt,a.pl.below b a.pl.lt,a.rT.below (Below.mono b a.low.size),a.rD.below (Below.mono b a.low.size),a.gpl,a.gne,a.gll⟩
theorem dF {b:Nat} (e:Bk w g 65 #[gp,.int .i64 most]) (d:Bk w gp 63 #[.slice A n c]) (l:Rd w w.heap.size 1 A n (T.map bv)) (i:Rd w b 1 AD nd (D.map bv)) (f:b<=w.heap.size) (j:g≠gp):
 DoF w ((w.alloc (.cells #[.int .i64 kind,.int .i64 p,.int .i64 k,.slice AD nd cd] 44)).alloc (.cells #[.int .i64 0,.int .i64 0,.slice none 0 0,.slice none 0 0] 41)) g gp n c nd cd A AD T D most kind p k:=by
 have a:=((Below.refl w.heap.size w).alloc nL (.cells #[.int .i64 kind,.int .i64 p,.int .i64 k,.slice AD nd cd] 44)).alloc (by simp) (.cells #[.int .i64 0,.int .i64 0,.slice none 0 0,.slice none 0 0] 41);refine ⟨a,(Bk.new _ _ _).alloc _,?_,(e.alloc _).alloc _,(d.alloc _).alloc _,l.below a,(i.mono f).below a,d.lt,j,e.lt⟩;simpa using Bk.new (w.alloc (.cells #[.int .i64 kind,.int .i64 p,.int .i64 k,.slice AD nd cd] 44)) 41 #[.int .i64 0,.int .i64 0,.slice none 0 0,.slice none 0 0]
theorem oP {f d:Nat} {e:List UInt8} (q:Bk W gp 63 #[.slice A d c]) (b:Made W f 5 1 A d c (e.map bv)) (m:e.length=d) (t:gp < f):PlS W gp e:=by
 subst m;refine ⟨A,c,q,b.rd,b.cap,fun _ i o=>?_⟩;subst o;have:=(b.own.lt i.block rfl).1;refine ⟨by omega,?_⟩;obtain ⟨g,s,j,a,_,l,_⟩:=b.own.2.resolve_left (fun r=>by
  have:=r.1;injection this with q1;cases q1)
 injection a with a;injection a with a;rw [a];exact ⟨j,l⟩
end
def aDM (b:Nat) (d:Int) (a:List UInt8):Value->World->Prop:=fun e w=>∃A c,e=.agg (iK ⟨0,d,a, []⟩ A c none 0)/\Made w b 5 1 A a.length c (a.map bv)
theorem aBs {b:Nat->Prop} {a:Nat} (j:∀d,b d->d < a) (l:Int) (e:List UInt8):pG b (aDM a l e):=fun _ _ _ ⟨A,c,f,i⟩ k=>⟨A,c,f,i.keepF k j⟩
def aDL (e b:Nat) (d:Int) (a:List UInt8):Value->World->Prop:=fun _ w=>∃A c,Bk w e 41 (iK ⟨0,d,a, []⟩ A c none 0)/\Made w b 5 1 A a.length c (a.map bv)
theorem aCl (i b:Nat) (f:Int) (d:List UInt8):Stb (aDL i b f d):=fun _ _ _ ⟨A,c,a,e⟩ k=>⟨A,c,Bk.below a k a.lt,e.below k⟩
def wL (gp b d:Nat) (T:List UInt8):Value->World->Prop:=fun a w=>a=.tuple #[]/\plV gp b d T a w
theorem oG (gp a b:Nat) (T:List UInt8):Stb (wL gp a b T):=fun f w w' ⟨d,e⟩ k=>⟨d,yZ _ _ _ _ f w w' e k⟩
theorem tL (g gp:Nat) (AD:Option Addr) (nd cd t:Nat) (p k:Int) (most:Int) (T D:List UInt8) (w:World) (C:Bk w g 65 #[gp,.int .i64 most]) (F:PlS w gp T)
 (o:Rd w t 1 AD nd (D.map bv)) (J:t<=w.heap.size) (B:0 < nd->∀u,AD=some u->u.block≠gp) (M:g≠gp) (L:T.length<=549755813888) (a0:nd<=549755813888) (O:-9223372036854775808<=(p:Int)/\(p:Int)<=9223372036854775807) (a2:-9223372036854775808<=(k:Int)/\(k:Int)<=9223372036854775807) (a3:0<=most/\most<=2147483648)
 (E:dL T.length p 0=false):
 Calls prog 30 #[g,bZ 1 p k AD nd cd] w fun v w'=>dM gp (T) ⟨2,0, [], []⟩ w w' v:=by
 have G:=lhd F;obtain ⟨A,c,m,r,N,q⟩:=dS F;obtain ⟨n,j⟩:=eqx T.length;rw [j] at m r N L q;rw [j] at E;have a1:D.length=nd:=by simpa using o.1
 have b:=dF (kind:=1) (p:=p) (k:=k) (cd:=cd) C m r o J M;obtain ⟨l,Q,R,P⟩:=hqq4 b j q B;clear m r o C b j q B;unfold bZ;go_enter func30,ntmps30;go_wp2;obtain ⟨W,y⟩:=eqx ((w.alloc (.cells #[.int .i64 1,.int .i64 p,.int .i64 k,.slice AD nd cd] 44)).alloc (.cells #[.int .i64 0,.int .i64 0,.slice none 0 0,.slice none 0 0] 41));rw [y] at l⊢;have b:=l.out;clear y l;refine wp_region_any kR ?_;refine aI [15,16,17,18,19,20,21,22,14] Grow (Vs [is g,is g,is g,is gp,is (.pointer (some ⟨w.heap.size,1,none⟩)),is (.int .i64 p),is (.bool false),is (.bool true),is (.bool true)]) _ _ rfl kR bR (fun _ _=>Grow.trans) (dQ tA0) ?_ ?_
 · refine aG ?_;refine pH 0 (.pointer (some g)) ?_;refine pV 0 15 ?_;refine pV 1 16 ?_;refine pL 2 17 (fun e a=>have a:Grow W e:=gD a;(((b.mod.below a b.mod.lt).cell 0).trans rfl:e.cell? g=some (.pointer (some gp)))) ?_;refine pH 3 (.pointer (some w.heap.size)) ?_;refine pL 4 19 (fun e a=>have a:Grow W e:=gD a;(((b.step.below a b.step.lt).cell 1).trans rfl:e.cell? ⟨w.heap.size,1,none⟩=some (.int .i64 p))) ?_;refine sC (fun _ e a _ _ _ f _ _ _ K=>?_) ?_
   · have S:_=_:=f 3 18 kR rfl;have U:_=_:=f 5 20 kR rfl;replace a:Grow W e:=gD a;go_simp;refine (fI gp A n c p (0) e (((b.pl.below a b.pl.lt).cell 0).trans rfl) oM O oM).mono ?_;rintro v a8 ⟨rfl,rfl⟩;exact K _ _ bR (eH E)
   refine pV 6 21 ?_;refine pV 7 22 ?_;exact aC
 · intro I i a f;replace a:Grow W i:=gD a;have H:I (.tmp 14)=.bool true:=f 8 14 rfl;simp only [zqq];rw [H];clear f;have x:=b.grow a;have d:=x.res;have a4:i.cell? ⟨w.heap.size+1,0,none⟩=some (.int .i64 0):=(d.cell 0).trans rfl;have V:=d.frozen 0;have a5:i.cell? ⟨w.heap.size+1,1,none⟩=some (.int .i64 0):=(d.cell 1).trans rfl;have X:=d.frozen 1;have a6:i.cell? ⟨w.heap.size+1,2,none⟩=some (.slice none 0 0):=(d.cell 2).trans rfl;have Y:=d.frozen 2;have a7:i.cell? ⟨w.heap.size+1,3,none⟩=some (.slice none 0 0):=(d.cell 3).trans rfl;have Z:=d.frozen 3;go_wp2;have z:=gR (v0:=.int .i64 2) (v1:=.int .i64 0) (v2:=.slice none 0 0) (v3:=.slice none 0 0) (Nat.le_succ w.heap.size) x.low;exact eG (s:=w.heap.size+1) (A1:=none) (c1:=0) (A2:=none) (c2:=0) (.inl rfl) rfl (eE d) (Keep.of_below z) (aM _ _ _) (aM _ _ _) (G.out.keep z)
theorem vZ (g gp:Nat) (AD:Option Addr) (nd cd v:Nat) (p k:Int) (most:Int) (T D:List UInt8) (w:World) (F:Bk w g 65 #[gp,.int .i64 most]) (H:PlS w gp T)
 (r:Rd w v 1 AD nd (D.map bv)) (M:v<=w.heap.size) (E:0 < nd->∀x,AD=some x->x.block≠gp) (P:g≠gp) (N:T.length<=549755813888) (a7:nd<=549755813888) (R:-9223372036854775808<=(p:Int)/\(p:Int)<=9223372036854775807) (a9:-9223372036854775808<=(k:Int)/\(k:Int)<=9223372036854775807) (aa:0<=most/\most<=2147483648)
 (G:dL T.length p 0=true) (O:most -(T.length:Int) < (nd:Int)):
 Calls prog 30 #[g,bZ 1 p k AD nd cd] w fun y w'=>dM gp (T) ⟨3,0, [], []⟩ w w' y:=by
 have J:=lhd H;obtain ⟨A,c,q,u,Q,t⟩:=dS H;obtain ⟨n,l⟩:=eqx T.length;rw [l] at q u Q N t;rw [l] at G O;have a8:D.length=nd:=by simpa using r.1
 have b:=dF (kind:=1) (p:=p) (k:=k) (cd:=cd) F q u r M P;obtain ⟨m,U,V,S⟩:=hqq4 b l t E;clear q u r F b l t E;unfold bZ;go_enter func30,ntmps30;go_wp2;obtain ⟨W,B⟩:=eqx ((w.alloc (.cells #[.int .i64 1,.int .i64 p,.int .i64 k,.slice AD nd cd] 44)).alloc (.cells #[.int .i64 0,.int .i64 0,.slice none 0 0,.slice none 0 0] 41));rw [B] at m⊢;have b:=m.out;clear B m;refine wp_region_any kR ?_;refine aI [15,16,17,18,19,20,21,22,14] Grow (Vs [is g,is g,is g,is gp,is (.pointer (some ⟨w.heap.size,1,none⟩)),is (.int .i64 p),is (.bool true),is (.bool false),is (.bool false)]) _ _ rfl kR bR (fun _ _=>Grow.trans) (dQ tA0) ?_ ?_
 · refine aG ?_;refine pH 0 (.pointer (some g)) ?_;refine pV 0 15 ?_;refine pV 1 16 ?_;refine pL 2 17 (fun d a=>have a:Grow W d:=gD a;(((b.mod.below a b.mod.lt).cell 0).trans rfl:d.cell? g=some (.pointer (some gp)))) ?_;refine pH 3 (.pointer (some w.heap.size)) ?_;refine pL 4 19 (fun d a=>have a:Grow W d:=gD a;(((b.step.below a b.step.lt).cell 1).trans rfl:d.cell? ⟨w.heap.size,1,none⟩=some (.int .i64 p))) ?_;refine sC (fun _ d a _ _ _ e _ _ _ j=>?_) ?_
   · have X:_=_:=e 3 18 kR rfl;have Y:_=_:=e 5 20 kR rfl;replace a:Grow W d:=gD a;go_simp;refine (fI gp A n c p (0) d (((b.pl.below a b.pl.lt).cell 0).trans rfl) oM R oM).mono ?_;rintro y af ⟨rfl,rfl⟩;exact j _ _ bR (eH G)
   refine pV 6 21 ?_;refine pV 7 22 ?_;exact aC
 · intro o i a e;replace a:Grow W i:=gD a;have K:o (.tmp 14)=.bool false:=e 8 14 rfl;simp only [zqq];rw [K];clear e;have I:=b.grow a;clear b a;revert I;generalize i=W2;intro b;go_wp2;refine wp_region_any kR ?_;refine aI [25,26,27,28,29,30,31,32,33,34,35,36,37,38,39,40,41,24] Grow (Vs [is (.pointer (some ⟨w.heap.size,3,none⟩)),is (.slice AD nd cd),is (nd:Int),is g,is g,is (.pointer (some ⟨g,1,none⟩)),is (.int .i64 most),is g,is g,is g,is gp,is gp,is gp,is (.slice A n c),is (n:Int),is (.int .i64 (most -(n:Int))),is (.bool true),is (.bool true)]) _ _ rfl kR bR (fun _ _=>Grow.trans) (dQ tA0) ?_ ?_
   · refine aG ?_;refine pH 3 (.pointer (some w.heap.size)) ?_;refine pL 0 25 (fun d a=>have a:Grow W2 d:=gD a;(((b.step.below a b.step.lt).cell 3).trans rfl:d.cell? ⟨w.heap.size,3,none⟩=some (.slice AD nd cd))) ?_;refine pV 1 26 ?_;refine pH 0 (.pointer (some g)) ?_;refine pV 3 28 ?_;refine pV 4 29 ?_;refine pL 5 30 (fun d a=>have a:Grow W2 d:=gD a;(((b.mod.below a b.mod.lt).cell 1).trans rfl:d.cell? ⟨g,1,none⟩=some (.int .i64 most))) ?_;refine pH 0 (.pointer (some g)) ?_;refine pV 7 32 ?_;refine pV 8 33 ?_;refine pL 9 34 (fun d a=>have a:Grow W2 d:=gD a;(((b.mod.below a b.mod.lt).cell 0).trans rfl:d.cell? g=some (.pointer (some gp)))) ?_;refine pV 10 35 ?_;refine pV 11 36 ?_;refine pL 12 37 (fun d a=>have a:Grow W2 d:=gD a;(((b.pl.below a b.pl.lt).cell 0).trans rfl:d.cell? gp=some (.slice A n c))) ?_;refine pV 13 38 ?_;refine sC (fun _ _ _ _ _ _ e _ _ _ j=>?_) ?_
     · have a0:_=_:=e 6 31 kR rfl;have a1:_=_:=e 14 39 kR rfl;go_simp;exact j _ _ bR (cS (by rw [IntKind.wrap_i64];omega))
     refine sC (fun _ _ _ _ _ _ e _ _ _ j=>?_) ?_
     · have Z:_=_:=e 2 27 kR rfl;have a2:_=_:=e 15 40 kR rfl;go_simp;exact j _ _ bR (eH (by simp <;> omega))
     refine pV 16 41 ?_;exact aC
   · intro o i a e;replace a:Grow W2 i:=gD a;have L:o (.tmp 24)=.bool true:=e 17 24 rfl;simp only [zqq];rw [L];clear e;have z:=b.grow a;have f:=z.res;have ab:i.cell? ⟨w.heap.size+1,0,none⟩=some (.int .i64 0):=(f.cell 0).trans rfl;have a3:=f.frozen 0;have ac:i.cell? ⟨w.heap.size+1,1,none⟩=some (.int .i64 0):=(f.cell 1).trans rfl;have a4:=f.frozen 1;have ad:i.cell? ⟨w.heap.size+1,2,none⟩=some (.slice none 0 0):=(f.cell 2).trans rfl;have a5:=f.frozen 2;have ae:i.cell? ⟨w.heap.size+1,3,none⟩=some (.slice none 0 0):=(f.cell 3).trans rfl;have a6:=f.frozen 3;go_wp2;have C:=gR (v0:=.int .i64 3) (v1:=.int .i64 0) (v2:=.slice none 0 0) (v3:=.slice none 0 0) (Nat.le_succ w.heap.size) z.low;exact eG (s:=w.heap.size+1) (A1:=none) (c1:=0) (A2:=none) (c2:=0) (.inl rfl) rfl (eE f) (Keep.of_below C) (aM _ _ _) (aM _ _ _) (J.out.keep C)
theorem tM (g gp:Nat) (AD:Option Addr) (nd cd t:Nat) (p k:Int) (most:Int) (T D:List UInt8) (w:World) (C:Bk w g 65 #[gp,.int .i64 most]) (F:PlS w gp T)
 (o:Rd w t 1 AD nd (D.map bv)) (J:t<=w.heap.size) (B:0 < nd->∀u,AD=some u->u.block≠gp) (M:g≠gp) (L:T.length<=549755813888) (a2:nd<=549755813888) (P:-9223372036854775808<=(p:Int)/\(p:Int)<=9223372036854775807) (N:-9223372036854775808<=(k:Int)/\(k:Int)<=9223372036854775807) (a4:0<=most/\most<=2147483648)
 (E:dL T.length p k=false):
 Calls prog 30 #[g,bZ 2 p k AD nd cd] w fun v w'=>dM gp (T) ⟨2,0, [], []⟩ w w' v:=by
 have G:=lhd F;obtain ⟨A,c,m,r,O,q⟩:=dS F;obtain ⟨n,j⟩:=eqx T.length;rw [j] at m r O L q;rw [j] at E;have a3:D.length=nd:=by simpa using o.1
 have b:=dF (kind:=2) (p:=p) (k:=k) (cd:=cd) C m r o J M;obtain ⟨l,R,S,Q⟩:=hqq4 b j q B;clear m r o C b j q B;unfold bZ;go_enter func30,ntmps30;go_wp2;obtain ⟨W,y⟩:=eqx ((w.alloc (.cells #[.int .i64 2,.int .i64 p,.int .i64 k,.slice AD nd cd] 44)).alloc (.cells #[.int .i64 0,.int .i64 0,.slice none 0 0,.slice none 0 0] 41));rw [y] at l⊢;have b:=l.out;clear y l;refine wp_region_any kR ?_;refine aI [55,56,57,58,59,60,61,62,63,64] Grow (Vs [is g,is g,is g,is gp,is (.pointer (some ⟨w.heap.size,1,none⟩)),is (.int .i64 p),is (.pointer (some ⟨w.heap.size,2,none⟩)),is (.int .i64 k),is (.bool false),is (.bool true)]) _ _ rfl kR bR (fun _ _=>Grow.trans) (dQ tA0) ?_ ?_
 · refine aG ?_;refine pH 0 (.pointer (some g)) ?_;refine pV 0 55 ?_;refine pV 1 56 ?_;refine pL 2 57 (fun d a=>have a:Grow W d:=gD a;(((b.mod.below a b.mod.lt).cell 0).trans rfl:d.cell? g=some (.pointer (some gp)))) ?_;refine pH 3 (.pointer (some w.heap.size)) ?_;refine pL 4 59 (fun d a=>have a:Grow W d:=gD a;(((b.step.below a b.step.lt).cell 1).trans rfl:d.cell? ⟨w.heap.size,1,none⟩=some (.int .i64 p))) ?_;refine pH 3 (.pointer (some w.heap.size)) ?_;refine pL 6 61 (fun d a=>have a:Grow W d:=gD a;(((b.step.below a b.step.lt).cell 2).trans rfl:d.cell? ⟨w.heap.size,2,none⟩=some (.int .i64 k))) ?_;refine sC (fun _ d a _ _ _ f _ _ _ K=>?_) ?_
   · have U:_=_:=f 3 58 kR rfl;have V:_=_:=f 5 60 kR rfl;have X:_=_:=f 7 62 kR rfl;replace a:Grow W d:=gD a;go_simp;refine (fI gp A n c p (k) d (((b.pl.below a b.pl.lt).cell 0).trans rfl) oM P N).mono ?_;rintro v a9 ⟨rfl,rfl⟩;exact K _ _ bR (eH E)
   refine pV 8 63 ?_;exact aC
 · intro I i a f;replace a:Grow W i:=gD a;have H:I (.tmp 64)=.bool true:=f 9 64 rfl;simp only [zqq];rw [H];clear f;have x:=b.grow a;have e:=x.res;have a5:i.cell? ⟨w.heap.size+1,0,none⟩=some (.int .i64 0):=(e.cell 0).trans rfl;have Y:=e.frozen 0;have a6:i.cell? ⟨w.heap.size+1,1,none⟩=some (.int .i64 0):=(e.cell 1).trans rfl;have Z:=e.frozen 1;have a7:i.cell? ⟨w.heap.size+1,2,none⟩=some (.slice none 0 0):=(e.cell 2).trans rfl;have a0:=e.frozen 2;have a8:i.cell? ⟨w.heap.size+1,3,none⟩=some (.slice none 0 0):=(e.cell 3).trans rfl;have a1:=e.frozen 3;go_wp2;have z:=gR (v0:=.int .i64 2) (v1:=.int .i64 0) (v2:=.slice none 0 0) (v3:=.slice none 0 0) (Nat.le_succ w.heap.size) x.low;exact eG (s:=w.heap.size+1) (A1:=none) (c1:=0) (A2:=none) (c2:=0) (.inl rfl) rfl (eE e) (Keep.of_below z) (aM _ _ _) (aM _ _ _) (G.out.keep z)
theorem qG (g gp:Nat) (AD:Option Addr) (nd cd t:Nat) (p k:Int) (most:Int) (T D:List UInt8) (w:World) (C:Bk w g 65 #[gp,.int .i64 most]) (F:PlS w gp T)
 (o:Rd w t 1 AD nd (D.map bv)) (J:t<=w.heap.size) (B:0 < nd->∀u,AD=some u->u.block≠gp) (M:g≠gp) (L:T.length<=549755813888) (a2:nd<=549755813888) (P:-9223372036854775808<=(p:Int)/\(p:Int)<=9223372036854775807) (N:-9223372036854775808<=(k:Int)/\(k:Int)<=9223372036854775807) (a4:0<=most/\most<=2147483648)
 (E:dL T.length p k=false):
 Calls prog 30 #[g,bZ 5 p k AD nd cd] w fun v w'=>dM gp (T) ⟨2,0, [], []⟩ w w' v:=by
 have G:=lhd F;obtain ⟨A,c,m,r,O,q⟩:=dS F;obtain ⟨n,j⟩:=eqx T.length;rw [j] at m r O L q;rw [j] at E;have a3:D.length=nd:=by simpa using o.1
 have b:=dF (kind:=5) (p:=p) (k:=k) (cd:=cd) C m r o J M;obtain ⟨l,R,S,Q⟩:=hqq4 b j q B;clear m r o C b j q B;unfold bZ;go_enter func30,ntmps30;go_wp2;obtain ⟨W,y⟩:=eqx ((w.alloc (.cells #[.int .i64 5,.int .i64 p,.int .i64 k,.slice AD nd cd] 44)).alloc (.cells #[.int .i64 0,.int .i64 0,.slice none 0 0,.slice none 0 0] 41));rw [y] at l⊢;have b:=l.out;clear y l;refine wp_region_any kR ?_;refine aI [55,56,57,58,59,60,61,62,63,64] Grow (Vs [is g,is g,is g,is gp,is (.pointer (some ⟨w.heap.size,1,none⟩)),is (.int .i64 p),is (.pointer (some ⟨w.heap.size,2,none⟩)),is (.int .i64 k),is (.bool false),is (.bool true)]) _ _ rfl kR bR (fun _ _=>Grow.trans) (dQ tA0) ?_ ?_
 · refine aG ?_;refine pH 0 (.pointer (some g)) ?_;refine pV 0 55 ?_;refine pV 1 56 ?_;refine pL 2 57 (fun d a=>have a:Grow W d:=gD a;(((b.mod.below a b.mod.lt).cell 0).trans rfl:d.cell? g=some (.pointer (some gp)))) ?_;refine pH 3 (.pointer (some w.heap.size)) ?_;refine pL 4 59 (fun d a=>have a:Grow W d:=gD a;(((b.step.below a b.step.lt).cell 1).trans rfl:d.cell? ⟨w.heap.size,1,none⟩=some (.int .i64 p))) ?_;refine pH 3 (.pointer (some w.heap.size)) ?_;refine pL 6 61 (fun d a=>have a:Grow W d:=gD a;(((b.step.below a b.step.lt).cell 2).trans rfl:d.cell? ⟨w.heap.size,2,none⟩=some (.int .i64 k))) ?_;refine sC (fun _ d a _ _ _ f _ _ _ K=>?_) ?_
   · have U:_=_:=f 3 58 kR rfl;have V:_=_:=f 5 60 kR rfl;have X:_=_:=f 7 62 kR rfl;replace a:Grow W d:=gD a;go_simp;refine (fI gp A n c p (k) d (((b.pl.below a b.pl.lt).cell 0).trans rfl) oM P N).mono ?_;rintro v a9 ⟨rfl,rfl⟩;exact K _ _ bR (eH E)
   refine pV 8 63 ?_;exact aC
 · intro I i a f;replace a:Grow W i:=gD a;have H:I (.tmp 64)=.bool true:=f 9 64 rfl;simp only [zqq];rw [H];clear f;have x:=b.grow a;have e:=x.res;have a5:i.cell? ⟨w.heap.size+1,0,none⟩=some (.int .i64 0):=(e.cell 0).trans rfl;have Y:=e.frozen 0;have a6:i.cell? ⟨w.heap.size+1,1,none⟩=some (.int .i64 0):=(e.cell 1).trans rfl;have Z:=e.frozen 1;have a7:i.cell? ⟨w.heap.size+1,2,none⟩=some (.slice none 0 0):=(e.cell 2).trans rfl;have a0:=e.frozen 2;have a8:i.cell? ⟨w.heap.size+1,3,none⟩=some (.slice none 0 0):=(e.cell 3).trans rfl;have a1:=e.frozen 3;go_wp2;have z:=gR (v0:=.int .i64 2) (v1:=.int .i64 0) (v2:=.slice none 0 0) (v3:=.slice none 0 0) (Nat.le_succ w.heap.size) x.low;exact eG (s:=w.heap.size+1) (A1:=none) (c1:=0) (A2:=none) (c2:=0) (.inl rfl) rfl (eE e) (Keep.of_below z) (aM _ _ _) (aM _ _ _) (G.out.keep z)
theorem tK (g gp:Nat) (AD:Option Addr) (nd cd t:Nat) (p k:Int) (most:Int) (T D:List UInt8) (w:World) (C:Bk w g 65 #[gp,.int .i64 most]) (F:PlS w gp T)
 (o:Rd w t 1 AD nd (D.map bv)) (J:t<=w.heap.size) (B:0 < nd->∀u,AD=some u->u.block≠gp) (M:g≠gp) (L:T.length<=549755813888) (a1:nd<=549755813888) (O:-9223372036854775808<=(p:Int)/\(p:Int)<=9223372036854775807) (a3:-9223372036854775808<=(k:Int)/\(k:Int)<=9223372036854775807) (a4:0<=most/\most<=2147483648)
 (E:dL T.length p nd=false):
 Calls prog 30 #[g,bZ 3 p k AD nd cd] w fun v w'=>dM gp (T) ⟨2,0, [], []⟩ w w' v:=by
 have G:=lhd F;obtain ⟨A,c,m,r,N,q⟩:=dS F;obtain ⟨n,j⟩:=eqx T.length;rw [j] at m r N L q;rw [j] at E;have a2:D.length=nd:=by simpa using o.1
 have b:=dF (kind:=3) (p:=p) (k:=k) (cd:=cd) C m r o J M;obtain ⟨l,Q,R,P⟩:=hqq4 b j q B;clear m r o C b j q B;unfold bZ;go_enter func30,ntmps30;go_wp2;obtain ⟨W,y⟩:=eqx ((w.alloc (.cells #[.int .i64 3,.int .i64 p,.int .i64 k,.slice AD nd cd] 44)).alloc (.cells #[.int .i64 0,.int .i64 0,.slice none 0 0,.slice none 0 0] 41));rw [y] at l⊢;have b:=l.out;clear y l;refine wp_region_any kR ?_;refine aI [97,98,99,100,101,102,103,104,105,106,107] Grow (Vs [is g,is g,is g,is gp,is (.pointer (some ⟨w.heap.size,1,none⟩)),is (.int .i64 p),is (.pointer (some ⟨w.heap.size,3,none⟩)),is (.slice AD nd cd),is (nd:Int),is (.bool false),is (.bool true)]) _ _ rfl kR bR (fun _ _=>Grow.trans) (dQ tA0) ?_ ?_
 · refine aG ?_;refine pH 0 (.pointer (some g)) ?_;refine pV 0 97 ?_;refine pV 1 98 ?_;refine pL 2 99 (fun d a=>have a:Grow W d:=gD a;(((b.mod.below a b.mod.lt).cell 0).trans rfl:d.cell? g=some (.pointer (some gp)))) ?_;refine pH 3 (.pointer (some w.heap.size)) ?_;refine pL 4 101 (fun d a=>have a:Grow W d:=gD a;(((b.step.below a b.step.lt).cell 1).trans rfl:d.cell? ⟨w.heap.size,1,none⟩=some (.int .i64 p))) ?_;refine pH 3 (.pointer (some w.heap.size)) ?_;refine pL 6 103 (fun d a=>have a:Grow W d:=gD a;(((b.step.below a b.step.lt).cell 3).trans rfl:d.cell? ⟨w.heap.size,3,none⟩=some (.slice AD nd cd))) ?_;refine pV 7 104 ?_;refine sC (fun _ d a _ _ _ f _ _ _ K=>?_) ?_
   · have S:_=_:=f 3 100 kR rfl;have U:_=_:=f 5 102 kR rfl;have V:_=_:=f 8 105 kR rfl;replace a:Grow W d:=gD a;go_simp;refine (fI gp A n c p (nd) d (((b.pl.below a b.pl.lt).cell 0).trans rfl) oM O oM).mono ?_;rintro v a9 ⟨rfl,rfl⟩;exact K _ _ bR (eH E)
   refine pV 9 106 ?_;exact aC
 · intro I i a f;replace a:Grow W i:=gD a;have H:I (.tmp 107)=.bool true:=f 10 107 rfl;simp only [zqq];rw [H];clear f;have x:=b.grow a;have e:=x.res;have a5:i.cell? ⟨w.heap.size+1,0,none⟩=some (.int .i64 0):=(e.cell 0).trans rfl;have X:=e.frozen 0;have a6:i.cell? ⟨w.heap.size+1,1,none⟩=some (.int .i64 0):=(e.cell 1).trans rfl;have Y:=e.frozen 1;have a7:i.cell? ⟨w.heap.size+1,2,none⟩=some (.slice none 0 0):=(e.cell 2).trans rfl;have Z:=e.frozen 2;have a8:i.cell? ⟨w.heap.size+1,3,none⟩=some (.slice none 0 0):=(e.cell 3).trans rfl;have a0:=e.frozen 3;go_wp2;have z:=gR (v0:=.int .i64 2) (v1:=.int .i64 0) (v2:=.slice none 0 0) (v3:=.slice none 0 0) (Nat.le_succ w.heap.size) x.low;exact eG (s:=w.heap.size+1) (A1:=none) (c1:=0) (A2:=none) (c2:=0) (.inl rfl) rfl (eE e) (Keep.of_below z) (aM _ _ _) (aM _ _ _) (G.out.keep z)
structure MS (w0 w:World) (g gp:Nat) (T:List UInt8) (most:Int):Prop where
 low:Below w0.heap.size w0 w
 g0:w0.heap.size<=g
 gp0:w0.heap.size<=gp
 ne:g≠gp
 mod:Bk w g 65 #[gp,.int .i64 most]
 pl:PlS w gp T
section
variable {w0 w w' : World} {g gp : Nat} {T : List UInt8} {most : Int}
theorem MS.grow (a:MS w0 w g gp T most) (b:Below w.heap.size w w'):MS w0 w' g gp T most:=⟨a.low.trans (Below.mono b a.low.size),a.g0,a.gp0,a.ne,a.mod.below b a.mod.lt,a.pl.keep b⟩
theorem MS.alloc (b:MS w0 w g gp T most) (a:Obj):MS w0 (w.alloc a) g gp T most:=b.grow (bR.alloc nL a)
theorem MS.size (a:MS w0 w g gp T most):w0.heap.size<=w.heap.size:=a.low.size
theorem PlS.lt (a:PlS w gp T):gp < w.heap.size:=by
 obtain ⟨A,c,b,_⟩:=a;exact b.lt
structure Ans (w0 w w':World) (g gp:Nat) (T2:List UInt8) (most:Int) (X:List UInt8) (L:List Nat) (A1:Option Addr) (c1:Nat) (A2:Option Addr) (c2:Nat):Prop where
 ms:MS w0 w' g gp T2 most
 keep:Keep (fun b=>b=gp) w w'
 data:Made w' w.heap.size 5 1 A1 X.length c1 (X.map bv)
 places:Made w' w.heap.size 3 1 A2 L.length c2 (L.map nv)
end
theorem aA5 (k:Nat) (b:k<=3) (w:World):Calls prog 191 #[.int .u64 1,.int .u64 (k:Int)] w fun a w'=>a=.returned (.tuple #[.int .u64 0,.int .u64 (k:Int)])/\w=w':=by
 obtain rfl | rfl | rfl | rfl:k=0∨k=1∨k=2∨k=3:=oM
 all_goals
  go_enter func191,ntmps191;go_wp2_with fail;go_ret2;exact ⟨rfl,rfl⟩
theorem aDg (k:Nat) (b:k<=3) (w:World):Calls prog 118 #[.int .u64 1,.int .u64 (k:Int)] w fun a w'=>a=.returned (.tuple #[.int .u64 0,.int .u64 (k:Int)])/\w=w':=by
 go_enter func118,ntmps118;go_wp2_with fail;refine (aA5 k b _).mono ?_;rintro a w1 ⟨rfl,rfl⟩;go_wp2_with fail;go_ret2;exact ⟨rfl,rfl⟩
def DataAt (w:World) (b:Nat) (A:Option Addr) (n c:Nat) (D:List UInt8):Prop:=
 D.length=n/\n<=c/\c<=maxLen/\((A=none/\n=0/\c=0)∨∃g a,A=some ⟨g,0,none⟩/\b<=g/\Bk w g 5 a/\n<=a.size/\a.toList.take n=D.map bv)
theorem DataAt.rd {w:World} {e:Nat} {A:Option Addr} {n c:Nat} {D:List UInt8} (f:DataAt w e A n c D):Rd w w.heap.size 1 A n (D.map bv):=by
 obtain ⟨b,l,m,⟨rfl,rfl,rfl⟩|⟨g,j,rfl,o,d,q,i⟩⟩:=f;obtain rfl:D= []:=zBj b;exact Rd.nil _ _ _ _
 · refine ⟨by simp [b],fun _=>⟨g,0,rfl,d.lt,fun r s a=>?_⟩⟩;rw [zBh,d.cell];rw [<-i,zBq] at a;split at a;simpa using a
   · cases a
theorem DataAt.of_own {w:World} {b:Nat} {A:Option Addr} {n c:Nat} {D:List UInt8} (d:w.ownsRow b 5 1 (.slice A n c) n (D.map bv)):DataAt w b A n c D:=by
 have f:D.length=n:=by simpa using d.1
 rcases d.2 with ⟨a,e⟩|⟨g,q,i,a,e,j,l,m,r,o⟩;cases a;exact ⟨f,zAs _,zAp _,.inl ⟨rfl,rfl,rfl⟩⟩;cases a;exact ⟨f,l,m,.inr ⟨g,i,rfl,e,j,by omega,by simpa using o⟩⟩
theorem DataAt.keep {w w':World} {b:Nat} {A:Option Addr} {n c:Nat} {D:List UInt8} (j:DataAt w b A n c D) (k:∀g a,b<=g->Bk w g 5 a->Bk w' g 5 a):DataAt w' b A n c D:=by
 obtain ⟨d,e,f,l |⟨g,a,rfl,i,m,o,q⟩⟩:=j;exact ⟨d,e,f,.inl l⟩;exact ⟨d,e,f,.inr ⟨g,a,rfl,i,k g a i m,o,q⟩⟩
theorem DataAt.below {w w':World} {a:Nat} {A:Option Addr} {n c:Nat} {D:List UInt8} (d:DataAt w a A n c D) (k:Below w.heap.size w w'):DataAt w' a A n c D:=d.keep fun g e _ b=>b.below k b.lt
theorem DataAt.mono {w:World} {B B':Nat} {A:Option Addr} {n c:Nat} {D:List UInt8} (f:DataAt w B A n c D) (k:B'<=B):DataAt w B' A n c D:=by
 obtain ⟨a,b,d,i |⟨g,e,rfl,o,j,l,m⟩⟩:=f;exact ⟨a,b,d,.inl i⟩;exact ⟨a,b,d,.inr ⟨g,e,rfl,by omega,j,l,m⟩⟩
theorem aDm {w:World} {g a m1 c1 m2 c2 d l:Nat} {b:Array Value} {f:Value} (o:TypeId) (m:Bk w g 5 b) (y:a < b.size) (u:w.cell? ⟨d,l,none⟩=some f) (q:f.oneCell'=true) (s:Nat.min m2 m1=1):
 ∃w' i,(Builtin.copy_ #[22,22] o #[.slice (some ⟨g,a,none⟩) m1 c1,.slice (some ⟨d,l,none⟩) m2 c2]).run prog w=.ok (.int .i64 1) w'/\Bk w' g 5 i/\i.size=b.size/\i.toList.take (a+1)=b.toList.take a++ [f]/\Keep (fun d=>d=g) w w':=by
 have t:=run_copy_row (P:=prog) w 22 22 o 5 g a m1 c1 ⟨d,l,none⟩ m2 c2 b 5 [f] underlying22 kR m s.symm (fun j x e=>by
  rcases j with _ | j;cases e;rw [eI,zBo];exact u
  · cases e) (by show a+1<=b.size;omega) (fun x v=>by rw [List.mem_singleton.1 v];exact q)
 refine ⟨_,_,t,setRow_heap _ _ _ _ _ _ m,?_,?_,⟨rfl,rfl,rfl,by simp,fun j _ e=>setRow_other _ _ _ _ e⟩⟩;simp;omega;simp only [zCj,List.cons_append,List.nil_append,List.singleton_append];have r:(b.toList.take a).length=a:=(by simp;omega);rw [List.take_append,r,zAg oM,show a+1 - a=1 by omega];rfl
def aCL (g k b:Nat) (e:UInt8):Value->World->Prop:=fun d w=>d=.int .i64 1/\∃a,Bk w g 5 a/\k<=a.size/\a.toList.take b=List.replicate b (bv e)
theorem aBF (g k i:Nat) (j:UInt8):Stb (aCL g k i j):=fun _ _ _ ⟨d,b,a,e⟩ f=>⟨d,b,a.below f a.lt,e⟩
def lX (w:World) (k:Nat) (d:UInt8) (b:Ending) (w':World):Prop:=∃g a,b=.returned (.slice (some ⟨g,0,none⟩) k k)/\w.heap.size<=g/\Bk w' g 5 a/\k<=a.size/\a.toList.take k=(List.replicate k d).map bv/\Below w.heap.size w w'
theorem aCr (A:Option Addr) (a c:Nat) (b:UInt8) (w:World):Calls prog 64 #[.slice A a c,.int .i64 0] w (lX w 0 b):=by
 unfold lX;go_enter func64,ntmps64;go_wp2_with fail;go_ret;exact ⟨_,#[],rfl,zAs _,Bk.new _ _ _,zAp _,rfl,bR.alloc nL _⟩
theorem aDb (t a2 c:Nat) (j:UInt8) (k:Nat) (ae:0 < k) (ad:k<=3) (w:World) (S:w.cell? ⟨t,a2,none⟩=some (bv j)):Calls prog 64 #[.slice (some ⟨t,a2,none⟩) 1 c,(k:Int)] w (lX w k j):=by
 have ai:=aDg k ad;obtain ⟨i,Y,aB,_⟩:=Lib.run_makeNoZero (P:=prog) w #[3] 22 5 underlying22 k oM;have ax:(callFunc 119 #[(k:Int)]).run prog w=.ok (.value (.slice (some w.heap.size) k i.size)) ((w.alloc (.cells i 5)).drewN 2):=by rw [run_callFunc_extern func119 kR kR kR (e:=Extern.BytealgMakeNoZero.makeNoZero #[3] #[22]) kR,Y];rfl
 clear Y;have ag:t < w.heap.size:=World.block_lt_of_cell? w _ S;have M:Bk ((w.alloc (.cells i 5)).drewN 2) w.heap.size 5 i:=(Bk.new w _ _).drewN 2;have y:Below w.heap.size w ((w.alloc (.cells i 5)).drewN 2):=by have d:=(Below.refl w.heap.size w).alloc nL (.cells i 5);exact ⟨d.os,d.tape,d.output,d.size,d.block⟩
 have U:=(y.cell ag).trans S;obtain ⟨a3,a4,aj,N,aE,a0,V⟩:=aDm (m1:=k) (c1:=k) (m2:=1) (c2:=c) 3 M (show 0 < i.size by omega) U rfl (by show min 1 k=1;omega);have Q:Below w.heap.size w a3:=y.trans (V.to_below (B:=w.heap.size) (by simp) (fun l v d=>by omega));obtain ⟨G,J,I⟩:=hqq3 N a0 Q;have aF:(0:Int)<=(k:Int):=oM;have aH:(k:Int)<=(i.size:Int):=oM;have aI:¬((k:Int) > 8192):=oM;clear M y U N a0 V Q;unfold lX;go_enter func64,ntmps64;go_wp2_with fail;refine (ai _).mono ?_;rintro a5 w1 ⟨rfl,rfl⟩;go_wp2_with (at_builtin;refine Lib.wpList_copy_run _ rfl _ _ 22 22 rfl _ _ rfl rfl aj ?_);go_loopw [10,11] (fun C aq wr=>∃(a:Nat) (f:Array Value),1<=a/\a<=k/\C=.int .i64 (a:Int)/\Bk wr w.heap.size 5 f/\k<=f.size/\f.toList.take a=List.replicate a (bv j)/\Below w.heap.size w wr) (fun C _ _=>k -(intOf C).toNat)
 case atStart=>exact ⟨1,a4,zAs _,ae,rfl,G.out,by omega,by rw [J.out];rfl,I.out⟩
 case round=>
  obtain ⟨a,f,ay,az,rfl,O,al,a1,R⟩:=hrel;obtain ⟨H,r,q⟩:=hqq3 O a1 R;clear O a1 R G J I;by_cases aD:a < k
  · go_wp2_with fail;have ah:min (a:Int) (k:Int)=(a:Int):=oM
    have am:∀W,Bk W w.heap.size 5 f->W.cell? w.heap.size=some (bv j):=fun W v=>by
        have K:(f.toList.take a)[0]?=some (bv j):=by
         rw [r.out];cases a with
         | zero=>omega
         | succ a=>rfl
        rw [zBq,zBv oM] at K;rw [v.cell];simpa using K
    rw [ah];refine wp_region_any kR ?_;refine bB [67,68,69,70,71,72,73,74,75,10] (fun l=>l=w.heap.size) 7 [7] (fun w1=>Bk w1 w.heap.size 5 f) (aCL w.heap.size k (a+1) j) [is (a:Int),is (.slice (some w.heap.size) k k),is (a:Int),is (.slice (some ⟨w.heap.size,a,none⟩) (k - a) (k - a)),is (.slice (some w.heap.size) k k),is (a:Int),is (.slice (some w.heap.size) a k),dJ,is (.int .i64 ((a+1:Nat):Int)),is (.int .i64 ((a+1:Nat):Int))] _ _ rfl kR kR (H.out) (fun w1 a3 d _ ac=>Bk.below d ac d.lt) (aBF _ _ _ _) tA1 ?_ ?_
    · refine aG ?_;refine pH3 10 (.int .i64 (a:Int)) ?_;refine pH3 9 (.slice (some w.heap.size) k k) ?_;refine pH3 10 (.int .i64 (a:Int)) ?_;refine sC3 (fun _ _ _ _ _ _ _ b _ _ _ m=>?_) ?_
      · have au:_=_:=b 1 68 kR rfl;have av:_=_:=b 2 69 kR rfl;go_simp;exact m _ _ (aA bR) (by show _=_;rw [zBu oM])
      refine pH3 9 (.slice (some w.heap.size) k k) ?_;refine pH3 11 (.int .i64 (a:Int)) ?_;refine pW3 4 71 5 72 ?_;refine sC3 (fun _ E _ a9 _ _ _ b _ _ aa m=>?_) ?_
      · have X:=a9 rfl;have a7:_=_:=b 3 70 kR rfl;have a8:_=_:=b 6 73 kR rfl;subst aa;obtain ⟨aK,s,ak,x,Z,z,af⟩:=aDm (m1:=k - a) (c1:=k - a) (m2:=a) (c2:=k) 3 X (show a < f.size by omega) (am _ X) rfl (by show min a (k - a)=1;omega);refine Lib.wp_copy_run E (.tmp 70) (.tmp 73) _ _ rfl _ _ a7 a8 ak ?_;refine m _ _ (aV af) ⟨rfl,s,x,by omega,?_⟩;rw [z,r.out,List.replicate_succ']
      refine sC3 (fun o E _ _ _ _ _ b _ _ _ m=>?_) ?_
      · have ar:_=_:=b 0 67 kR rfl;have an:(aCL w.heap.size k (a+1) j) (o (.tmp 74)) E:=b 7 74 kR rfl;have aw:o (.tmp 74)=.int .i64 1:=an.1;go_simp;exact m _ _ (aA bR) (cS (by rw [IntKind.wrap_i64] <;> omega))
      refine pV3 8 75 ?_;exact aC
    · intro o F u b L;replace u:Keep (fun l=>l=w.heap.size) wr F:=kD u;have a6:o (.tmp 10)=.int .i64 ((a+1:Nat):Int):=b 9 10 rfl;obtain ⟨aJ,ao⟩:∃ap,(aCL w.heap.size k (a+1) j) ap F:=L 7 dC;simp only [zqq];rw [a6];clear b L;obtain ⟨_,s,x,Z,z⟩:=ao;have ab:Below w.heap.size w F:=q.out.trans (u.to_below q.out.size (fun l v d=>by omega));go_wp2;go_roundw
      case rel=>exact ⟨a+1,s,by omega,by omega,rfl,x,Z,z,ab⟩
      case measure=>simp [intOf];omega
  · obtain rfl:a=k:=oM;go_wp2_with fail;go_ret;exact ⟨_,f,rfl,zAs _,H.out,al,by rw [r.out,List.map_replicate],q.out⟩
theorem dU (a d c:Nat) (e:UInt8) (k:Nat) (i:k<=3) (w:World) (f:w.cell? ⟨a,d,none⟩=some (bv e)):Calls prog 64 #[.slice (some ⟨a,d,none⟩) 1 c,(k:Int)] w (lX w k e):=by
 rcases zAz k with b | b;subst b;exact aCr _ _ _ _ _;exact aDb a d c e k b i w f
end Go.Proofs.YtihaijbgmjdhgaaGreatDoor
