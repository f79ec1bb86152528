/- Lemmas of the walk. Conditions: each its own. -/
import Derived.Test.YtknjfpcdhdmghaaGreatDoorPt13
import Derived.Test.YtknjfpcdhdmghaaGreatDoorPt33
set_option linter.all false
set_option maxRecDepth 100000
set_option maxHeartbeats 4000000
open Go.Proofs.Tryz
namespace Go.Proofs.YtknjfpcdhdmghaaGreatDoor
open Go.RowKit
def aGd (w:World) (b:Obj) (a:Array Value) (n c:Nat):(convert 22 22 (.slice (some ⟨w.heap.size+1,0,none⟩) n c)).run prog ((w.alloc b).alloc (.cells a 5))=.ok (.slice (some ⟨w.heap.size+1,0,none⟩) n c) ((w.alloc b).alloc (.cells a 5 (a.size,a.size+1))):=by
 have:=kU (w.alloc b) a n c;rw [sZ0] at this;exact this
section
variable {w w1 w' : World} {B gs gl aA rate : Nat} {own own' : Nat -> Nat} {T : List UInt8}
end
def aFq (kind p n A a c w):
 Calls prog 8 #[.pointer none,bK kind p n A a c] w λb w'=>b=.returned (.agg #[(6:Int),o0,(),()])/\Below w.heap.size w w':=by
 unfold bK;go_enter func8,ntmps8;go_wp2;have d:=((kg w.heap.size w).alloc nL (.cells #[(kind:Int),(p:Int),(n:Int),.slice A a c] 32)).alloc zs (.cells #[(6:Int),o0,(),()] 29);have e:Bk ((w.alloc (.cells #[(kind:Int),(p:Int),(n:Int),.slice A a c] 32)).alloc (.cells #[(6:Int),o0,(),()] 29)) (w.heap.size+1) 29 #[(6:Int),o0,(),()]:=by simpa using kd (w.alloc (.cells #[(kind:Int),(p:Int),(n:Int),.slice A a c] 32)) 29 #[(6:Int),o0,(),()]
 exact bodyPost_ret (results_cell_row (p:=4) (ty:=29) rfl _ _ (w.heap.size+1) 29 #[(6:Int),o0,(),()] (0,0) _ rfl e underlying29 rfl kR) rfl ⟨rfl,d⟩
def iQ {w gp T} (b:PlS w gp T):∃A c,Bk w gp 89 #[.slice A T.length c]/\Rd w w.heap.size 1 A T.length (T.map bv)/\T.length<=c/\(0 < T.length->∀a,A=some a->a.block≠gp):=by
 obtain ⟨A,c,e,f,i,j⟩:=b;exact ⟨A,c,e,f,i,λd a l=>(j d a l).1⟩
def aO6 (gp:Nat) (i:List UInt8) (a:Told) (w w':World) (l:Ending):Prop:=
 ∃b e d f,l=.returned (.agg (iD a b e d f))/\Keep (λj=>j=gp) w w'/\Made w' w.heap.size 5 1 b a.data.length e (a.data.map bv)/\Made w' w.heap.size 3 1 d a.places.length f (a.places.map nv)/\PlS w' gp i
def PlO (w w':World) (gp:Nat):Prop:=∀A n c,Bk w' gp 89 #[.slice A n c]->Bk w gp 89 #[.slice A n c]∨∀a,A=some a->w.heap.size<=a.block
def fQ (gp:Nat) (a:List UInt8) (d:Told) (w w':World) (b:Ending):Prop:=aO6 gp a d w w' b/\PlO w w' gp
def Bk.un {w b i j d e} (f:Bk w b i d) (k:Bk w b j e):d=e:=by
 have a:=(Eq.symm f).trans k;injection a with a;injection a
def jK {gp i a w w' e s A1 c1 A2 c2} {d:Exit} (u:d=.ret∨d=.normal) (v:e.getD 4 undef=.pointer (some s)) (t:Bk w' s 29 (iD a A1 c1 A2 c2)) (j:Keep (λq=>q=gp) w w') (l:Made w' w.heap.size 5 1 A1 a.data.length c1 (a.data.map bv)) (m:Made w' w.heap.size 3 1 A2 a.places.length c2 (a.places.map nv)) (b:PlS w' gp i/\PlO w w' gp):
 bodyPost prog f20 (λr w'=>fQ gp i a w w' r) d ⟨e, []⟩ w':=by
 have o:=results_cell_row (P:=prog) (fn:=f20) (p:=4) (ty:=29) rfl e w' s 29 (iD a A1 c1 A2 c2) (0,0) _ v t underlying29 rfl kR;rcases u with rfl | rfl;exact bodyPost_ret o rfl ⟨⟨A1,c1,A2,c2,rfl,j,l,m,b.1⟩,b.2⟩;exact bodyPost_end o rfl ⟨⟨A1,c1,A2,c2,rfl,j,l,m,b.1⟩,b.2⟩
def PlS.Z {w w' gp T} (b:PlS w gp T) (k:Grow w w'):PlS w' gp T/\PlO w w' gp:=by
 refine ⟨b.keep k,λA n c d=>.inl ?_⟩;obtain ⟨e,f,a,_⟩:=b;rw [<-Bk.un (a.below k a.lt) d];exact a
section
variable {w W W' : World} {g gp n c nd cd : Nat} {A AD : Option Addr} {T D : List UInt8} {aA kind p k : Int}
def gU {B} (d:Bk w g 91 #[gp,(aA:Int)]) (b:Bk w gp 89 #[.slice A n c]) (i:Rd w w.heap.size 1 A n (T.map bv)) (e:Rd w B 1 AD nd (D.map bv)) (hB:B<=w.heap.size) (f:g≠gp):
 DoF w ((w.alloc (.cells #[(kind:Int),(p:Int),(k:Int),.slice AD nd cd] 32)).alloc (.cells #[o0,o0,(),()] 29)) g gp n c nd cd A AD T D aA kind p k:=by
 have a:=((kg w.heap.size w).alloc nL (.cells #[(kind:Int),(p:Int),(k:Int),.slice AD nd cd] 32)).alloc zs (.cells #[o0,o0,(),()] 29);refine ⟨a,(kd _ _ _).alloc _,?_,(d.alloc _).alloc _,(b.alloc _).alloc _,i.below a,(e.mono hB).below a,b.lt,f,d.lt⟩;simpa using kd (w.alloc (.cells #[(kind:Int),(p:Int),(k:Int),.slice AD nd cd] 32)) 29 #[o0,o0,(),()]
def aAh {B d e} (j:Bk W gp 89 #[.slice A d c]) (b:Made W B 5 1 A d c (e.map bv)) (q:e.length=d) (v:gp < B) (x:w.heap.size<=B):PlS W gp e/\PlO w W gp:=by
 subst q;refine ⟨⟨A,c,j,b.rd,b.cap,λ_ f i=>?_⟩,λs y t m=>.inr λf i=>?_⟩
 rotate_left
 have:=Bk.un j m;injection this with this;injection this with this;injection this with f1 f2 f3;have:=(b.own.lt f.block (by rw [f1,i];rfl)).1;omega;subst i;have:=(b.own.lt f.block rfl).1;refine ⟨by omega,?_⟩;obtain ⟨g,u,l,a,_,o,_⟩:=b.own.2.resolve_left (λr=>by
  have:=r.1;injection this with q1;cases q1)
 injection a with a;injection a with a;rw [a];exact ⟨l,o⟩
end
def aOQ (B:Nat) (num:Int) (a:List UInt8):Value->World->Prop:=λb w=>∃A c,b=.agg (iD ⟨0,num,a, []⟩ A c none 0)/\Made w B 5 1 A a.length c (a.map bv)
def aKk {a B} (i:∀b,a b->b < B) (num d):tO a (aOQ B num d):=λ_ _ _ ⟨A,c,e,f⟩ k=>⟨A,c,e,f.o k i⟩
def aOP (b B:Nat) (num:Int) (a:List UInt8):Value->World->Prop:=λ_ w=>∃A c,Bk w b 29 (iD ⟨0,num,a, []⟩ A c none 0)/\Made w B 5 1 A a.length c (a.map bv)
def aL7 (e B num b):Stb (aOP e B num b):=λ_ _ _ ⟨A,c,a,d⟩ k=>⟨A,c,kf a k a.lt,d.below k⟩
def aGh (gp B b:Nat) (T:List UInt8):Value->World->Prop:=λa w=>a=.tuple #[]/\plV gp B b T a w
def zV (gp B a T):Stb (aGh gp B a T):=λe w w' ⟨b,d⟩ k=>⟨b,aHM _ _ _ _ e w w' d k⟩
def aD5 {g gp:Nat} {AD:Option Addr} {nd:Nat} (cd:Nat) {B:Nat} {p k:Int} {aA:Int} {T D:List UInt8} {w:World} (x:Bk w g 91 #[gp,(aA:Int)]) (C:PlS w gp T) (m:Rd w B 1 AD nd (D.map bv)) (hB:B<=w.heap.size) (Z:0 < nd->∀q,AD=some q->q.block≠gp) (J:g≠gp) (I:T.length<=549755813888) (X:nd<=549755813888) (M:-9223372036854775808<=(p:Int)/\(p:Int)<=9223372036854775807) (a0:-9223372036854775808<=(k:Int)/\(k:Int)<=9223372036854775807) (a1:0<=aA/\aA<=2147483648) (y:dK T.length p 0=false):
 Calls prog 20 #[g,bK 1 p k AD nd cd] w λr w'=>fQ gp (T) ⟨2,0, [], []⟩ w w' r:=by
 have E:=C;obtain ⟨A,c,l,o,K,L⟩:=iQ C;obtain ⟨n,z⟩:=eqx T.length;rw [z] at l o K I L;rw [z] at y;have Y:D.length=nd:=by simpa using m.1
 have b:=gU (kind:=1) (p:=p) (k:=k) (cd:=cd) x l o m hB J;have j:=b;clear l o m x b;unfold bK;go_enter func20,ntmps20;go_wp2;obtain ⟨W,u⟩:=eqx ((w.alloc (.cells #[(1:Int),(p:Int),(k:Int),.slice AD nd cd] 32)).alloc (.cells #[o0,o0,(),()] 29));rw [u] at j⊢;have b:=j;clear u j;refine wp_region_any kR<|aQ (S:=Grow) (V:=(Vs [is g,is g,is g,is gp,is (.pointer (some ⟨w.heap.size,1,none⟩)),is (.int .i64 p),is (.bool false),is (.bool true),is (.bool true)])) [15,16,17,18,19,20,21,22,14] _ rfl kR bR (λ_ _=>Grow.trans) (eY tA2) ?_ ?_
 .refine aL<|pH 0 (.pointer (some g))<|pV 0 15<|pV 1 16<|pL 2 17 (λe a=>have a:Grow W e:=gD a;(((b.mod.below a b.mod.lt).cell 0).trans rfl:e.cell? g=some (.pointer (some gp)))) ?_;refine pH 3 (.pointer (some w.heap.size))<|pL 4 19 (λe a=>have a:Grow W e:=gD a;(((b.step.below a b.step.lt).cell 1).trans rfl:e.cell? ⟨w.heap.size,1,none⟩=some (.int .i64 p))) ?_;refine sC (λ_ e a _ _ _ f _ _ _ H=>?_) ?_
  .have N:_=_:=f 3 18 kR rfl;have O:_=_:=f 5 20 kR rfl;replace a:Grow W e:=gD a;go_simp;refine (mC (p:=p) gp A n c (0) e (((b.pl.below a b.pl.lt).cell 0).trans rfl) oM M oM).mono ?_;rintro r a6 ⟨rfl,rfl⟩;exact H _ _ bR (iA y)
  refine pV 6 21<|pV 7 22 ?_;exact aB
 .intro G i a f;replace a:Grow W i:=gD a;have F:G (.tmp 14)=.bool true:=f 8 14 rfl;simp only [zqq];rw [F];clear f;have t:=b.grow a;have d:=t.wQ;have a2:i.cell? ⟨w.heap.size+1,0,none⟩=some (.int .i64 0):=(d.cell 0).trans rfl;have P:=d.frozen 0;have a3:i.cell? ⟨w.heap.size+1,1,none⟩=some (.int .i64 0):=(d.cell 1).trans rfl;have Q:=d.frozen 1;have a4:i.cell? ⟨w.heap.size+1,2,none⟩=some (.slice none 0 0):=(d.cell 2).trans rfl;have R:=d.frozen 2;have a5:i.cell? ⟨w.heap.size+1,3,none⟩=some (.slice none 0 0):=(d.cell 3).trans rfl;have U:=d.frozen 3;go_wp2;have v:=lL (v0:=.int .i64 2) (v1:=.int .i64 0) (v2:=.slice none 0 0) (v3:=.slice none 0 0) (zDT w.heap.size) t.low;exact jK (s:=w.heap.size+1) (A1:=none) (c1:=0) (A2:=none) (c2:=0) (.inl rfl) rfl (eP d) (kF v) (aV _ _ _) (aV _ _ _) (E.Z v)
def aFQ {g gp:Nat} {AD:Option Addr} {nd:Nat} (cd:Nat) {B:Nat} {p k:Int} {aA:Int} {T D:List UInt8} {w:World} (z:Bk w g 91 #[gp,(aA:Int)]) (F:PlS w gp T) (q:Rd w B 1 AD nd (D.map bv)) (hB:B<=w.heap.size) (a6:0 < nd->∀t,AD=some t->t.block≠gp) (M:g≠gp) (K:T.length<=549755813888) (a4:nd<=549755813888) (P:-9223372036854775808<=(p:Int)/\(p:Int)<=9223372036854775807) (a7:-9223372036854775808<=(k:Int)/\(k:Int)<=9223372036854775807) (a8:0<=aA/\aA<=2147483648) (C:dK T.length p 0=true) (L:aA -(T.length:Int) < nd):
 Calls prog 20 #[g,bK 1 p k AD nd cd] w λu w'=>fQ gp (T) ⟨3,0, [], []⟩ w w' u:=by
 have H:=F;obtain ⟨A,c,o,r,N,O⟩:=iQ F;obtain ⟨n,E⟩:=eqx T.length;rw [E] at o r N K O;rw [E] at C L;have a5:D.length=nd:=by simpa using q.1
 have b:=gU (kind:=1) (p:=p) (k:=k) (cd:=cd) z o r q hB M;have l:=b;clear o r q z b;unfold bK;go_enter func20,ntmps20;go_wp2;obtain ⟨W,x⟩:=eqx ((w.alloc (.cells #[(1:Int),(p:Int),(k:Int),.slice AD nd cd] 32)).alloc (.cells #[o0,o0,(),()] 29));rw [x] at l⊢;have b:=l;clear x l;refine wp_region_any kR<|aQ (S:=Grow) (V:=(Vs [is g,is g,is g,is gp,is (.pointer (some ⟨w.heap.size,1,none⟩)),is (.int .i64 p),is (.bool true),is (.bool false),is (.bool false)])) [15,16,17,18,19,20,21,22,14] _ rfl kR bR (λ_ _=>Grow.trans) (eY tA2) ?_ ?_
 .refine aL<|pH 0 (.pointer (some g))<|pV 0 15<|pV 1 16<|pL 2 17 (λd a=>have a:Grow W d:=gD a;(((b.mod.below a b.mod.lt).cell 0).trans rfl:d.cell? g=some (.pointer (some gp)))) ?_;refine pH 3 (.pointer (some w.heap.size))<|pL 4 19 (λd a=>have a:Grow W d:=gD a;(((b.step.below a b.step.lt).cell 1).trans rfl:d.cell? ⟨w.heap.size,1,none⟩=some (.int .i64 p))) ?_;refine sC (λ_ d a _ _ _ e _ _ _ j=>?_) ?_
  .have Q:_=_:=e 3 18 kR rfl;have R:_=_:=e 5 20 kR rfl;replace a:Grow W d:=gD a;go_simp;refine (mC (p:=p) gp A n c (0) d (((b.pl.below a b.pl.lt).cell 0).trans rfl) oM P oM).mono ?_;rintro u ad ⟨rfl,rfl⟩;exact j _ _ bR (iA C)
  refine pV 6 21<|pV 7 22 ?_;exact aB
 .intro m i a e;replace a:Grow W i:=gD a;have I:m (.tmp 14)=.bool false:=e 8 14 rfl;simp only [zqq];rw [I];clear e;have G:=b.grow a;clear b a;revert G;generalize i=W2;intro b;go_wp2;refine wp_region_any kR<|aQ (S:=Grow) (V:=(Vs [is (.pointer (some ⟨w.heap.size,3,none⟩)),is (.slice AD nd cd),is (nd:Int),is g,is g,is (.pointer (some ⟨g,1,none⟩)),is (.int .i64 aA),is g,is g,is g,is gp,is gp,is gp,is (.slice A n c),is (n:Int),is (.int .i64 (aA -(n:Int))),is (.bool true),is (.bool true)])) [25,26,27,28,29,30,31,32,33,34,35,36,37,38,39,40,41,24] _ rfl kR bR (λ_ _=>Grow.trans) (eY tA2) ?_ ?_
  .refine aL<|pH 3 (.pointer (some w.heap.size))<|pL 0 25 (λd a=>have a:Grow W2 d:=gD a;(((b.step.below a b.step.lt).cell 3).trans rfl:d.cell? ⟨w.heap.size,3,none⟩=some (.slice AD nd cd))) ?_;refine pV 1 26<|pH 0 (.pointer (some g))<|pV 3 28<|pV 4 29<|pL 5 30 (λd a=>have a:Grow W2 d:=gD a;(((b.mod.below a b.mod.lt).cell 1).trans rfl:d.cell? ⟨g,1,none⟩=some (.int .i64 aA))) ?_;refine pH 0 (.pointer (some g))<|pV 7 32<|pV 8 33<|pL 9 34 (λd a=>have a:Grow W2 d:=gD a;(((b.mod.below a b.mod.lt).cell 0).trans rfl:d.cell? g=some (.pointer (some gp)))) ?_;refine pV 10 35<|pV 11 36<|pL 12 37 (λd a=>have a:Grow W2 d:=gD a;(((b.pl.below a b.pl.lt).cell 0).trans rfl:d.cell? gp=some (.slice A n c))) ?_;refine pV 13 38<|sC (λ_ _ _ _ _ _ e _ _ _ j=>?_) ?_
   .have X:_=_:=e 6 31 kR rfl;have Y:_=_:=e 14 39 kR rfl;go_simp;exact j _ _ bR (cS zu)
   refine sC (λ_ _ _ _ _ _ e _ _ _ j=>?_) ?_
   .have U:_=_:=e 2 27 kR rfl;have Z:_=_:=e 15 40 kR rfl;go_simp;exact j _ _ bR (iA (by simp <;> omega))
   refine pV 16 41 ?_;exact aB
  .intro m i a e;replace a:Grow W2 i:=gD a;have J:m (.tmp 24)=.bool true:=e 17 24 rfl;simp only [zqq];rw [J];clear e;have v:=b.grow a;have f:=v.wQ;have a9:i.cell? ⟨w.heap.size+1,0,none⟩=some (.int .i64 0):=(f.cell 0).trans rfl;have a0:=f.frozen 0;have aa:i.cell? ⟨w.heap.size+1,1,none⟩=some (.int .i64 0):=(f.cell 1).trans rfl;have a1:=f.frozen 1;have ab:i.cell? ⟨w.heap.size+1,2,none⟩=some (.slice none 0 0):=(f.cell 2).trans rfl;have a2:=f.frozen 2;have ac:i.cell? ⟨w.heap.size+1,3,none⟩=some (.slice none 0 0):=(f.cell 3).trans rfl;have a3:=f.frozen 3;go_wp2;have y:=lL (v0:=.int .i64 3) (v1:=.int .i64 0) (v2:=.slice none 0 0) (v3:=.slice none 0 0) (zDT w.heap.size) v.low;exact jK (s:=w.heap.size+1) (A1:=none) (c1:=0) (A2:=none) (c2:=0) (.inl rfl) rfl (eP f) (kF y) (aV _ _ _) (aV _ _ _) (H.Z y)
def yN {g gp:Nat} {kind:Int} (N:kind=2∨kind=5) {AD:Option Addr} {nd:Nat} (cd:Nat) {B:Nat} {p k:Int} {aA:Int} {T D:List UInt8} {w:World} (E:Bk w g 91 #[gp,(aA:Int)]) (G:PlS w gp T) (q:Rd w B 1 AD nd (D.map bv)) (hB:B<=w.heap.size) (C:0 < nd->∀v,AD=some v->v.block≠gp) (M:g≠gp) (L:T.length<=549755813888) (a4:nd<=549755813888) (Q:-9223372036854775808<=(p:Int)/\(p:Int)<=9223372036854775807) (O:-9223372036854775808<=(k:Int)/\(k:Int)<=9223372036854775807) (a6:0<=aA/\aA<=2147483648) (F:dK T.length p k=false):
 Calls prog 20 #[g,bK kind p k AD nd cd] w λx w'=>fQ gp (T) ⟨2,0, [], []⟩ w w' x:=by
 have H:=lhd G;obtain ⟨A,c,o,t,P,r⟩:=iQ G;obtain ⟨n,j⟩:=eqx T.length;rw [j] at o t P L r;rw [j] at F;have a5:D.length=nd:=by simpa using q.1
 have b:=gU (kind:=kind) (p:=p) (k:=k) (cd:=cd) E o t q hB M;obtain ⟨l,Hn,U,R⟩:=hqq4 b j r C;clear o t q E b j r C;obtain ⟨W,m⟩:=eqx ((w.alloc (.cells #[(kind:Int),(p:Int),(k:Int),.slice AD nd cd] 32)).alloc (.cells #[o0,o0,(),()] 29));rw [m] at l;have b:=l.out;clear l;unfold bK;have u:=lhd m;clear m;rcases N with rfl | rfl
 all_goals
  go_enter func20,ntmps20;go_wp2;rw [u.out];clear u;refine wp_region_any kR<|aQ (S:=Grow) (V:=(Vs [is g,is g,is g,is gp,is (.pointer (some ⟨w.heap.size,1,none⟩)),is (.int .i64 p),is (.pointer (some ⟨w.heap.size,2,none⟩)),is (.int .i64 k),is (.bool false),is (.bool true)])) [55,56,57,58,59,60,61,62,63,64] _ rfl kR bR (λ_ _=>Grow.trans) (eY tA2) ?_ ?_
  .refine aL<|pH 0 (.pointer (some g))<|pV 0 55<|pV 1 56<|pL 2 57 (λd a=>have a:Grow W d:=gD a;(((b.mod.below a b.mod.lt).cell 0).trans rfl:d.cell? g=some (.pointer (some gp)))) ?_;refine pH 3 (.pointer (some w.heap.size))<|pL 4 59 (λd a=>have a:Grow W d:=gD a;(((b.step.below a b.step.lt).cell 1).trans rfl:d.cell? ⟨w.heap.size,1,none⟩=some (.int .i64 p))) ?_;refine pH 3 (.pointer (some w.heap.size))<|pL 6 61 (λd a=>have a:Grow W d:=gD a;(((b.step.below a b.step.lt).cell 2).trans rfl:d.cell? ⟨w.heap.size,2,none⟩=some (.int .i64 k))) ?_;refine sC (λ_ d a _ _ _ f _ _ _ K=>?_) ?_
   .have X:_=_:=f 3 58 kR rfl;have Y:_=_:=f 5 60 kR rfl;have Z:_=_:=f 7 62 kR rfl;replace a:Grow W d:=gD a;go_simp;refine (mC (p:=p) gp A n c (k) d (((b.pl.below a b.pl.lt).cell 0).trans rfl) oM Q O).mono ?_;rintro x ab ⟨rfl,rfl⟩;exact K _ _ bR (iA F)
   refine pV 8 63 ?_;exact aB
  .intro J i a f;replace a:Grow W i:=gD a;have I:J (.tmp 64)=.bool true:=f 9 64 rfl;simp only [zqq];rw [I];clear f;have y:=b.grow a;have e:=y.wQ;have a7:i.cell? ⟨w.heap.size+1,0,none⟩=some (.int .i64 0):=(e.cell 0).trans rfl;have a0:=e.frozen 0;have a8:i.cell? ⟨w.heap.size+1,1,none⟩=some (.int .i64 0):=(e.cell 1).trans rfl;have a1:=e.frozen 1;have a9:i.cell? ⟨w.heap.size+1,2,none⟩=some (.slice none 0 0):=(e.cell 2).trans rfl;have a2:=e.frozen 2;have aa:i.cell? ⟨w.heap.size+1,3,none⟩=some (.slice none 0 0):=(e.cell 3).trans rfl;have a3:=e.frozen 3;go_wp2;have z:=lL (v0:=.int .i64 2) (v1:=.int .i64 0) (v2:=.slice none 0 0) (v3:=.slice none 0 0) (zDT w.heap.size) y.low;exact jK (s:=w.heap.size+1) (A1:=none) (c1:=0) (A2:=none) (c2:=0) (.inl rfl) rfl (eP e) (kF z) (aV _ _ _) (aV _ _ _) (H.Z z)
def aD4 {g gp:Nat} {AD:Option Addr} {nd:Nat} (cd:Nat) {B:Nat} {p k:Int} {aA:Int} {T D:List UInt8} {w:World} (x:Bk w g 91 #[gp,(aA:Int)]) (C:PlS w gp T) (m:Rd w B 1 AD nd (D.map bv)) (hB:B<=w.heap.size) (a0:0 < nd->∀q,AD=some q->q.block≠gp) (J:g≠gp) (I:T.length<=549755813888) (Y:nd<=549755813888) (M:-9223372036854775808<=(p:Int)/\(p:Int)<=9223372036854775807) (a1:-9223372036854775808<=(k:Int)/\(k:Int)<=9223372036854775807) (a2:0<=aA/\aA<=2147483648) (y:dK T.length p nd=false):
 Calls prog 20 #[g,bK 3 p k AD nd cd] w λr w'=>fQ gp (T) ⟨2,0, [], []⟩ w w' r:=by
 have E:=C;obtain ⟨A,c,l,o,K,L⟩:=iQ C;obtain ⟨n,z⟩:=eqx T.length;rw [z] at l o K I L;rw [z] at y;have Z:D.length=nd:=by simpa using m.1
 have b:=gU (kind:=3) (p:=p) (k:=k) (cd:=cd) x l o m hB J;have j:=b;clear l o m x b;unfold bK;go_enter func20,ntmps20;go_wp2;obtain ⟨W,u⟩:=eqx ((w.alloc (.cells #[(3:Int),(p:Int),(k:Int),.slice AD nd cd] 32)).alloc (.cells #[o0,o0,(),()] 29));rw [u] at j⊢;have b:=j;clear u j;refine wp_region_any kR<|aQ (S:=Grow) (V:=(Vs [is g,is g,is g,is gp,is (.pointer (some ⟨w.heap.size,1,none⟩)),is (.int .i64 p),is (.pointer (some ⟨w.heap.size,3,none⟩)),is (.slice AD nd cd),is (nd:Int),is (.bool false),is (.bool true)])) [97,98,99,100,101,102,103,104,105,106,107] _ rfl kR bR (λ_ _=>Grow.trans) (eY tA2) ?_ ?_
 .refine aL<|pH 0 (.pointer (some g))<|pV 0 97<|pV 1 98<|pL 2 99 (λd a=>have a:Grow W d:=gD a;(((b.mod.below a b.mod.lt).cell 0).trans rfl:d.cell? g=some (.pointer (some gp)))) ?_;refine pH 3 (.pointer (some w.heap.size))<|pL 4 101 (λd a=>have a:Grow W d:=gD a;(((b.step.below a b.step.lt).cell 1).trans rfl:d.cell? ⟨w.heap.size,1,none⟩=some (.int .i64 p))) ?_;refine pH 3 (.pointer (some w.heap.size))<|pL 6 103 (λd a=>have a:Grow W d:=gD a;(((b.step.below a b.step.lt).cell 3).trans rfl:d.cell? ⟨w.heap.size,3,none⟩=some (.slice AD nd cd))) ?_;refine pV 7 104<|sC (λ_ d a _ _ _ f _ _ _ H=>?_) ?_
  .have N:_=_:=f 3 100 kR rfl;have O:_=_:=f 5 102 kR rfl;have P:_=_:=f 8 105 kR rfl;replace a:Grow W d:=gD a;go_simp;refine (mC (p:=p) gp A n c (nd) d (((b.pl.below a b.pl.lt).cell 0).trans rfl) oM M oM).mono ?_;rintro r a7 ⟨rfl,rfl⟩;exact H _ _ bR (iA y)
  refine pV 9 106 ?_;exact aB
 .intro G i a f;replace a:Grow W i:=gD a;have F:G (.tmp 107)=.bool true:=f 10 107 rfl;simp only [zqq];rw [F];clear f;have t:=b.grow a;have e:=t.wQ;have a3:i.cell? ⟨w.heap.size+1,0,none⟩=some (.int .i64 0):=(e.cell 0).trans rfl;have Q:=e.frozen 0;have a4:i.cell? ⟨w.heap.size+1,1,none⟩=some (.int .i64 0):=(e.cell 1).trans rfl;have R:=e.frozen 1;have a5:i.cell? ⟨w.heap.size+1,2,none⟩=some (.slice none 0 0):=(e.cell 2).trans rfl;have U:=e.frozen 2;have a6:i.cell? ⟨w.heap.size+1,3,none⟩=some (.slice none 0 0):=(e.cell 3).trans rfl;have X:=e.frozen 3;go_wp2;have v:=lL (v0:=.int .i64 2) (v1:=.int .i64 0) (v2:=.slice none 0 0) (v3:=.slice none 0 0) (zDT w.heap.size) t.low;exact jK (s:=w.heap.size+1) (A1:=none) (c1:=0) (A2:=none) (c2:=0) (.inl rfl) rfl (eP e) (kF v) (aV _ _ _) (aV _ _ _) (E.Z v)
def aHk {B own gs gl aA rate d w} (a:StAt w B own gs gl aA rate d):
 Calls prog 47 #[gs] w λb w'=>b=.returned (.int .i64 aA)/\w=w':=by
 have e:=a.a.cell 1;clear a;go_enter func47,ntmps47;go_wp2_with fail;go_ret;exact ⟨rfl,rfl⟩
def aBG (w):Calls prog 47 #[.pointer none] w λa w'=>a=.returned (.int .i64 0)/\w=w':=by
 go_enter func47,ntmps47;go_wp2_with fail;go_ret;exact ⟨rfl,rfl⟩
end Go.Proofs.YtknjfpcdhdmghaaGreatDoor
