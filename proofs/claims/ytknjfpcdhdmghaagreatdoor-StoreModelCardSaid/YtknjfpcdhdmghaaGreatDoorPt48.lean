/- Lemmas of the walk. Conditions: each its own. -/
import Derived.Test.YtknjfpcdhdmghaaGreatDoorPt41
import Derived.Test.YtknjfpcdhdmghaaGreatDoorPt42
import Derived.Test.YtknjfpcdhdmghaaGreatDoorPt44
import Derived.Test.YtknjfpcdhdmghaaGreatDoorPt45
set_option linter.all false
set_option maxRecDepth 100000
set_option maxHeartbeats 4000000
open Go.Proofs.Tryz
namespace Go.Proofs.YtknjfpcdhdmghaaGreatDoor
open Go.RowKit
def aJR {g gp:Nat} (a) (nd d:Nat) (e k:Int) {aA:Int} {T w} (m:Bk w g 91 #[gp,(aA:Int)]) (l:PlS w gp T):
 Calls prog 20 #[g,bK 8 e k a nd d] w λi w'=>fQ gp T ⟨0,0, [], []⟩ w w' i:=by
 unfold bK;go_enter func20,ntmps20;go_wp2;have f:=((kg w.heap.size w).alloc nL (.cells #[(8:Int),(e:Int),(k:Int),.slice a nd d] 32)).alloc zs (.cells #[o0,o0,(),()] 29);have j:Bk ((w.alloc (.cells #[(8:Int),(e:Int),(k:Int),.slice a nd d] 32)).alloc (.cells #[o0,o0,(),()] 29)) (w.heap.size+1) 29 #[o0,o0,(),()]:=by simpa using kd (w.alloc (.cells #[(8:Int),(e:Int),(k:Int),.slice a nd d] 32)) 29 #[o0,o0,(),()]
 exact jK (s:=w.heap.size+1) (A1:=none) (c1:=0) (A2:=none) (c2:=0) (.inl rfl) rfl j (kF f) (aV _ _ _) (aV _ _ _) (l.Z f)
def aO5 {g gp:Nat} (d) (nd e:Nat) (f k:Int) {aA:Int} {T w} (i:Bk w g 91 #[gp,(aA:Int)]) (l:PlS w gp T) (p:T.length<=549755813888):
 Calls prog 20 #[g,bK 4 f k d nd e] w λo w'=>fQ gp T ⟨0,(T.length:Int), [], []⟩ w w' o:=by
 have m:=l;obtain ⟨A,c,a,z,D,u⟩:=iQ l;obtain ⟨n,j⟩:=eqx T.length;rw [j] at a p⊢;have C:=i.lt;have E:=a.lt;have c1:w.cell? g=some (.pointer (some gp)):=(i.cell 0).trans rfl;have c2:w.cell? gp=some (.slice A n c):=(a.cell 0).trans rfl;clear a z u j i;unfold bK;go_enter func20,ntmps20;go_wp2;have a:=((kg w.heap.size w).alloc nL (.cells #[(4:Int),(f:Int),(k:Int),.slice d nd e] 32)).alloc zs (.cells #[o0,(n:Int),(),()] 29);have q:Bk ((w.alloc (.cells #[(4:Int),(f:Int),(k:Int),.slice d nd e] 32)).alloc (.cells #[o0,(n:Int),(),()] 29)) (w.heap.size+1) 29 #[o0,(n:Int),(),()]:=by simpa using kd (w.alloc (.cells #[(4:Int),(f:Int),(k:Int),.slice d nd e] 32)) 29 #[o0,(n:Int),(),()]
 exact jK (s:=w.heap.size+1) (A1:=none) (c1:=0) (A2:=none) (c2:=0) (.inl rfl) rfl q (kF a) (aV _ _ _) (aV _ _ _) (m.Z a)
def aMo {g gp:Nat} (d) (nd e:Nat) (a f k:Int) {aA:Int} {T w} (p:Bk w g 91 #[gp,(aA:Int)]) (o:PlS w gp T) (m:a < 1∨8 < a):
 Calls prog 20 #[g,bK a f k d nd e] w λj w'=>fQ gp T ⟨1,0, [], []⟩ w w' j:=by
 unfold bK;have q:(a==1)=false:=by rw [zCb];omega
 have u:(a==2)=false:=by rw [zCb];omega
 have z:(a==3)=false:=by rw [zCb];omega
 have C:(a==4)=false:=by rw [zCb];omega
 have D:(a==5)=false:=by rw [zCb];omega
 have E:(a==6)=false:=by rw [zCb];omega
 have F:(a==7)=false:=by rw [zCb];omega
 have G:(a==8)=false:=by rw [zCb];omega
 clear m;go_enter func20,ntmps20;go_wp2;have i:=((kg w.heap.size w).alloc nL (.cells #[(a:Int),(f:Int),(k:Int),.slice d nd e] 32)).alloc zs (.cells #[(1:Int),o0,(),()] 29);have l:Bk ((w.alloc (.cells #[(a:Int),(f:Int),(k:Int),.slice d nd e] 32)).alloc (.cells #[(1:Int),o0,(),()] 29)) (w.heap.size+1) 29 #[(1:Int),o0,(),()]:=by simpa using kd (w.alloc (.cells #[(a:Int),(f:Int),(k:Int),.slice d nd e] 32)) 29 #[(1:Int),o0,(),()]
 exact jK (s:=w.heap.size+1) (A1:=none) (c1:=0) (A2:=none) (c2:=0) (.inl rfl) rfl l (kF i) (aV _ _ _) (aV _ _ _) (o.Z i)
def aNH {g gp:Nat} {D} {nd:Nat} (e:Nat) {B:Nat} {z C k aA:Int} {T F T2 r} (a:doM T aA z C k F=(T2,r)) {w} (f:Bk w g 91 #[gp,(aA:Int)]) (i:PlS w gp T) (l:Rd w B 1 D nd (F.map bv)) (hB:B<=w.heap.size) (o:0 < nd->∀E,D=some E->E.block≠gp) (p:g≠gp) (j:T.length<=549755813888) (m:nd<=549755813888) (u:-9223372036854775808<=C/\C<=9223372036854775807) (q:-9223372036854775808<=k/\k<=9223372036854775807) (s:0<=aA/\aA<=2147483648):
 Calls prog 20 #[g,bK z C k D nd e] w λU w'=>fQ gp T2 r w w' U:=by
 have G:F.length=nd:=by simpa using l.1
 unfold doM at a;by_cases J:z=1
 .subst J;rw [zBx rfl] at a;cases d:dK T.length C 0 with
  | false=>
   rw [zBx d] at a;cases a;exact aD5 e f i l hB o p j m u q s d
  | true=>
   rw [zBw (by rw [d];decide)] at a;by_cases I:aA -(T.length:Int) < F.length;rw [zBx I] at a;cases a;exact aFQ e f i l hB o p j m u q s d (by rw [<-G];exact I);rw [zBw I] at a;cases a;obtain ⟨E,b,rfl,V,H⟩:=dT d;exact aJT e f i l hB o p j m u q s d (by rw [<-G];omega)
 rw [zBw J] at a;by_cases K:z=2
 .subst K;rw [zBx rfl] at a;cases d:dK T.length C k with
  | false=>
   rw [zBx d] at a;cases a;exact yN (.inl rfl) e f i l hB o p j m u q s d
  | true=>
   rw [zBw (by rw [d];decide)] at a;cases a;obtain ⟨E,b,rfl,rfl,H⟩:=dT d;exact aJU e f i l hB o p j m u q s d
 rw [zBw K] at a;by_cases N:z=5
 .subst N;rw [zBx rfl] at a;cases d:dK T.length C k with
  | false=>
   rw [zBx d] at a;cases a;exact yN (.inr rfl) e f i l hB o p j m u q s d
  | true=>
   rw [zBw (by rw [d];decide)] at a;cases a;obtain ⟨E,b,rfl,rfl,H⟩:=dT d;exact aHC e f i l hB o p j m u q s d
 rw [zBw N] at a;by_cases L:z=3
 .subst L;rw [zBx rfl] at a;rw [G] at a;cases d:dK T.length C nd with
  | false=>
   rw [zBx d] at a;cases a;exact aD4 e f i l hB o p j m u q s d
  | true=>
   rw [zBw (by rw [d];decide)] at a;cases a;obtain ⟨E,b,rfl,V,H⟩:=dT d;exact aJQ e f i l hB o p j m u q s d
 rw [zBw L] at a;by_cases M:z=4;subst M;rw [zBx rfl] at a;cases a;exact aO5 D nd e C k f i j;rw [zBw M] at a;by_cases O:z=6;subst O;rw [zBx rfl] at a;cases a;exact aMp e f i l hB o p j m u q s;rw [zBw O] at a;by_cases R:z=7;subst R;rw [zBx rfl] at a;cases a;exact aJS e f i l hB o p j m u q s;rw [zBw R] at a;by_cases S:z=8;subst S;rw [zBx rfl] at a;cases a;exact aJR D nd e C k f i;rw [zBw S] at a;cases a;exact aMo D nd e z C k f i oM
section
variable {w w1 w' : World} {B g gp sz n c : Nat} {aA : Int} {T : List UInt8} {A : Option Addr} {xs : List Value}
end
section
variable {w w' : World} {B gs g gp : Nat} {own own' : Nat -> Nat} {aA : Int}
end
def aOZ (w:World) (g gp:Nat) (aA:Int) (T2:List UInt8) (r:Told) (a:Ending) (w':World):Prop:=
 ∃A1 c1 A2 c2,a=.returned (.agg (iD r A1 c1 A2 c2))/\MdAt w' g gp aA T2/\Keep (λb=>b=gp) w w'/\Made w' w.heap.size 5 1 A1 r.data.length c1 (r.data.map bv)/\Made w' w.heap.size 3 1 A2 r.places.length c2 (r.places.map nv)
def aDY (w:World) (g gp:Nat) (aA:Int) (T2:List UInt8) (r:Told) (a:Ending) (w':World):Prop:=aOZ w g gp aA T2 r a w'/\PlO w w' gp
def aJJ {B g gp aA T T2 r p l k d A j} (c) {w} (a:MdAt w g gp aA T) (hB:B<=gp) (D:T.length<=549755813888) (m:RdM w B 1 A j (d.map bv)) (J:-9223372036854775808<=l/\l<=9223372036854775807) (G:-9223372036854775808<=k/\k<=9223372036854775807) (L:d.length<=549755813888) (u:doM T aA p l k d=(T2,r)):
 Calls prog 20 #[g,.agg #[(p:Int),(l:Int),(k:Int),.slice A j c]] w (aDY w g gp aA T2 r):=by
 have M:d.length=j:=by simpa using m.1.1
 have H:0 < j->∀e,A=some e->e.block≠gp:=λq e E f=>by obtain ⟨_,_,K,_⟩:=a.pl;rcases m.2 q e E with N |⟨t,cs,s,_,i⟩;omega;rw [f] at i;exact Bk.ne i K s rfl
 refine (aNH c u a.mod a.pl m.1 nL H a.ne D oM J G ⟨a.b0,a.b1⟩).mono ?_;rintro f w' ⟨⟨A1,c1,A2,c2,F,o,i,z,C⟩,I⟩;exact ⟨⟨A1,c1,A2,c2,F,⟨o.d a.mod (λf=>a.ne f),C,a.b0,a.b1⟩,o,i,z⟩,I⟩
section
variable {P : Program} {ops : Array Oper} {Q : Exit -> Act -> World -> Prop} {md : Region.Mode}
end
section
variable {w w' : World} {v : Value}
def aIw (N0 t cs):Stb (fresh N0 t cs):=λ_ _ _ ⟨g,d,e,a⟩ k=>⟨g,d,e,a.below k a.lt⟩
def aLA {N0 t cs} (a:N0<=w.heap.size):fresh N0 t cs (.pointer (some w.heap.size)) (w.alloc (.cells cs t)):=⟨_,rfl,a,kd _ _ _⟩
variable {B gs gl gx gt N0 aA rate : Nat} {own own' : Nat -> Nat} {T T2 : List UInt8} {r : Told}
end
section
variable {w w' : World} {g : Nat} {t : TypeId} {cs : Array Value} (hx : Bk w g t cs) (k : Keep (λb => b = g) w w')
include hx k
end
section
variable {w : World} {g g' : Nat} {r : Told} {A1 A2 : Option Addr} {x y : Int} {n1 c1 n2 c2 : Nat}
end
def zY (w:World) (g:Nat) (k a n:Int) (d:Value):World:=(((w.setCell g (.int .i64 k)).setCell ⟨g,1,none⟩ (.int .i64 a)).setCell ⟨g,2,none⟩ (.int .i64 n)).setCell ⟨g,3,none⟩ d
def aCR {B w g} (hB:B<=w.heap.size) (j:B<=g) (k a n d):Below B w (zY w g k a n d):=
 (((((ke (λb=>b=g) w).setCell (p:=g) (.inl rfl) (.int .i64 k)).setCell (p:=⟨g,1,none⟩) (.inl rfl) (.int .i64 a)).setCell (p:=⟨g,2,none⟩) (.inl rfl) (.int .i64 n)).setCell (p:=⟨g,3,none⟩) (.inl rfl) d).e hB λb i e=>by have f:b=g:=e;omega
def aID {w g f i j l} (e:Bk w g 32 #[f,i,j,l]) (k a n d):Bk (zY w g k a n d) g 32 #[(k:Int),(a:Int),(n:Int),d]:=by
 have:=(((e.set 0 (.int .i64 k)).set 1 (.int .i64 a)).set 2 (.int .i64 n)).set 3 d;simpa [zY] using this
def aA6 {B:Nat} {own} {gs gl aA rate:Nat} {t f T2} {l:Int} (n:Int) {A} {d:Nat} (c:Nat) (i num:Int) (a e) (n1 n2:Nat) {w} (q:doM t (aA:Int) 1 l n f=(T2,⟨i,num,a,e⟩)) (m:a.length=n1) (o:e.length=n2) (j:StAt w B own gs gl aA rate t) (u:ArgZ w B own gs A d f) (C:d<=1000000) (z:TabW w) (s:0 < B) (p:T2.length<=895):
 Calls prog 8 #[gs,.agg #[(1:Int),(l:Int),(n:Int),.slice A d c]] w (sE w B own gs aA rate T2 i num a e n1 n2):=
 (aCz c q j u C z s p).mono λD w'=>StDone.v j.a.lt m o
def aHm {B:Nat} {own} {gs gl aA rate:Nat} {t f T2} {l n:Int} {A} {d:Nat} (c:Nat) {i num:Int} {a e} (n1 n2:Nat) {w} (q:doM t (aA:Int) 7 l n f=(T2,⟨i,num,a,e⟩)) (m:a.length=n1) (o:e.length=n2) (j:StAt w B own gs gl aA rate t) (u:ArgZ w B own gs A d f) (C:d<=1000000) (z:TabW w) (s:0 < B) (p:T2.length<=895):
 Calls prog 8 #[gs,.agg #[(7:Int),(l:Int),(n:Int),.slice A d c]] w (sE w B own gs aA rate T2 i num a e n1 n2):=
 (aCy c q j u C z s p).mono λD w'=>StDone.v j.a.lt m o
def aHl {B:Nat} {own} {gs gl aA rate:Nat} {t f T2} {l n:Int} {A} {d:Nat} (c:Nat) {i num:Int} {a e} (n1 n2:Nat) {w} (q:doM t (aA:Int) 8 l n f=(T2,⟨i,num,a,e⟩)) (m:a.length=n1) (o:e.length=n2) (j:StAt w B own gs gl aA rate t) (u:ArgZ w B own gs A d f) (C:d<=1000000) (z:TabW w) (s:0 < B) (p:T2.length<=895):
 Calls prog 8 #[gs,.agg #[(8:Int),(l:Int),(n:Int),.slice A d c]] w (sE w B own gs aA rate T2 i num a e n1 n2):=
 (aCx c q j u C z s p).mono λD w'=>StDone.v j.a.lt m o
def aAP {a B gs gl aA rate own t} (i:StAt a B own gs gl aA rate t) (cs e d n) (l:cs.toList=d.map bv) (m:d.length=n):ArgZ (a.alloc (.cells cs 5 e)) B own gs (some ⟨a.heap.size,0,none⟩) n d:=by
 have o:cs.size=n:=by rw [<-Array.length_toList,l];simpa using m
 have j:=aHK a 5 cs e n o;rw [l] at j;refine ⟨j.mono zs,λ_ p f=>?_⟩;injection f with f;subst f;refine .inr ⟨⟨i.fresh nL,by have:=i.a.lt;show a.heap.size≠gs;omega⟩,cs,e,?_⟩;exact heap_alloc_new a _
def aL6 {w B gs own}:ArgZ w B own gs none 0 []:=⟨Rd.nil _ _ _ _,λa=>absurd a oM⟩
structure Md3 (w:World) (g gp aA:Nat) (T:List UInt8) (A:Option Addr) (c:Nat) (cs:Array Value):Prop where
 mod:Bk w g 91 #[gp,(aA:Int)]
 pl:Bk w gp 89 #[.slice A T.length c]
 bm:∀a,A=some a->0 < T.length->a.block≠gp/\Bk w a.block 5 cs
 rd:Rd w w.heap.size 1 A T.length (T.map bv)
 cap:T.length<=c
 max:aA<=2147483648
structure Ap3 (own:Nat->Nat) (gs g gp n:Nat) (A:Option Addr):Prop where
 a0:Ap own gs g
 a1:Ap own gs gp
 a2:∀a,A=some a->0 < n->Ap own gs a.block
def MdZ (w:World) (own:Nat->Nat) (gs g gp aA:Nat) (T:List UInt8):Prop:=∃A c cs,Md3 w g gp aA T A c cs/\Ap3 own gs g gp T.length A
section
variable {w w' : World} {B gs g gp aA c n : Nat} {own own' : Nat -> Nat} {T T2 : List UInt8} {A : Option Addr} {cs : Array Value}
def Md3.at (a:Md3 w g gp aA T A c cs):MdAt w g gp (aA:Int) T:=⟨a.mod,⟨A,c,a.pl,a.rd,a.cap,λe d f=>⟨(a.bm d f e).1,cs,(a.bm d f e).2⟩⟩,by omega,by have:=a.max;omega⟩
def Md3.same (a:Md3 w g gp aA T A c cs) (o:w.heap.size<=w'.heap.size) (k0:Bk w' g 91 #[gp,(aA:Int)]) (u:Bk w' gp 89 #[.slice A T.length c]) (j:∀e,A=some e->0 < T.length->Bk w' e.block 5 cs):Md3 w' g gp aA T A c cs:=by
 refine ⟨k0,u,λe i d=>⟨(a.bm e i d).1,j e i d⟩,⟨a.rd.1,λd=>?_⟩,a.cap,a.max⟩;obtain ⟨b,z,f,l,m⟩:=a.rd.2 d;have p:w'.heap[b]?=w.heap[b]?:=(j _ f d).trans (Eq.symm (a.bm _ f d).2);exact ⟨b,z,f,zAl l o,λs C q=>by rw [<-m s C q];exact zDd p⟩
def Md3.below (a:Md3 w g gp aA T A c cs) (k:Below w.heap.size w w'):Md3 w' g gp aA T A c cs:=
 a.same k.size (a.mod.below k a.mod.lt) (a.pl.below k a.pl.lt) λd f e=>(a.bm d f e).2.below k (a.bm d f e).2.lt
def Md3.dm (d:Md3 w g gp aA T A c cs) (a:Ap3 own gs g gp T.length A) (k:LFS B gs w w' own own'):Md3 w' g gp aA T A c cs:=
 d.same k.size (k.d d.mod a.a0.x a.a0.ne dC dC) (k.d d.pl a.a1.x a.a1.ne dC dC) λe i f=>k.d (d.bm e i f).2 (a.a2 e i f).x (a.a2 e i f).ne dC dC
def Md3.ce (a:Md3 w g gp aA T A c cs) (d:Ap3 own gs g gp T.length A) (k:LFS B gs w w' own own'):Ap3 own' gs g gp T.length A:=
 ⟨d.a0.step k a.mod.lt,d.a1.step k a.pl.lt,λe i f=>(d.a2 e i f).step k (a.bm e i f).2.lt⟩
def MdZ.at (a:MdZ w own gs g gp aA T):MdAt w g gp (aA:Int) T:=by
 obtain ⟨A,c,cs,d,_⟩:=a;exact d.at
def MdZ.below (a:MdZ w own gs g gp aA T) (k:Below w.heap.size w w'):MdZ w' own gs g gp aA T:=by
 obtain ⟨A,c,cs,d,e⟩:=a;exact ⟨A,c,cs,d.below k,e⟩
def MdAt.z (D:Md3 w g gp aA T A c cs) (i:Ap3 own gs g gp T.length A) (F:MdAt w' g gp (aA:Int) T2) (G:PlO w w' gp) (E:∀b,w.heap.size<=b->Ap own gs b):MdZ w' own gs g gp aA T2:=by
 obtain ⟨s,⟨j,l,o,p,u,z⟩,I,J⟩:=F;have q:∀d,j=some d->0 < T2.length->Ap own gs d.block:=λd a f=>by rcases G j _ l o with e | e;have:=Bk.un D.pl e;injection this with this;injection this with this;injection this with f1 f2 f3;exact i.a2 d (by rw [f1];exact a) (by rw [f2];exact f);exact E _ (e d a)
 by_cases m:0 < T2.length;obtain ⟨b,K,e,_⟩:=p.2 (by simpa using m);obtain ⟨C,H⟩:=(z m _ e).2;exact ⟨j,l,C,⟨s,o,λd a f=>⟨(z f d a).1,by rw [e] at a;injection a with a;rw [<-a];exact H⟩,p,u,by omega⟩,i.a0,i.a1,q⟩;exact ⟨j,l,#[],⟨s,o,λd a f=>absurd f m,p,u,by omega⟩,i.a0,i.a1,q⟩
end
section
variable {B gs gl g gp aA rate N0 : Nat} {own : Nat -> Nat} {T T2 : List UInt8} {r : Told} {A : Option Addr} {c : Nat} {cs : Array Value} {v : Value} {w w' : World}
def MzA (B gs g gp n N0 aA rate:Nat) (A:Option Addr) (T2:List UInt8) (r:Told) (v:Value) (w:World):Prop:=∃a d,StAt w B a gs d aA rate T2/\Ap3 a gs g gp n A/\∃A1 c1 A2 c2,v=.agg (iD r A1 c1 A2 c2)/\Made w N0 5 1 A1 r.data.length c1 (r.data.map bv)/\Made w N0 3 1 A2 r.places.length c2 (r.places.map nv)
def MzA.below {n} (d:MzA B gs g gp n N0 aA rate A T2 r v w) (k:Below w.heap.size w w'):MzA B gs g gp n N0 aA rate A T2 r v w':=by
 obtain ⟨m,a,e,f,A1,c1,A2,c2,i,j,l⟩:=d;exact ⟨m,a,e.G (kb k),f,A1,c1,A2,c2,i,j.below k,l.below k⟩
def MzA.keep {n} (i:MzA B gs g gp n N0 aA rate A T2 r v w) (k:Keep (λb=>b=gp) w w') (hx:gp < N0):MzA B gs g gp n N0 aA rate A T2 r v w':=by
 obtain ⟨p,f,j,e,A1,c1,A2,c2,l,m,o⟩:=i;exact ⟨p,f,j.m k (λb a=>by have d:b=gp:=a;rw [d];exact e.a1),e,A1,c1,A2,c2,l,m.o k (λb a=>by have d:b=gp:=a;omega),o.o k (λb a=>by have d:b=gp:=a;omega)⟩
def MzB (B gs g gp N0 aA rate:Nat) (T2:List UInt8) (r:Told) (v:Value) (w:World):Prop:=∃a d,StAt w B a gs d aA rate T2/\MdZ w a gs g gp aA T2/\∃A1 c1 A2 c2,v=.agg (iD r A1 c1 A2 c2)/\Made w N0 5 1 A1 r.data.length c1 (r.data.map bv)/\Made w N0 3 1 A2 r.places.length c2 (r.places.map nv)
def MzB.below (d:MzB B gs g gp N0 aA rate T2 r v w) (k:Below w.heap.size w w'):MzB B gs g gp N0 aA rate T2 r v w':=by
 obtain ⟨m,a,e,f,A1,c1,A2,c2,i,j,l⟩:=d;exact ⟨m,a,e.G (kb k),f.below k,A1,c1,A2,c2,i,j.below k,l.below k⟩
def MzS (d e B gs gp:Nat) (own:Nat->Nat) (aA rate:Nat) (T2:List UInt8) (a:Nat) (w w':World):Prop:=(a=d->DoS B gs own aA rate T2 w w')/\(a=e->Keep (λb=>b=gp) w w')/\(a≠d->a≠e->Below w.heap.size w w')
def MzC (a:World) (B gt N0:Nat) (d:Array Value) (w:World):Prop:=Bk w gt 32 d/\Below B a w/\B<=w.heap.size/\N0<=w.heap.size
def MzU (d e B gs gl g gp:Nat) (own:Nat->Nat) (aA rate:Nat) (T:List UInt8) (A:Option Addr) (c:Nat) (cs:Array Value) (a:Nat) (w:World):Prop:=(a=d->StAt w B own gs gl aA rate T/\Md3 w g gp aA T A c cs)/\(a=e->Md3 w g gp aA T A c cs)
def MzC.step {p o s u gt z} (C:MzC p B gt N0 z w) (k:MzS s u B gs gp own aA rate T2 o w w') (q:Ap own gs gt) (D:gt≠gp) (G:B<=gp):MzC p B gt N0 z w':=by
 obtain ⟨e,l,a,m⟩:=C;by_cases c1:o=s;obtain ⟨own',F,_,i⟩:=k.1 c1;exact ⟨i.d e q.x q.ne dC dC,l.trans (i.below a),zAk a i.size,zAk m i.size⟩;by_cases c2:o=u;have f:=k.2.1 c2;exact ⟨f.d e (λj=>D j),l.trans (f.e a λb d j=>by have E:b=gp:=j;omega),zAk a f.size,zAk m f.size⟩;have d:=k.2.2 c1 c2;exact ⟨e.below d e.lt,l.trans (d.mono a),zAk a d.size,zAk m d.size⟩
def MzC.drew {d gt e} (a:MzC d B gt N0 e w):MzC d B gt N0 e w.drew:=⟨a.1,a.2.1.trans (dD w B),a.2.2.1,a.2.2.2⟩
def MzU.drew {e f i} (d:MzU f i B gs gl g gp own aA rate T A c cs e w):MzU f i B gs gl g gp own aA rate T A c cs e w.drew:=⟨λa=>⟨(d.1 a).1.G (kb (dD _ _)),(d.1 a).2.below (dD _ _)⟩,λa=>(d.2 a).below (dD _ _)⟩
def MzU.step {f i d j} (e:MzU d j B gs gl g gp own aA rate T A c cs f w) (k:MzS d j B gs gp own aA rate T2 i w w') (p:Ap3 own gs g gp T.length A) (o:f≠i) (q:f=d->i≠j):MzU d j B gs gl g gp own aA rate T A c cs f w':=by
 refine ⟨λa=>?_,λa=>?_⟩;have m:=k.2.2 (λl=>o (a.trans l.symm)) (q a);exact ⟨(e.1 a).1.G (kb m),(e.1 a).2.below m⟩;by_cases c1:i=d;obtain ⟨own',u,_,s⟩:=k.1 c1;exact (e.2 a).dm p s;exact (e.2 a).below (k.2.2 c1 (λl=>o (a.trans l.symm)))
def aC6 {d e f} (i:d≠e) (j:d≠f) (k:Below w.heap.size w w'):MzS e f B gs gp own aA rate T2 d w w':=⟨λa=>absurd a i,λa=>absurd a j,λ_ _=>k⟩
def aOb {j1 j2 n} (s:j1≠j2) (m:Md3 w g gp aA T A c cs) (l:Ap3 own gs g gp T.length A) (u:T.length=n) (j:N0<=w.heap.size) (q:StDone w B own gs aA rate T2 r (.returned v) w'):MzA B gs g gp n N0 aA rate A T2 r v w'/\MzS j1 j2 B gs gp own aA rate T2 j1 w w':=by
 subst u;obtain ⟨A1,c1,A2,c2,own',e,d,f,i,o,p,_,_⟩:=q;injection d with d;exact ⟨⟨own',e,f,m.ce l i,A1,c1,A2,c2,d,o.mono j,p.mono j⟩,λ_=>⟨own',e,f,i⟩,λa=>absurd a s,λa=>absurd rfl a⟩
def aOa {j1 j2 n I} (E:j1≠j2) (o:Md3 w g gp aA T A c cs) (F:T.length=n) (J:gp < N0) (i:N0<=w.heap.size) (u:MzA B gs g gp n N0 aA rate A T2 r I w) (D:aDY w g gp (aA:Int) T2 r (.returned v) w'):MzB B gs g gp N0 aA rate T2 r v w'/\MzS j1 j2 B gs gp own aA rate T2 j2 w w':=by
 subst F;obtain ⟨⟨A1,c1,A2,c2,d,p,f,q,s⟩,G⟩:=D;injection d with d;obtain ⟨H,m,e,j,_⟩:=u;refine ⟨⟨H,m,e.m f (λb a=>by have l:b=gp:=a;rw [l];exact j.a1),p.z o j G (λb C=>⟨e.fresh C,by have:=e.a.lt;omega⟩),A1,c1,A2,c2,d,q.mono i,s.mono i⟩,λa=>absurd a.symm E,λ_=>f,λ_ a=>absurd rfl a⟩
end
def aBO (A) {n} (c w) (f:n < 8):
 Calls prog 73 #[.slice A n c] w λa w'=>a=.returned (.tuple #[.pointer none,.agg #[o0,o0,o0],(4:Int)])/\Below w.heap.size w w':=by
 have e:=zy ((n:Int) < 8);go_enter func73,ntmps73;go_wp2_with fail;have d:=kd w 115 #[o0,o0,o0];exact bodyPost_ret (xS rfl _ _ w.heap.size 115 #[o0,o0,o0] (0,0) _ rfl d underlying115 rfl kR) rfl ⟨rfl,bR.alloc nL _⟩
def yU (gs:Nat) (A) (n c:Nat) (w) (j:n < 8):
 Calls prog 28 #[gs,.slice A n c] w λd w'=>d=.returned (.int .i64 4)/\Below w.heap.size w w':=by
 have f:=aBO A c w j;go_enter func28,ntmps28;go_wp2_with fail;refine f.mono ?_;rintro d w1 ⟨rfl,a⟩;have e:Below w1.heap.size w1 (w1.alloc (.cells #[o0,o0,o0] 115)):=bR.alloc nL _;have i:=(a.trans (e.mono a.size));clear f a e;go_wp2_with fail;go_ret;exact ⟨rfl,i⟩
def aMw:doM [] ((9:Nat):Int) 1 0 0 [97,98,99,97,98]=([97,98,99,97,98],⟨0,0, [], []⟩):=by rfl
def aMv:doM [97,98,99,97,98] ((9:Nat):Int) 7 0 0 [97,98]=([97,98,99,97,98],⟨0,2, [], [0,3]⟩):=by rfl
def aKc:doM [97,98,99,97,98] ((9:Nat):Int) 1 1 0 [122,122,122,122,122]=([97,98,99,97,98],⟨3,0, [], []⟩):=by rfl
def aNX:doM [97,98,99,97,98] ((9:Nat):Int) 8 0 0 []=([97,98,99,97,98],⟨0,0, [], []⟩):=by rfl
def aN3 (a num d e w):(Instr.field 29 (.agg #[(a:Int),(num:Int),d,e]) 0).run prog w=.ok (.int .i64 a) w:=by kernel_rfl
def zA {w w' B gs d aA rate own own' T A1 A2 n1 c1 n2 c2 i j} (e:StAt w' B own' gs d aA rate T) (l:LFS B gs w w' own own') (m:MadeZ w' own' gs 5 A1 n1 c1 i) (o:MadeZ w' own' gs 3 A2 n2 c2 j) (cs):
 StAt (w'.alloc (.cells cs 29)) B own' gs d aA rate T/\LFS B gs w (w'.alloc (.cells cs 29)) own own'/\MadeZ (w'.alloc (.cells cs 29)) own' gs 5 A1 n1 c1 i/\MadeZ (w'.alloc (.cells cs 29)) own' gs 3 A2 n2 c2 j/\Kp (w'.alloc (.cells cs 29)) own' gs w'.heap.size 29 cs/\w'.heap.size+1=(w'.alloc (.cells cs 29)).heap.size:=by
 have f:Below w'.heap.size w' (w'.alloc (.cells cs 29)):=bR.alloc nL _;have a:=LFS.j B gs own' f;exact ⟨e.G (kb f),l.trans a,m.step a dC dC,o.step a dC dC,Kp.new e _ _,by rw [sZ0]⟩
def aA0 {w} (ab:TabW w):
 Calls prog 16 #[] w λe w'=>e=.returned (.bool true)/\Below w.heap.size w w':=by
 have bK:=kU;have bM:=aN3;have bL:=aGd;have bo:=ab.pos;obtain ⟨B,hB⟩:=eqx w.heap.size;have q:0 < B:=oM;obtain ⟨bf,ap⟩:=hqq2 ab hB;clear ab bo hB;go_enter func16,ntmps16;go_wp2_with fail;refine (nM 9 3 w oM oM oM).mono ?_;rintro e w1 ⟨gs,gl,own,rfl,ag,a0⟩;rw [ap.out] at ag a0;obtain ⟨O,au,a5⟩:=hqq3 ag a0 (bf.out.below a0 q);clear ag a0;go_wp2_with fail;refine (sP 9 w1 oM (.inl oM)).mono ?_;rintro e a3 ⟨rfl,rfl⟩;go_wp2_with fail;refine (sQ 3 w1 (.inl oM)).mono ?_;rintro e a3 ⟨rfl,rfl⟩;go_wp2_with fail;refine (aA6 0 5 0 0 [] [] 0 0 aMw rfl rfl (O.out.G (kb (bR.alloc nL _))) (aAP O.out _ _ _ 5 rfl rfl) oM (a5.out.below (bR.alloc O.out.size _) q) q dC).mono ?_;rintro e a3 ⟨A1,c1,al,aO,br,bF,rfl,F,l,D,E⟩;replace l:=(LFS.j B gs own (bR.alloc nL _)).trans l;obtain ⟨G,a,N,L,C,H⟩:=zA F l D E #[(0:Int),(0:Int),.slice A1 0 c1,.slice al 0 aO];obtain ⟨a6,av,R,d,s⟩:=hqq5 (a5.out.below (a.below O.out.size) q) (au.out.trans (a.below O.out.size)) G C H;clear F l D E G a N L C H O a5 au;go_wp2_with fail;generalize a3.alloc (.cells #[(0:Int),(0:Int),.slice A1 0 c1,.slice al 0 aO] 29)=w2x at*
 try rw [s.out]
 generalize a3.heap.size=ga at*
 clear s;refine (aHm 2 0 2 aMv rfl rfl (R.out.G (kb (bR.alloc nL _))) (aAP R.out _ _ _ 2 rfl rfl) oM (a6.out.below (bR.alloc R.out.size _) q) q dC).mono ?_;rintro e b9 ⟨A1,c1,am,aP,bs,bG,rfl,F,l,D,E⟩;replace l:=(LFS.j B gs br (bR.alloc nL _)).trans l;obtain ⟨G,a,N,L,C,H⟩:=zA F l D E #[(0:Int),(2:Int),.slice A1 0 c1,.slice am 2 aP];have f:=lhd (d.out.step a dC dC);clear d;have d:=f;clear f;obtain ⟨a7,aw,S,i,s,j⟩:=hqq6 (a6.out.below (a.below R.out.size) q) (av.out.trans (a.below R.out.size)) G C H L;clear F l D E G a N L C H R a6 av;go_wp2_with fail;generalize b9.alloc (.cells #[(0:Int),(2:Int),.slice A1 0 c1,.slice am 2 aP] 29)=w3x at*
 try rw [s.out]
 generalize b9.heap.size=gb at*
 clear s;refine (aA6 0 5 3 0 [] [] 0 0 aKc rfl rfl (S.out.G (kb (bR.alloc nL _))) (aAP S.out _ _ _ 5 rfl rfl) oM (a7.out.below (bR.alloc S.out.size _) q) q dC).mono ?_;rintro e ba ⟨A1,c1,an,aQ,bO,bH,rfl,F,l,D,E⟩;replace l:=(LFS.j B gs bs (bR.alloc nL _)).trans l;obtain ⟨G,a,N,L,C,H⟩:=zA F l D E #[(3:Int),(0:Int),.slice A1 0 c1,.slice an 0 aQ];have f:=lhd (d.out.step a dC dC);clear d;have d:=f;clear f;have p:=lhd (j.out.step a dC dC);clear j;have j:=p;clear p;have m:=lhd (i.out.step a dC dC);clear i;have i:=m;clear m;obtain ⟨a8,ax,Z,o,s⟩:=hqq5 (a7.out.below (a.below S.out.size) q) (aw.out.trans (a.below S.out.size)) G C H;clear F l D E G a N L C H S a7 aw;go_wp2_with fail;generalize ba.alloc (.cells #[(3:Int),(0:Int),.slice A1 0 c1,.slice an 0 aQ] 29)=w4x at*
 try rw [s.out]
 generalize ba.heap.size=gc at*
 clear s;refine (aHl 0 0 0 aNX rfl rfl Z.out aL6 oM a8.out q dC).mono ?_;rintro e bb ⟨A1,c1,ao,aR,bt,bI,rfl,F,l,D,E⟩;obtain ⟨G,a,N,L,C,H⟩:=zA F l D E #[(0:Int),(0:Int),.slice A1 0 c1,.slice ao 0 aR];have f:=lhd (d.out.step a dC dC);clear d;have d:=f;clear f;have p:=lhd (j.out.step a dC dC);clear j;have j:=p;clear p;have m:=lhd (i.out.step a dC dC);clear i;have i:=m;clear m;have u:=lhd (o.out.step a dC dC);clear o;have o:=u;clear u;obtain ⟨aq,ay,U,z,s⟩:=hqq5 (a8.out.below (a.below Z.out.size) q) (ax.out.trans (a.below Z.out.size)) G C H;clear F l D E G a N L C H Z a8 ax;go_wp2_with fail;generalize bb.alloc (.cells #[(0:Int),(0:Int),.slice A1 0 c1,.slice ao 0 aR] 29)=w5x at*
 try rw [s.out]
 generalize bb.heap.size=gd at*
 clear s;obtain ⟨W,V⟩:∃W,IsSuf (aG [97,98,99,97,98]) W:=by obtain ⟨W,_,_,_,V,_⟩:=U.out.tp;exact ⟨W,V⟩
 have a2:=tP U.out V;unfold gJ at a2;obtain ⟨bN,af⟩:=eqx ((fC (aH (aG [97,98,99,97,98]) W) W 9 3 ([97,98,99,97,98]:List UInt8).length).length);rw [af] at a2;refine a2.mono ?_;clear a2;rintro e bP ⟨be,bj,rfl,a1,ai⟩;have J:=LFS.i gs bt ai;have f:=lhd (d.out.step J dC dC);clear d;have d:=f;clear f;have p:=lhd (j.out.step J dC dC);clear j;have j:=p;clear p;have m:=lhd (i.out.step J dC dC);clear i;have i:=m;clear m;have u:=lhd (o.out.step J dC dC);clear o;have o:=u;clear u;have I:=lhd (z.out.step J dC dC);clear z;have z:=I;clear I;have ah:=U.out.G ai.1;have aY:=aA4 be bj ah V dC dC dC dC dC af a1.rd a1.cap a1.max;obtain ⟨az,ar,a9,aN,aJ⟩:=hqq5 (ay.out.trans (J.below U.out.size)) (aq.out.below (J.below U.out.size) q) ah V aY;clear ah J ai a1 af V aY ay aq U;go_wp2_with fail;refine aJ.out.mono ?_;rintro e bc ⟨rfl,b7,bJ,b2,K⟩;have f:=lhd (d.out.step K dC dC);clear d;have d:=f;clear f;have p:=lhd (j.out.step K dC dC);clear j;have j:=p;clear p;have m:=lhd (i.out.step K dC dC);clear i;have i:=m;clear m;have u:=lhd (o.out.step K dC dC);clear o;have o:=u;clear u;have I:=lhd (z.out.step K dC dC);clear z;have z:=I;clear I;obtain ⟨aB,bg,aa⟩:=hqq3 (az.out.trans (K.below a9.out.size)) (ar.out.below (K.below a9.out.size) q) b2;clear b2 K aJ az ar a9;go_wp2_with fail;refine (yU gs _ 1 1 _ oM).mono ?_;rintro e bB ⟨rfl,aU⟩;have ac:=(Below.alloc (kg bc.heap.size bc) nL (.cells #[.int .u8 120] 5 (1,2))).trans (aU.mono (by simp));have M:=LFS.j B gs b7 ac;have f:=lhd (d.out.step M dC dC);clear d;have d:=f;clear f;have p:=lhd (j.out.step M dC dC);clear j;have j:=p;clear p;have m:=lhd (i.out.step M dC dC);clear i;have i:=m;clear m;have u:=lhd (o.out.step M dC dC);clear o;have o:=u;clear u;have I:=lhd (z.out.step M dC dC);clear z;have z:=I;clear I;have b3:=aa.out.G (kb ac);obtain ⟨aC,X⟩:=hqq2 (aB.out.trans (M.below aa.out.size)) b3;obtain ⟨b4,_⟩:=d.out;obtain ⟨ak,_⟩:=i.out;obtain ⟨b5,_⟩:=o.out;obtain ⟨b6,_⟩:=z.out;obtain ⟨bi,bq,bm,_,aW⟩:=j.out.1.rd.2 oM;subst bm;have bu:=b4.cell 0;have bv:=ak.cell 1;have bw:=ak.cell 3;have bx:=b5.cell 0;have bz:=b6.cell 0;have bA:bB.cell? ⟨bi,bq+1,none⟩=some (.int .i64 3):=aW 1 _ rfl;have ae:=aA5 6 X.out aN.out rfl;unfold oR at ae;have aI:=lhd ae;clear b4 ak b5 b6 aW b3 M aU ac ae d i o z j aa aB bg;go_wp2_with fail;refine (aHk X.out).mono ?_;rintro e a4 ⟨rfl,rfl⟩;go_wp2_with fail;refine (aA3 X.out).mono ?_;rintro e a4 ⟨rfl,rfl⟩;go_wp2_with fail;refine aI.out.mono ?_;rintro e a4 ⟨bD,bk,rfl,aZ,aj⟩;obtain ⟨aK,aD⟩:=hqq2 aZ (aC.out.trans ((LFS.i gs b7 aj).below X.out.size));have aS:B<=a4.heap.size:=zAk X.out.size aj.1.size;clear aZ aj aI aC bu bv bw bx bz bA;go_wp2_with fail;refine (qR (t:=[97,98,99,97,98]) (n:=5) a4 rfl oM).mono ?_;rintro e bC ⟨bE,bl,b8,rfl,b1,b0,Y⟩;obtain rfl:=b1.unique aN.out;obtain ⟨aM,aL,aE⟩:=hqq3 (aK.out.rd.below Y) b0 (aD.out.trans (Y.mono aS));have aT:B<=bC.heap.size:=zAk aS Y.size;have bp:=Y.size;clear b0 Y b1 aK aD;go_wp2_with fail;refine (xT bk bl (aM.out.mono bp) aL.out.rd oM oM).mono ?_;rintro e bd ⟨rfl,ad⟩;have aX:decide (aH (aG [97,98,99,97,98]) b8=aH (aG [97,98,99,97,98]) b8)=true:=zBz rfl;rw [aX];have aF:=lhd (aE.out.trans (ad.mono aT));have bn:B<=bd.heap.size:=zAk aT ad.size;clear ad aX aL aM aE;go_wp2_with fail;refine (aFq 0 0 0 none 0 0 bd).mono ?_;rintro e wc ⟨rfl,aV⟩;have bh:=lhd (aF.out.trans (aV.mono bn));clear aV aF;go_wp2_with fail;refine (aBG wc).mono ?_;rintro e bQ ⟨rfl,rfl⟩;go_wp2_with fail;go_ret;exact ⟨rfl,by rw [ap.out];exact bh.out⟩
end Go.Proofs.YtknjfpcdhdmghaaGreatDoor
