/- Lemmas of the walk. Conditions: each its own. -/
import Derived.Test.YtknjfpcdhdmghaaGreatDoorPt33
import Derived.Test.YtknjfpcdhdmghaaGreatDoorPt34
set_option linter.all false
set_option maxRecDepth 100000
set_option maxHeartbeats 2000000
open Go.Proofs.Tryz
namespace Go.Proofs.YtknjfpcdhdmghaaGreatDoor
section
open Go.RowKit
section
variable {w w1 w' : World} {B gs gl aA rate : Nat} {own own' : Nat -> Nat} {T : List UInt8}
end
def aB4 {w B own gs gl aA rate e g} (b a num) {c:Exit} (n:StAt w B own gs gl aA rate e) (o:c=.ret∨c=.normal) (q:g.getD 4 undef=.pointer (some ⟨w.heap.size+1,0,none⟩)):
 bodyPost prog f8 (StDone w B own gs aA rate e ⟨a,num, [], []⟩) c ⟨g, []⟩ ((w.alloc (.cells b 32)).alloc (.cells #[(a:Int),(num:Int),(),()] 29)):=by
 have i:Below w.heap.size w ((w.alloc (.cells b 32)).alloc (.cells #[(a:Int),(num:Int),(),()] 29)):=(bR.alloc nL _).alloc zs _;have j:=kd (w.alloc (.cells b 32)) 29 #[(a:Int),(num:Int),(),()];rw [sZ0] at j;have k:=results_cell_row (P:=prog) (fn:=f8) (p:=4) (ty:=29) rfl g _ (w.heap.size+1) 29 (iD ⟨a,num, [], []⟩ none 0 none 0) (0,0) _ q j underlying29 rfl kR;have l:StDone w B own gs aA rate e ⟨a,num, [], []⟩ (.returned (.agg (iD ⟨a,num, [], []⟩ none 0 none 0))) ((w.alloc (.cells b 32)).alloc (.cells #[(a:Int),(num:Int),(),()] 29)):=
  ⟨none,0,none,0,own,gl,rfl,n.G (kb i),LFS.j B gs own i,aV _ _ _,aV _ _ _,(λm d=>by cases d),(λm d=>by cases d)⟩
 rcases o with rfl | rfl;exact bodyPost_ret k rfl l;exact bodyPost_end k rfl l
def aFr {B own gs gl aA rate d b} (j i c g e) {w} (f:StAt w B own gs gl aA rate b) (k:b.length=d):
 Calls prog 8 #[gs,bK 4 j i c g e] w (StDone w B own gs aA rate b ⟨0,(d:Int), [], []⟩):=by
 have a:=DoW.mk' 4 j i c g e f;have l:=a.st.cb k;have m:=a.box.cell 0;have x:=a.st.a.cell 0;have s:=a.wQ.cell 0;have t:=a.wQ.cell 1;have u:=a.wQ.cell 2;have v:=a.wQ.cell 3;have o:=a.wQ.frozen 0;have p:=a.wQ.frozen 1;have q:=a.wQ.frozen 2;have r:=a.wQ.frozen 3;clear a;unfold bK;go_enter func8,ntmps8;go_wp2_with fail;refine l.mono ?_;rintro n w1 ⟨rfl,rfl⟩;go_wp2_with fail;exact aB4 _ _ _ f (.inl rfl) rfl
def aFs {B own gs gl aA rate l} (a k j e i f) {w} (g:StAt w B own gs gl aA rate l) (c:∀d:Int,1<=d->d<=8->a≠d):
 Calls prog 8 #[gs,bK a k j e i f] w (StDone w B own gs aA rate l ⟨1,0, [], []⟩):=by
 have b:=DoW.mk' a k j e i f g;have m:=b.box.cell 0;have r:=b.wQ.cell 0;have s:=b.wQ.cell 1;have t:=b.wQ.cell 2;have u:=b.wQ.cell 3;have n:=b.wQ.frozen 0;have o:=b.wQ.frozen 1;have p:=b.wQ.frozen 2;have q:=b.wQ.frozen 3;have v:(a==1)=false:=zCb.2 (c 1 dC dC);have x:(a==2)=false:=zCb.2 (c 2 dC dC);have y:(a==3)=false:=zCb.2 (c 3 dC dC);have z:(a==4)=false:=zCb.2 (c 4 dC dC);have A:(a==5)=false:=zCb.2 (c 5 dC dC);have C:(a==6)=false:=zCb.2 (c 6 dC dC);have D:(a==7)=false:=zCb.2 (c 7 dC dC);have E:(a==8)=false:=zCb.2 (c 8 dC dC);clear b c;unfold bK;go_enter func8,ntmps8;go_wp2_with fail;exact aB4 _ _ _ g (.inl rfl) rfl
def aDO {B gl rate a p b c w} (e:TpAt w B gl p rate) (u:p.length=a) (g:dK a b c=false):
 Calls prog 25 #[gl,(b:Int),(c:Int)] w λd w'=>d=.returned (.tuple #[(),(2:Int)])/\w=w':=by
 have f:Calls prog 24 #[gl] w λd w'=>d=.returned (.int .i64 a)/\w=w':=by obtain ⟨A,gk,t,z,o,l,x,y,m⟩:=e;exact cD (n:=a) l.ai (by rw [bY,o.len,aO,u]) oM
 have m:a<=895:=by obtain ⟨A,gk,t,z,o,l,x,y,m⟩:=e;omega
 unfold dK at g;have v:=of_decide_eq_false g;clear e g;by_cases i:b < 0
 .have q:=zBz i;go_enter func25,ntmps25;go_wp2_with fail;go_ret2;exact ⟨rfl,rfl⟩
 .have q:=zBy i;by_cases j:c < 0
  .have r:=zBz j;go_enter func25,ntmps25;go_wp2_with fail;go_ret2;exact ⟨rfl,rfl⟩
  .have r:=zBy j;by_cases k:b > (a:Int)
   .have s:=zBz k;go_enter func25,ntmps25;go_wp2_with fail;refine f.mono ?_;rintro d w1 ⟨rfl,rfl⟩;go_wp2_with fail;go_ret2;exact ⟨rfl,rfl⟩
   .have s:=zBy k;have D:IntKind.i64.wrap (a - b)=(a:Int) - b:=zu;have C:=zy (c > (a:Int) - b);clear v;go_enter func25,ntmps25;go_wp2_with fail;refine f.mono ?_;rintro d w1 ⟨rfl,rfl⟩;go_wp2_with fail;refine f.mono ?_;rintro d w1 ⟨rfl,rfl⟩;go_wp2_with fail;go_ret2;exact ⟨rfl,rfl⟩
def aCz {B:Nat} {own} {gs gl aA rate:Nat} {d l r A} {m c:Int} {i} {b:Nat} (e:Nat) {w} (a:doM d (aA:Int) 1 m c l=(r,A)) (p:StAt w B own gs gl aA rate d) (u:ArgZ w B own gs i b l) (J:b<=1000000) (E:TabW w) (C:0 < B) (y:r.length<=895):
 Calls prog 8 #[gs,bK 1 m c i b e] w (StDone w B own gs aA rate r A):=by
 have D:l.length=b:=by simpa using u.1.1
 have K:∀j,LFS B gs w j own own->TabW j:=λj g=>E.below (g.below p.size) C;unfold doM at a;rw [zBx rfl] at a;cases q:dK d.length m 0 with
 | false=>
  rw [zBx q] at a;cases a;exact fO d m c i b e 2 p (.inl rfl) λj f g=>(oS _ 1 m c i b e f rfl (by simpa [uA] using q)).mono λo w' ⟨x,n⟩=>⟨x,own,f.G (kb n),LFS.j B gs own n⟩
 | true=>
  rw [zBw (by rw [q];decide)] at a;obtain ⟨s,G,rfl,I,H⟩:=dT q;by_cases z:(aA:Int) -d.length < l.length
  .rw [zBx z] at a;cases a;exact fO d _ c i b e 3 p (.inl rfl) λj f g=>(qL _ s c e true f rfl (u.step g) oM (zBz oM) (λo=>by cases o)).mono λo w' v=>have ⟨x,n⟩:=v.1 rfl;⟨x,own,f.G n.1,LFS.i gs own n⟩
  rw [zBw z] at a;cases a;rw [zBr] at y⊢;have F:=uP (t:=d) l (k:=s) oM;exact fO _ _ c i b e 0 p (.inl rfl) λj f g=>(qL _ s c e false f rfl (u.step g) oM (zBy oM) (λ_=>by rw [<-D,<-F];exact y)).mono λo w' v=>v.2 rfl
def aJE {B:Nat} {own} {gs gl aA rate:Nat} {l m n q} {g f:Int} {c} {a:Nat} (e:Nat) {w} (b:doM l (aA:Int) 2 g f m=(n,q)) (o:StAt w B own gs gl aA rate l) (s:ArgZ w B own gs c a m) (E:a<=1000000) (t:TabW w) (p:0 < B) (C:n.length<=895):
 Calls prog 8 #[gs,bK 2 g f c a e] w (StDone w B own gs aA rate n q):=by
 have D:m.length=a:=by simpa using s.1.1
 have v:∀d,LFS B gs w d own own->TabW d:=λd k=>t.below (k.below o.size) p;unfold doM at b;rw [zBw dC] at b;rw [zBx rfl] at b;cases i:dK l.length g f with
 | false=>
  rw [zBx i] at b;cases b;exact fO l g f c a e 2 o (.inr (.inl rfl)) λd j k=>(oS _ 2 g f c a e j rfl (by simpa [uA] using i)).mono λA w' ⟨x,r⟩=>⟨x,own,j.G (kb r),LFS.j B gs own r⟩
 | true=>
  rw [zBw (by rw [i];decide)] at b;cases b;obtain ⟨y,z,rfl,rfl,u⟩:=dT i;rw [zBr,zBr];exact fO _ _ _ c a e 0 o (.inr (.inl rfl)) λd j k=>sR c a e j (v d k) p rfl u
def aJD {B:Nat} {own} {gs gl aA rate:Nat} {m j n r} {i d:Int} {e} {b:Nat} (f:Nat) {w} (a:doM m (aA:Int) 3 i d j=(n,r)) (o:StAt w B own gs gl aA rate m) (q:ArgZ w B own gs e b j) (F:b<=1000000) (v:TabW w) (p:0 < B) (C:n.length<=895):
 Calls prog 8 #[gs,bK 3 i d e b f] w (StDone w B own gs aA rate n r):=by
 have u:j.length=b:=by simpa using q.1.1
 have x:∀c,LFS B gs w c own own->TabW c:=λc g=>v.below (g.below o.size) p;unfold doM at a;rw [zBw dC] at a;rw [zBw dC] at a;rw [zBw dC] at a;rw [zBx rfl] at a;cases k:dK m.length i (j.length:Int) with
 | false=>
  rw [zBx k] at a;cases a;exact fO m i d e b f 2 o (.inr (.inr rfl)) λc l g=>(oS _ 3 i d e b f l rfl (by simpa [uA,u] using k)).mono λA w' ⟨y,s⟩=>⟨y,own,l.G (kb s),LFS.j B gs own s⟩
 | true=>
  rw [zBw (by rw [k];decide)] at a;cases a;obtain ⟨t,z,rfl,E,D⟩:=dT k;rw [zBr];exact fO _ _ d e b f 0 o (.inr (.inr rfl)) λc l g=>aBH _ t d f l (x c g) p rfl (q.step g) oM
def aJC {B:Nat} {own} {gs gl aA rate:Nat} {j k l s} {i g:Int} {d} {c:Nat} (n:Nat) {w} (a:doM j (aA:Int) 5 i g k=(l,s)) (o:StAt w B own gs gl aA rate j) (t:ArgZ w B own gs d c k) (E:c<=1000000) (u:TabW w) (r:0 < B) (C:l.length<=895):
 Calls prog 8 #[gs,bK 5 i g d c n] w (StDone w B own gs aA rate l s):=by
 have D:k.length=c:=by simpa using t.1.1
 have x:∀b,LFS B gs w b own own->TabW b:=λb f=>u.below (f.below o.size) r;unfold doM at a;rw [zBw dC] at a;rw [zBw dC] at a;rw [zBx rfl] at a;cases e:dK j.length i g with
 | false=>
  rw [zBx e] at a;cases a;exact oT i g d c n o [] 2 0 rfl λb p f=>(aDO p.tp rfl e).mono λA w' ⟨y,z⟩=>by subst z;exact ⟨none,0,y,aV _ _ _,VisK.refl _ _⟩
 | true=>
  rw [zBw (by rw [e];decide)] at a;cases a;obtain ⟨q,m,rfl,rfl,v⟩:=dT e;rw [zBr,zBr];exact oT _ _ d c n o ((j.drop q).take m) 0 m (by rw [zAj,zAw];omega) λb p f=>aCD q m p.tp (x b f) r v
def aCy {B:Nat} {own} {gs gl aA rate:Nat} {n c d m} {g f:Int} {i} {b:Nat} (j:Nat) {w} (a:doM n (aA:Int) 7 g f c=(d,m)) (k:StAt w B own gs gl aA rate n) (l:ArgZ w B own gs i b c) (q:b<=1000000) (p:TabW w) (o:0 < B) (s:d.length<=895):
 Calls prog 8 #[gs,bK 7 g f i b j] w (StDone w B own gs aA rate d m):=by
 have t:c.length=b:=by simpa using l.1.1
 have u:∀e,LFS B gs w e own own->TabW e:=λe r=>p.below (r.below k.size) o;unfold doM at a;rw [zBw dC] at a;rw [zBw dC] at a;rw [zBw dC] at a;rw [zBw dC] at a;rw [zBw dC] at a;rw [zBw dC] at a;rw [zBx rfl] at a;cases a;exact qM g f j k l q
def aCx {B:Nat} {own} {gs gl aA rate:Nat} {m d e l} {i g:Int} {c} {b:Nat} (j:Nat) {w} (a:doM m (aA:Int) 8 i g d=(e,l)) (k:StAt w B own gs gl aA rate m) (o:ArgZ w B own gs c b d) (t:b<=1000000) (p:TabW w) (n:0 < B) (r:e.length<=895):
 Calls prog 8 #[gs,bK 8 i g c b j] w (StDone w B own gs aA rate e l):=by
 have s:d.length=b:=by simpa using o.1.1
 have u:∀f,LFS B gs w f own own->TabW f:=λf q=>p.below (q.below k.size) n;unfold doM at a;rw [zBw dC] at a;rw [zBw dC] at a;rw [zBw dC] at a;rw [zBw dC] at a;rw [zBw dC] at a;rw [zBw dC] at a;rw [zBw dC] at a;rw [zBx rfl] at a;cases a;exact aA7 i g c b j k
def aFp {B:Nat} {own} {gs gl aA rate:Nat} {C q p A} {b n m:Int} {o} {l:Nat} (c:Nat) {w} (e:doM C (aA:Int) b n m q=(p,A)) (d:StAt w B own gs gl aA rate C) (f:ArgZ w B own gs o l q) (g:l<=1000000) (k:TabW w) (j:0 < B) (i:p.length<=895):
 Calls prog 8 #[gs,bK b n m o l c] w (StDone w B own gs aA rate p A):=by
 have a:=e;unfold doM at a;by_cases r:b=1;subst r;exact aCz c e d f g k j i;rw [zBw r] at a;by_cases s:b=2;subst s;exact aJE c e d f g k j i;rw [zBw s] at a;by_cases v:b=5;subst v;exact aJC c e d f g k j i;rw [zBw v] at a;by_cases t:b=3;subst t;exact aJD c e d f g k j i;rw [zBw t] at a;by_cases u:b=4;subst u;rw [zBx rfl] at a;cases a;exact aFr n m o l c d rfl;rw [zBw u] at a;by_cases x:b=6;subst x;rw [zBx rfl] at a;cases a;exact sT n m c d f g;rw [zBw x] at a;by_cases y:b=7;subst y;exact aCy c e d f g k j i;rw [zBw y] at a;by_cases z:b=8;subst z;exact aCx c e d f g k j i;rw [zBw z] at a;cases a;exact aFs b n m o l c d λF D E=>by omega
def sQ {aA} (rate w) (d:aA < 0∨aA > 2147483648):
 Calls prog 7 #[(aA:Int),(rate:Int)] w λb w'=>b=.returned (.tuple #[.pointer none,(1:Int)])/\w=w':=by
 by_cases a:aA < 0
 .have c:=zBz a;go_enter func7,ntmps7;go_wp2_with fail;go_ret2;exact ⟨rfl,rfl⟩
 .have c:=zBy a;have e:=zy (aA > 2147483648);go_enter func7,ntmps7;go_wp2_with fail;go_ret2;exact ⟨rfl,rfl⟩
def aFK {rate} (b e c w) (g:rate < 1∨rate > 64):
 Calls prog 22 #[(rate:Int),.slice b e c] w λd w'=>d=.returned (.tuple #[.pointer none,(1:Int)])/\w=w':=by
 by_cases a:rate < 1
 .have f:=zBz a;go_enter func22,ntmps22;go_wp2_with fail;go_ret2;exact ⟨rfl,rfl⟩
 .have f:=zBy a;have i:=zy (rate > 64);go_enter func22,ntmps22;go_wp2_with fail;go_ret2;exact ⟨rfl,rfl⟩
def sP (aA:Nat) {rate:Int} (w) (e:aA<=2147483648) (b:rate < 1∨rate > 64):
 Calls prog 7 #[(aA:Int),(rate:Int)] w λa w'=>a=.returned (.tuple #[.pointer none,(1:Int)])/\w=w':=by
 have c:=aFK none 0 0 w b;have f:¬((aA:Int) < 0):=oM;have d:¬((aA:Int) > 2147483648):=oM;have g:=zBy d;clear b;go_enter func7,ntmps7;go_wp2_with fail;refine c.mono ?_;rintro a w1 ⟨rfl,rfl⟩;go_wp2_with fail;go_ret2;exact ⟨rfl,rfl⟩
end
section
open Go.ChangeShapes Go.WideShapes Go.ChangeAt Go.RowKit Go.Deep
structure Stp where
 kind:Int
 p:Int
 k:Int
 A:Option Addr
 n:Nat
 c:Nat
 D:List UInt8
def lX (a:Stp):List Value:= [iv a.kind,iv a.p,iv a.k,.slice a.A a.n a.c]
def gE (a:List Stp):List Value:=a.flatMap lX
def tW (a):(gE a).length=a.length*4:=by
 induction a with
 | nil=>rfl
 | cons c a b=>
  simp only [gE,zFT] at b⊢;rw [zAi,b,zCg];simp only [lX,zCg,zDM];omega
def dF (b a d) (g:Stp) (c:b[a]?=some g) (k:d < 4):(gE b)[a*4+d]?=(lX g)[d]?:=by
 induction b generalizing a with
 | nil=>simp at c
 | cons e b j=>
  have f:gE (e::b)=lX e++gE b:=(by simp [gE]);have i:(lX e).length=4:=rfl;rcases a with _ | a
  .simp at c;subst c;rw [f,zFH,zBi,zAn oM]
  simp only [zCf] at c;rw [f,zAo oM,i,show (a+1)*4+d - 4=a*4+d by omega];exact j a c
def aLu (a:Int):Prop:=-9223372036854775808<=a/\a<=9223372036854775807
def Stp.bf (w:World) (a:Stp):Prop:=aLu a.kind/\aLu a.p/\aLu a.k/\Rd w w.heap.size 1 a.A a.n (a.D.map bv)/\a.n<=a.c/\a.c<=maxLen
def aGf {C:Type} {I:TypeId×Value->C} {w J m} {G:DataW C×List MemPlace} (O:DataW.trod I prog w 0 (λ_=>true) true J 32 m=some G):∃F:Stp,m=lX F/\F.bf w:=by
 have K:prog.cellsOf 32=4:=kR
 obtain ⟨c,M,e,g,⟨ac,u,U⟩,⟨ad,v,V⟩,⟨ae,x,W⟩,⟨af,y,X⟩⟩:∃c:Array Field,prog.underlying 32=some (.struct c)/\oneCellFields prog c=true/\c.size=4/\(∃a,c[0]?=some a/\a.type=3)/\(∃a,c[1]?=some a/\a.type=3)/\(∃a,c[2]?=some a/\a.type=3)/\(∃a,c[3]?=some a/\a.type=22):=
  ⟨_,underlying32,rfl,rfl,⟨_,rfl,rfl⟩,⟨_,rfl,rfl⟩,⟨_,rfl,rfl⟩,⟨_,rfl,rfl⟩⟩
 obtain ⟨b,P,a9,aa,D,i,k⟩:=DataW.trod_struct M O;rw [K] at D
 match m,D with
 | [ag,ah,ai,Y],_=>
  have a0:b[0]?=some (b[0]'(by rw [i,g];decide)):=zAa _;have a1:b[1]?=some (b[1]'(by rw [i,g];decide)):=zAa _;have a2:b[2]?=some (b[2]'(by rw [i,g];decide)):=zAa _;have a3:b[3]?=some (b[3]'(by rw [i,g];decide)):=zAa _;have r:=k 0 _ u;rw [(hone_of e _ _ u).1,(hone_of e _ _ u).2,U,a0] at r;simp only [zFA,zFa,zDS,zDN] at r;have s:=k 1 _ v;rw [(hone_of e _ _ v).1,(hone_of e _ _ v).2,V,a1] at s;simp only [zFA,zFa,zDS,zDN] at s;have t:=k 2 _ x;rw [(hone_of e _ _ x).1,(hone_of e _ _ x).2,W,a2] at t;simp only [zFA,zFa,zDS,zDN] at t;have j:=k 3 _ y;rw [(hone_of e _ _ y).1,(hone_of e _ _ y).2,X,a3] at j;simp only [zFA,zFa,zDS,zDN] at j;obtain ⟨a4,n,_,w0⟩:=DataW.trod_int underlying3 r;obtain ⟨a5,o,_,w1⟩:=DataW.trod_int underlying3 s;obtain ⟨a6,q,_,Z⟩:=DataW.trod_int underlying3 t;injection n with n;injection o with o;injection q with q;subst n;subst o;subst q;have N:∃(l:Option Addr) (A z:Nat),Y=.slice l A z:=(by rcases open_slice underlying22 j with ⟨f,_⟩|⟨aj,ab,a8,_,_,_,_,f,_⟩;injection f with f;exact ⟨_,_,_,f⟩;injection f with f;exact ⟨_,_,_,f⟩);obtain ⟨l,A,z,rfl⟩:=N;obtain ⟨a7,E,Q,R,S⟩:=aE8 (d:=(b[3]'(by rw [i,g];decide)).1) (p:=(b[3]'(by rw [i,g];decide)).2) underlying22 underlying5 kR ⟨P,by simpa [Value.cells] using j⟩;obtain ⟨H,L⟩:=aE4 a7 Q;rw [L] at E;exact ⟨⟨a4,a5,a6,l,A,z,H⟩,rfl,bounds_i64 w0,bounds_i64 w1,bounds_i64 Z,E,R,S⟩
def aCv {n:Type} {E:TypeId×Value->n} {w o len l} {D:DataW n} {U:List MemPlace} (F:DataW.Trod E prog w 0 (λ_=>true) true 37 (.slice o len l) D U):
 ∃j:List Stp,Rd w w.heap.size 4 o len (gE j)/\j.length=len/\(∀d∈j,d.bf w)/\len<=l/\l<=maxLen:=by
 obtain ⟨a1,J⟩:=F;rcases open_slice underlying37 J with ⟨g,_⟩|⟨k,j,Z,a4,a5,X,Y,g,_,N,O,y,_,K⟩;simp [Value.cells] at g;obtain ⟨rfl,rfl,rfl⟩:=g;exact ⟨[],Rd.nil _ _ _ _,rfl,by simp,zAs _,zAp _⟩;simp [Value.cells] at g;obtain ⟨rfl,rfl,rfl⟩:=g;simp at y;subst y;have G:prog.cellsOf 32=4:=(by kernel_rfl);have A:∀b,b < len->∃d:Stp,(∀a,a < 4->w.cell? (k.add (b*4+a))=(lX d)[a]?)/\d.bf w:=(by intro b a3;obtain ⟨a0,u,R⟩:=K b oM;rw [G] at u;obtain ⟨d,rfl,i⟩:=aGf R;obtain ⟨_,a2,H⟩:=World.cells?_some u;refine ⟨d,λa L=>?_,i⟩;have:=H a L;rw [Go.Deep.add_add] at this;exact this);have V:∃c:Nat->Stp,∀b,b < len->(∀a,a < 4->w.cell? (k.add (b*4+a))=(lX (c b))[a]?)/\(c b).bf w:=(by refine ⟨λf=>if e:f < len then Classical.choose (A f e) else ⟨0,0,0,none,0,0, []⟩,λf e=>?_⟩;simp only [e,dif_pos];exact Classical.choose_spec (A f e));obtain ⟨c,i⟩:=V;refine ⟨(List.range len).map c,⟨by rw [tW];simp,λP=>?_⟩,by simp,?_,N,O⟩;have v:=(i 0 P).1 0 oM;simp only [zFH,zBi] at v;have x:w.cell? (k.add 0)=some (iv (c 0).kind):=v.trans rfl;obtain ⟨C,S,W⟩:=k;have Q:W=none:=(by simpa [Addr.add] using World.cell?_spot x);subst Q;have I:=zFN w _ x;refine ⟨C,S,rfl,by simpa [Addr.add] using I,λa a6 z=>?_⟩;have M:a < len*4:=(by have:=(zAc.1 z).1;rw [tW] at this;simpa using this);have p:a / 4 < len:=Nat.div_lt_of_lt_mul (by rw [zFY];exact M);have q:a % 4 < 4:=zFG _ oM;have r:a / 4*4+a % 4=a:=Nat.div_add_mod' a 4;have m:((List.range len).map c)[a / 4]?=some (c (a / 4)):=(by rw [zAf,zCk p];rfl);have s:=dF _ (a / 4) (a % 4) _ m q;rw [r,z] at s;have t:=(i (a / 4) p).1 (a % 4) q;rw [r,<-s,oN] at t;exact t;intro d m;obtain ⟨f,e,rfl⟩:=zAy.1 m;exact (i f (zCj.1 e)).2
end
section
open Go.RowKit
def aDf (a:List Stp) (b c:Nat):Bool:=(a.all λd=>decide (d.n<=60))&&decide (b<=c)
def aFP {m} {d:Nat} (s:Nat) {B:Nat} (f:Nat) {c w} (z:Rd w B 4 m d (gE c)) (k:c.length=d) (v:d<=maxLen) (x:∀a∈c,a.n<=maxLen):
 Calls prog 13 #[.slice m d s,(f:Int)] w λt w'=>t=.returned (.bool (aDf c d f))/\w=w':=by
 unfold maxLen at v;go_enter func13,ntmps13;go_wp2;go_loopw [5] (λl wr=>∃b:Nat,b<=d/\l=.int .i64 b/\(∀a∈c.take b,a.n<=60)/\w=wr) (λl _=>d -(intOf l).toNat)
 case atStart=>exact ⟨0,zAp _,rfl,by simp,rfl⟩
 case round=>
  obtain ⟨b,I,rfl,i,rfl⟩:=hrel;by_cases J:b < d
  .obtain ⟨a,e⟩:∃a,c[b]?=some a:=⟨c[b]'(zj k),zAa (zj k)⟩;obtain ⟨r,C,rfl,G,o⟩:=z.2 oM;have F:w.cell? ⟨r,C+b*4+3,none⟩=some (.slice a.A a.n a.c):=(by rw [zDp];exact o (b*4+3) _ ((dF c b 3 a e oM).trans rfl));have A:=x a (zAd e);unfold maxLen at A;have y:c.take (b+1)=c.take b++ [a]:=(by rw [zAv,e];rfl);clear o;by_cases u:a.n<=60
   .have D:=zn ((a.n:Int) > 60);go_wp2;go_roundw
    case rel=>refine ⟨b+1,by omega,by go_num,?_,trivial⟩;intro E q;rw [y] at q;rcases zCp.1 q with g | g;exact i E g;rw [zDa.1 g];exact u
    case measure=>exact zr
   .have D:=zy ((a.n:Int) > 60);have j:aDf c d f=false:=(by unfold aDf;have:(c.all λa=>decide (a.n<=60))=false:=(by rw [List.all_eq_false];exact ⟨a,zAd e,by simp;omega⟩);rw [this,zDX]);go_wp2;go_ret;exact ⟨bH j.symm,rfl⟩
  .have H:d<=b:=oM;have p:c.take b=c:=zAg (zj k);rw [p] at i;have j:aDf c d f=decide (d<=f):=(by unfold aDf;rw [zBf.2 (λa e=>zBz (i a e)),zDO]);clear p i;go_wp2;go_ret;exact ⟨bH (by rw [j] <;>(by_cases g:d<=f <;> simp [g] <;> omega)),rfl⟩
def aCn {c d e} (a:aDf c d e=true):d<=e/\∀b∈c,b.n<=60:=by
 unfold aDf at a;rw [zBd] at a;exact ⟨of_decide_eq_true a.2,λb f=>of_decide_eq_true (zBf.1 a.1 b f)⟩
end
end Go.Proofs.YtknjfpcdhdmghaaGreatDoor
