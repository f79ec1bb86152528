/- Lemmas of the walk. Conditions: each its own. -/
import Derived.Test.YtlghmcogeipojaaGreatDoorPn11
set_option linter.all false
set_option maxRecDepth 100000
set_option maxHeartbeats 4000000
open Go.Proofs.Tryz
namespace Go.Proofs.YtlghmcogeipojaaGreatDoor
open Go.RowKit Go.ChangeShapes Go.WideShapes Go.ChangeAt Go.Deep
section
def aB4 {w B own gs gl aA rate e g} (b a num) {c:Exit} (n:StAt w B own gs gl aA rate e) (o:c=.ret∨c=.normal) (q:g.getD 4 undef=.pointer (some ⟨w.heap.size+1,0,none⟩)):
 bodyPost prog f7 (StDone w B own gs aA rate e ⟨a,num, [], []⟩) c ⟨g, []⟩ ((w.alloc (.cells b 32)).alloc (.cells #[(a:Int),(num:Int),(),()] 29)):=by
 have i:Below w.heap.size w ((w.alloc (.cells b 32)).alloc (.cells #[(a:Int),(num:Int),(),()] 29)):=(bR.alloc nL _).alloc zs _;have j:=kd (w.alloc (.cells b 32)) 29 #[(a:Int),(num:Int),(),()];rw [sZ0] at j;have k:=results_cell_row (P:=prog) (fn:=f7) (p:=4) (ty:=29) rfl g _ (w.heap.size+1) 29 (iD ⟨a,num, [], []⟩ none 0 none 0) (0,0) _ q j underlying29 rfl kR;have l:StDone w B own gs aA rate e ⟨a,num, [], []⟩ (.returned (.agg (iD ⟨a,num, [], []⟩ none 0 none 0))) ((w.alloc (.cells b 32)).alloc (.cells #[(a:Int),(num:Int),(),()] 29)):=
  ⟨none,0,none,0,own,gl,rfl,n.G (kb i),LFS.j B gs own i,aV _ _ _,aV _ _ _,(λm d=>by cases d),(λm d=>by cases d)⟩
 rcases o with rfl | rfl;exact bodyPost_ret k rfl l;exact bodyPost_end k rfl l
def aFr {B own gs gl aA rate d b} (j i c g e) {w} (f:StAt w B own gs gl aA rate b) (k:b.length=d):
 Calls prog 7 #[gs,bK 4 j i c g e] w (StDone w B own gs aA rate b ⟨0,(d:Int), [], []⟩):=by
 have a:=DoW.mk' 4 j i c g e f;have l:=a.st.cb k;have m:=a.box.cell 0;have x:=a.st.a.cell 0;have s:=a.wQ.cell 0;have t:=a.wQ.cell 1;have u:=a.wQ.cell 2;have v:=a.wQ.cell 3;have o:=a.wQ.frozen 0;have p:=a.wQ.frozen 1;have q:=a.wQ.frozen 2;have r:=a.wQ.frozen 3;clear a;unfold bK;go_enter func7,ntmps7;go_wp2_with fail;refine l.mono ?_;rintro n w1 ⟨rfl,rfl⟩;go_wp2_with fail;exact aB4 _ _ _ f (.inl rfl) rfl
def aFs {B own gs gl aA rate l} (a k j e i f) {w} (g:StAt w B own gs gl aA rate l) (c:∀d:Int,1<=d->d<=8->a≠d):
 Calls prog 7 #[gs,bK a k j e i f] w (StDone w B own gs aA rate l ⟨1,0, [], []⟩):=by
 have b:=DoW.mk' a k j e i f g;have m:=b.box.cell 0;have r:=b.wQ.cell 0;have s:=b.wQ.cell 1;have t:=b.wQ.cell 2;have u:=b.wQ.cell 3;have n:=b.wQ.frozen 0;have o:=b.wQ.frozen 1;have p:=b.wQ.frozen 2;have q:=b.wQ.frozen 3;have v:(a==1)=false:=zCb.2 (c 1 dC dC);have x:(a==2)=false:=zCb.2 (c 2 dC dC);have y:(a==3)=false:=zCb.2 (c 3 dC dC);have z:(a==4)=false:=zCb.2 (c 4 dC dC);have A:(a==5)=false:=zCb.2 (c 5 dC dC);have C:(a==6)=false:=zCb.2 (c 6 dC dC);have D:(a==7)=false:=zCb.2 (c 7 dC dC);have E:(a==8)=false:=zCb.2 (c 8 dC dC);clear b c;unfold bK;go_enter func7,ntmps7;go_wp2_with fail;exact aB4 _ _ _ g (.inl rfl) rfl
def aDO {B gl rate a p b c w} (e:TpAt w B gl p rate) (u:p.length=a) (g:dK a b c=false):
 Calls prog 18 #[gl,(b:Int),(c:Int)] w λd w'=>d=.returned (.tuple #[(),(2:Int)])/\w=w':=by
 have f:Calls prog 17 #[gl] w λd w'=>d=.returned (.int .i64 a)/\w=w':=by obtain ⟨A,gk,t,z,o,l,x,y,m⟩:=e;exact cD (n:=a) l.ai (by rw [bY,o.len,aO,u]) oM
 have m:a<=895:=by obtain ⟨A,gk,t,z,o,l,x,y,m⟩:=e;omega
 unfold dK at g;have v:=of_decide_eq_false g;clear e g;by_cases i:b < 0
 .have q:=zBz i;go_enter func18,ntmps18;go_wp2_with fail;go_ret2;exact ⟨rfl,rfl⟩
 .have q:=zBy i;by_cases j:c < 0
  .have r:=zBz j;go_enter func18,ntmps18;go_wp2_with fail;go_ret2;exact ⟨rfl,rfl⟩
  .have r:=zBy j;by_cases k:b > (a:Int)
   .have s:=zBz k;go_enter func18,ntmps18;go_wp2_with fail;refine f.mono ?_;rintro d w1 ⟨rfl,rfl⟩;go_wp2_with fail;go_ret2;exact ⟨rfl,rfl⟩
   .have s:=zBy k;have D:IntKind.i64.wrap (a - b)=(a:Int) - b:=zu;have C:=zy (c > (a:Int) - b);clear v;go_enter func18,ntmps18;go_wp2_with fail;refine f.mono ?_;rintro d w1 ⟨rfl,rfl⟩;go_wp2_with fail;refine f.mono ?_;rintro d w1 ⟨rfl,rfl⟩;go_wp2_with fail;go_ret2;exact ⟨rfl,rfl⟩
def aCz {B:Nat} {own} {gs gl aA rate:Nat} {d l r A} {m c:Int} {i} {b:Nat} (e:Nat) {w} (a:doM d (aA:Int) 1 m c l=(r,A)) (p:StAt w B own gs gl aA rate d) (u:ArgZ w B own gs i b l) (J:b<=1000000) (E:TabW w) (C:0 < B) (y:r.length<=895):
 Calls prog 7 #[gs,bK 1 m c i b e] w (StDone w B own gs aA rate r A):=by
 have D:l.length=b:=by simpa using u.1.1
 have K:∀j,LFS B gs w j own own->TabW j:=λj g=>E.below (g.below p.size) C;unfold doM at a;rw [zBx rfl] at a;cases q:dK d.length m 0 with
 | false=>
  rw [zBx q] at a;cases a;exact fO d m c i b e 2 p (.inl rfl) λj f g=>(oS _ 1 m c i b e f rfl (by simpa [uA] using q)).mono λo w' ⟨x,n⟩=>⟨x,own,f.G (kb n),LFS.j B gs own n⟩
 | true=>
  rw [zBw (by rw [q];decide)] at a;obtain ⟨s,G,rfl,I,H⟩:=dT q;by_cases z:(aA:Int) -d.length < l.length
  .rw [zBx z] at a;cases a;exact fO d _ c i b e 3 p (.inl rfl) λj f g=>(qL _ s c e true f rfl (u.step g) oM (zBz oM) (λo=>by cases o)).mono λo w' v=>have ⟨x,n⟩:=v.1 rfl;⟨x,own,f.G n.1,LFS.i gs own n⟩
  rw [zBw z] at a;cases a;rw [zBr] at y⊢;have F:=uP (t:=d) l (k:=s) oM;exact fO _ _ c i b e 0 p (.inl rfl) λj f g=>(qL _ s c e false f rfl (u.step g) oM (zBy oM) (λ_=>by rw [<-D,<-F];exact y)).mono λo w' v=>v.2 rfl
def aJE {B:Nat} {own} {gs gl aA rate:Nat} {l m n q} {g f:Int} {c} {a:Nat} (e:Nat) {w} (b:doM l (aA:Int) 2 g f m=(n,q)) (o:StAt w B own gs gl aA rate l) (s:ArgZ w B own gs c a m) (E:a<=1000000) (t:TabW w) (p:0 < B) (C:n.length<=895):
 Calls prog 7 #[gs,bK 2 g f c a e] w (StDone w B own gs aA rate n q):=by
 have D:m.length=a:=by simpa using s.1.1
 have v:∀d,LFS B gs w d own own->TabW d:=λd k=>t.below (k.below o.size) p;unfold doM at b;rw [zBw dC] at b;rw [zBx rfl] at b;cases i:dK l.length g f with
 | false=>
  rw [zBx i] at b;cases b;exact fO l g f c a e 2 o (.inr (.inl rfl)) λd j k=>(oS _ 2 g f c a e j rfl (by simpa [uA] using i)).mono λA w' ⟨x,r⟩=>⟨x,own,j.G (kb r),LFS.j B gs own r⟩
 | true=>
  rw [zBw (by rw [i];decide)] at b;cases b;obtain ⟨y,z,rfl,rfl,u⟩:=dT i;rw [zBr,zBr];exact fO _ _ _ c a e 0 o (.inr (.inl rfl)) λd j k=>sR c a e j (v d k) p rfl u
def aJD {B:Nat} {own} {gs gl aA rate:Nat} {m j n r} {i d:Int} {e} {b:Nat} (f:Nat) {w} (a:doM m (aA:Int) 3 i d j=(n,r)) (o:StAt w B own gs gl aA rate m) (q:ArgZ w B own gs e b j) (F:b<=1000000) (v:TabW w) (p:0 < B) (C:n.length<=895):
 Calls prog 7 #[gs,bK 3 i d e b f] w (StDone w B own gs aA rate n r):=by
 have u:j.length=b:=by simpa using q.1.1
 have x:∀c,LFS B gs w c own own->TabW c:=λc g=>v.below (g.below o.size) p;unfold doM at a;rw [zBw dC] at a;rw [zBw dC] at a;rw [zBw dC] at a;rw [zBx rfl] at a;cases k:dK m.length i (j.length:Int) with
 | false=>
  rw [zBx k] at a;cases a;exact fO m i d e b f 2 o (.inr (.inr rfl)) λc l g=>(oS _ 3 i d e b f l rfl (by simpa [uA,u] using k)).mono λA w' ⟨y,s⟩=>⟨y,own,l.G (kb s),LFS.j B gs own s⟩
 | true=>
  rw [zBw (by rw [k];decide)] at a;cases a;obtain ⟨t,z,rfl,E,D⟩:=dT k;rw [zBr];exact fO _ _ d e b f 0 o (.inr (.inr rfl)) λc l g=>aBH _ t d f l (x c g) p rfl (q.step g) oM
def aJC {B:Nat} {own} {gs gl aA rate:Nat} {j k l s} {i g:Int} {d} {c:Nat} (n:Nat) {w} (a:doM j (aA:Int) 5 i g k=(l,s)) (o:StAt w B own gs gl aA rate j) (t:ArgZ w B own gs d c k) (E:c<=1000000) (u:TabW w) (r:0 < B) (C:l.length<=895):
 Calls prog 7 #[gs,bK 5 i g d c n] w (StDone w B own gs aA rate l s):=by
 have D:k.length=c:=by simpa using t.1.1
 have x:∀b,LFS B gs w b own own->TabW b:=λb f=>u.below (f.below o.size) r;unfold doM at a;rw [zBw dC] at a;rw [zBw dC] at a;rw [zBx rfl] at a;cases e:dK j.length i g with
 | false=>
  rw [zBx e] at a;cases a;exact oT i g d c n o [] 2 0 rfl λb p f=>(aDO p.tp rfl e).mono λA w' ⟨y,z⟩=>by subst z;exact ⟨none,0,y,aV _ _ _,VisK.refl _ _⟩
 | true=>
  rw [zBw (by rw [e];decide)] at a;cases a;obtain ⟨q,m,rfl,rfl,v⟩:=dT e;rw [zBr,zBr];exact oT _ _ d c n o ((j.drop q).take m) 0 m (by rw [zAj,zAw];omega) λb p f=>aCD q m p.tp (x b f) r v
def aCy {B:Nat} {own} {gs gl aA rate:Nat} {n c d m} {g f:Int} {i} {b:Nat} (j:Nat) {w} (a:doM n (aA:Int) 7 g f c=(d,m)) (k:StAt w B own gs gl aA rate n) (l:ArgZ w B own gs i b c) (q:b<=1000000) (p:TabW w) (o:0 < B) (s:d.length<=895):
 Calls prog 7 #[gs,bK 7 g f i b j] w (StDone w B own gs aA rate d m):=by
 have t:c.length=b:=by simpa using l.1.1
 have u:∀e,LFS B gs w e own own->TabW e:=λe r=>p.below (r.below k.size) o;unfold doM at a;rw [zBw dC] at a;rw [zBw dC] at a;rw [zBw dC] at a;rw [zBw dC] at a;rw [zBw dC] at a;rw [zBw dC] at a;rw [zBx rfl] at a;cases a;exact qM g f j k l q
def aCx {B:Nat} {own} {gs gl aA rate:Nat} {m d e l} {i g:Int} {c} {b:Nat} (j:Nat) {w} (a:doM m (aA:Int) 8 i g d=(e,l)) (k:StAt w B own gs gl aA rate m) (o:ArgZ w B own gs c b d) (t:b<=1000000) (p:TabW w) (n:0 < B) (r:e.length<=895):
 Calls prog 7 #[gs,bK 8 i g c b j] w (StDone w B own gs aA rate e l):=by
 have s:d.length=b:=by simpa using o.1.1
 have u:∀f,LFS B gs w f own own->TabW f:=λf q=>p.below (q.below k.size) n;unfold doM at a;rw [zBw dC] at a;rw [zBw dC] at a;rw [zBw dC] at a;rw [zBw dC] at a;rw [zBw dC] at a;rw [zBw dC] at a;rw [zBw dC] at a;rw [zBx rfl] at a;cases a;exact aA7 i g c b j k
def aFp {B:Nat} {own} {gs gl aA rate:Nat} {C q p A} {b n m:Int} {o} {l:Nat} (c:Nat) {w} (e:doM C (aA:Int) b n m q=(p,A)) (d:StAt w B own gs gl aA rate C) (f:ArgZ w B own gs o l q) (g:l<=1000000) (k:TabW w) (j:0 < B) (i:p.length<=895):
 Calls prog 7 #[gs,bK b n m o l c] w (StDone w B own gs aA rate p A):=by
 have a:=e;unfold doM at a;by_cases r:b=1;subst r;exact aCz c e d f g k j i;rw [zBw r] at a;by_cases s:b=2;subst s;exact aJE c e d f g k j i;rw [zBw s] at a;by_cases v:b=5;subst v;exact aJC c e d f g k j i;rw [zBw v] at a;by_cases t:b=3;subst t;exact aJD c e d f g k j i;rw [zBw t] at a;by_cases u:b=4;subst u;rw [zBx rfl] at a;cases a;exact aFr n m o l c d rfl;rw [zBw u] at a;by_cases x:b=6;subst x;rw [zBx rfl] at a;cases a;exact sT n m c d f g;rw [zBw x] at a;by_cases y:b=7;subst y;exact aCy c e d f g k j i;rw [zBw y] at a;by_cases z:b=8;subst z;exact aCx c e d f g k j i;rw [zBw z] at a;cases a;exact aFs b n m o l c d λF D E=>by omega
def sQ {aA} (rate w) (d:aA < 0∨aA > 2147483648):
 Calls prog 6 #[(aA:Int),(rate:Int)] w λb w'=>b=.returned (.tuple #[.pointer none,(1:Int)])/\w=w':=by
 by_cases a:aA < 0
 .have c:=zBz a;go_enter func6,ntmps6;go_wp2_with fail;go_ret2;exact ⟨rfl,rfl⟩
 .have c:=zBy a;have e:=zy (aA > 2147483648);go_enter func6,ntmps6;go_wp2_with fail;go_ret2;exact ⟨rfl,rfl⟩
def aFK {rate} (b e c w) (g:rate < 1∨rate > 64):
 Calls prog 15 #[(rate:Int),.slice b e c] w λd w'=>d=.returned (.tuple #[.pointer none,(1:Int)])/\w=w':=by
 by_cases a:rate < 1
 .have f:=zBz a;go_enter func15,ntmps15;go_wp2_with fail;go_ret2;exact ⟨rfl,rfl⟩
 .have f:=zBy a;have i:=zy (rate > 64);go_enter func15,ntmps15;go_wp2_with fail;go_ret2;exact ⟨rfl,rfl⟩
def sP (aA:Nat) {rate:Int} (w) (e:aA<=2147483648) (b:rate < 1∨rate > 64):
 Calls prog 6 #[(aA:Int),(rate:Int)] w λa w'=>a=.returned (.tuple #[.pointer none,(1:Int)])/\w=w':=by
 have c:=aFK none 0 0 w b;have f:¬((aA:Int) < 0):=oM;have d:¬((aA:Int) > 2147483648):=oM;have g:=zBy d;clear b;go_enter func6,ntmps6;go_wp2_with fail;refine c.mono ?_;rintro a w1 ⟨rfl,rfl⟩;go_wp2_with fail;go_ret2;exact ⟨rfl,rfl⟩
end
structure Stp where
 kind:Int
 p:Int
 k:Int
 A:Option Addr
 n:Nat
 c:Nat
 D:List UInt8
def lX (a:Stp):List Value:= [iv a.kind,iv a.p,iv a.k,.slice a.A a.n a.c]
def gE (a:List Stp):List Value:=a.flatMap lX
def tW (a):(gE a).length=a.length*4:=by
 induction a with
 | nil=>rfl
 | cons c a b=>
  simp only [gE,zFT] at b⊢;rw [zAi,b,zCg];simp only [lX,zCg,zDM];omega
def dF (b a d) (g:Stp) (c:b[a]?=some g) (k:d < 4):(gE b)[a*4+d]?=(lX g)[d]?:=by
 induction b generalizing a with
 | nil=>simp at c
 | cons e b j=>
  have f:gE (e::b)=lX e++gE b:=(by simp [gE]);have i:(lX e).length=4:=rfl;rcases a with _ | a
  .simp at c;subst c;rw [f,zFH,zBi,zAn oM]
  simp only [zCf] at c;rw [f,zAo oM,i,show (a+1)*4+d - 4=a*4+d by omega];exact j a c
def aLu (a:Int):Prop:=-9223372036854775808<=a/\a<=9223372036854775807
def Stp.bf (w:World) (a:Stp):Prop:=aLu a.kind/\aLu a.p/\aLu a.k/\Rd w w.heap.size 1 a.A a.n (a.D.map bv)/\a.n<=a.c/\a.c<=maxLen
def aGf {C:Type} {I:TypeId×Value->C} {w J m} {G:DataW C×List MemPlace} (O:DataW.trod I prog w 0 (λ_=>true) true J 32 m=some G):∃F:Stp,m=lX F/\F.bf w:=by
 have K:prog.cellsOf 32=4:=kR
 obtain ⟨c,M,e,g,⟨ac,u,U⟩,⟨ad,v,V⟩,⟨ae,x,W⟩,⟨af,y,X⟩⟩:∃c:Array Field,prog.underlying 32=some (.struct c)/\oneCellFields prog c=true/\c.size=4/\(∃a,c[0]?=some a/\a.type=3)/\(∃a,c[1]?=some a/\a.type=3)/\(∃a,c[2]?=some a/\a.type=3)/\(∃a,c[3]?=some a/\a.type=22):=
  ⟨_,underlying32,rfl,rfl,⟨_,rfl,rfl⟩,⟨_,rfl,rfl⟩,⟨_,rfl,rfl⟩,⟨_,rfl,rfl⟩⟩
 obtain ⟨b,P,a9,aa,D,i,k⟩:=DataW.trod_struct M O;rw [K] at D
 match m,D with
 | [ag,ah,ai,Y],_=>
  have a0:b[0]?=some (b[0]'(by rw [i,g];decide)):=zAa _;have a1:b[1]?=some (b[1]'(by rw [i,g];decide)):=zAa _;have a2:b[2]?=some (b[2]'(by rw [i,g];decide)):=zAa _;have a3:b[3]?=some (b[3]'(by rw [i,g];decide)):=zAa _;have r:=k 0 _ u;rw [(hone_of e _ _ u).1,(hone_of e _ _ u).2,U,a0] at r;simp only [zFA,zFa,zDS,zDN] at r;have s:=k 1 _ v;rw [(hone_of e _ _ v).1,(hone_of e _ _ v).2,V,a1] at s;simp only [zFA,zFa,zDS,zDN] at s;have t:=k 2 _ x;rw [(hone_of e _ _ x).1,(hone_of e _ _ x).2,W,a2] at t;simp only [zFA,zFa,zDS,zDN] at t;have j:=k 3 _ y;rw [(hone_of e _ _ y).1,(hone_of e _ _ y).2,X,a3] at j;simp only [zFA,zFa,zDS,zDN] at j;obtain ⟨a4,n,_,w0⟩:=DataW.trod_int underlying3 r;obtain ⟨a5,o,_,w1⟩:=DataW.trod_int underlying3 s;obtain ⟨a6,q,_,Z⟩:=DataW.trod_int underlying3 t;injection n with n;injection o with o;injection q with q;subst n;subst o;subst q;have N:∃(l:Option Addr) (A z:Nat),Y=.slice l A z:=(by rcases open_slice underlying22 j with ⟨f,_⟩|⟨aj,ab,a8,_,_,_,_,f,_⟩;injection f with f;exact ⟨_,_,_,f⟩;injection f with f;exact ⟨_,_,_,f⟩);obtain ⟨l,A,z,rfl⟩:=N;obtain ⟨a7,E,Q,R,S⟩:=aE8 (d:=(b[3]'(by rw [i,g];decide)).1) (p:=(b[3]'(by rw [i,g];decide)).2) underlying22 underlying5 kR ⟨P,by simpa [Value.cells] using j⟩;obtain ⟨H,L⟩:=aE4 a7 Q;rw [L] at E;exact ⟨⟨a4,a5,a6,l,A,z,H⟩,rfl,bounds_i64 w0,bounds_i64 w1,bounds_i64 Z,E,R,S⟩
def aCv {n:Type} {E:TypeId×Value->n} {w o len l} {D:DataW n} {U:List MemPlace} (F:DataW.Trod E prog w 0 (λ_=>true) true 37 (.slice o len l) D U):
 ∃j:List Stp,Rd w w.heap.size 4 o len (gE j)/\j.length=len/\(∀d∈j,d.bf w)/\len<=l/\l<=maxLen:=by
 obtain ⟨a1,J⟩:=F;rcases open_slice underlying37 J with ⟨g,_⟩|⟨k,j,Z,a4,a5,X,Y,g,_,N,O,y,_,K⟩;simp [Value.cells] at g;obtain ⟨rfl,rfl,rfl⟩:=g;exact ⟨[],Rd.nil _ _ _ _,rfl,by simp,zAs _,zAp _⟩;simp [Value.cells] at g;obtain ⟨rfl,rfl,rfl⟩:=g;simp at y;subst y;have G:prog.cellsOf 32=4:=(by kernel_rfl);have A:∀b,b < len->∃d:Stp,(∀a,a < 4->w.cell? (k.add (b*4+a))=(lX d)[a]?)/\d.bf w:=(by intro b a3;obtain ⟨a0,u,R⟩:=K b oM;rw [G] at u;obtain ⟨d,rfl,i⟩:=aGf R;obtain ⟨_,a2,H⟩:=World.cells?_some u;refine ⟨d,λa L=>?_,i⟩;have:=H a L;rw [Go.Deep.add_add] at this;exact this);have V:∃c:Nat->Stp,∀b,b < len->(∀a,a < 4->w.cell? (k.add (b*4+a))=(lX (c b))[a]?)/\(c b).bf w:=(by refine ⟨λf=>if e:f < len then Classical.choose (A f e) else ⟨0,0,0,none,0,0, []⟩,λf e=>?_⟩;simp only [e,dif_pos];exact Classical.choose_spec (A f e));obtain ⟨c,i⟩:=V;refine ⟨(List.range len).map c,⟨by rw [tW];simp,λP=>?_⟩,by simp,?_,N,O⟩;have v:=(i 0 P).1 0 oM;simp only [zFH,zBi] at v;have x:w.cell? (k.add 0)=some (iv (c 0).kind):=v.trans rfl;obtain ⟨C,S,W⟩:=k;have Q:W=none:=(by simpa [Addr.add] using World.cell?_spot x);subst Q;have I:=zFN w _ x;refine ⟨C,S,rfl,by simpa [Addr.add] using I,λa a6 z=>?_⟩;have M:a < len*4:=(by have:=(zAc.1 z).1;rw [tW] at this;simpa using this);have p:a / 4 < len:=Nat.div_lt_of_lt_mul (by rw [zFY];exact M);have q:a % 4 < 4:=zFG _ oM;have r:a / 4*4+a % 4=a:=Nat.div_add_mod' a 4;have m:((List.range len).map c)[a / 4]?=some (c (a / 4)):=(by rw [zAf,zCk p];rfl);have s:=dF _ (a / 4) (a % 4) _ m q;rw [r,z] at s;have t:=(i (a / 4) p).1 (a % 4) q;rw [r,<-s,oN] at t;exact t;intro d m;obtain ⟨f,e,rfl⟩:=zAy.1 m;exact (i f (zCj.1 e)).2
def aDf (a:List Stp) (b c:Nat):Bool:=(a.all λd=>decide (d.n<=60))&&decide (b<=c)
def aFP {m} {d:Nat} (s:Nat) {B:Nat} (f:Nat) {c w} (z:Rd w B 4 m d (gE c)) (k:c.length=d) (v:d<=maxLen) (x:∀a∈c,a.n<=maxLen):
 Calls prog 12 #[.slice m d s,(f:Int)] w λt w'=>t=.returned (.bool (aDf c d f))/\w=w':=by
 unfold maxLen at v;go_enter func12,ntmps12;go_wp2;go_loopw [5] (λl wr=>∃b:Nat,b<=d/\l=.int .i64 b/\(∀a∈c.take b,a.n<=60)/\w=wr) (λl _=>d -(intOf l).toNat)
 case atStart=>exact ⟨0,zAp _,rfl,by simp,rfl⟩
 case round=>
  obtain ⟨b,I,rfl,i,rfl⟩:=hrel;by_cases J:b < d
  .obtain ⟨a,e⟩:∃a,c[b]?=some a:=⟨c[b]'(zj k),zAa (zj k)⟩;obtain ⟨r,C,rfl,G,o⟩:=z.2 oM;have F:w.cell? ⟨r,C+b*4+3,none⟩=some (.slice a.A a.n a.c):=(by rw [zDp];exact o (b*4+3) _ ((dF c b 3 a e oM).trans rfl));have A:=x a (zAd e);unfold maxLen at A;have y:c.take (b+1)=c.take b++ [a]:=(by rw [zAv,e];rfl);clear o;by_cases u:a.n<=60
   .have D:=zn ((a.n:Int) > 60);go_wp2;go_roundw
    case rel=>refine ⟨b+1,by omega,by go_num,?_,trivial⟩;intro E q;rw [y] at q;rcases zCp.1 q with g | g;exact i E g;rw [zDa.1 g];exact u
    case measure=>exact zr
   .have D:=zy ((a.n:Int) > 60);have j:aDf c d f=false:=(by unfold aDf;have:(c.all λa=>decide (a.n<=60))=false:=(by rw [List.all_eq_false];exact ⟨a,zAd e,by simp;omega⟩);rw [this,zDX]);go_wp2;go_ret;exact ⟨bH j.symm,rfl⟩
  .have H:d<=b:=oM;have p:c.take b=c:=zAg (zj k);rw [p] at i;have j:aDf c d f=decide (d<=f):=(by unfold aDf;rw [zBf.2 (λa e=>zBz (i a e)),zDO]);clear p i;go_wp2;go_ret;exact ⟨bH (by rw [j] <;>(by_cases g:d<=f <;> simp [g] <;> omega)),rfl⟩
def aCn {c d e} (a:aDf c d e=true):d<=e/\∀b∈c,b.n<=60:=by
 unfold aDf at a;rw [zBd] at a;exact ⟨of_decide_eq_true a.2,λb f=>of_decide_eq_true (zBf.1 a.1 b f)⟩
structure Shp where
 len:Int
 T:Int
 leaves:Int
 nodes:Int
def Shp.cells (a:Shp):List Value:= [iv a.len,iv a.T,iv a.leaves,iv a.nodes]
def Shp.val (a:Shp):Value:=.agg #[iv a.len,iv a.T,iv a.leaves,iv a.nodes]
def cF (a:List Shp):List Value:=a.flatMap Shp.cells
def Shp.zero:Shp:=⟨0,0,0,0⟩
def Shp.add (a b:Shp):Shp:=⟨a.len+b.len,max a.T b.T,a.leaves+b.leaves,a.nodes+b.nodes⟩
def eF (a:List Shp):Shp:=a.foldl Shp.add Shp.zero
def Shp.small (a:Shp):Prop:=(-1099511627776<=a.len/\a.len<=1099511627776)/\(-1099511627776<=a.leaves/\a.leaves<=1099511627776)/\(-1099511627776<=a.nodes/\a.nodes<=1099511627776)
def eK (b i c) (d:Shp) (a:b[i]?=some d) (j:c < 4):(cF b)[i*4+c]?=d.cells[c]?:=by
 induction b generalizing i with
 | nil=>simp at a
 | cons f b e=>
  rcases i with _ | i
  .simp at a;subst a;simp only [cF,zFT,zFH,zBi];rw [zAn (by simp [Shp.cells];omega)]
  simp only [zCf] at a;have:=e i a;simp only [cF,zFT] at this⊢;rw [zAo (by simp [Shp.cells];omega)];rw [<-this];congr 1;simp [Shp.cells];omega
def uB (a):(cF a).length=a.length*4:=by
 induction a with
 | nil=>rfl
 | cons b a e=>
  have d:b.cells.length=4:=rfl;have c:cF (b::a)=b.cells++cF a:=(by simp [cF]);rw [c,zAi,e,d,zCg];omega
def aEj {b:List Shp} {a:Nat} {d:Shp} (c:b[a]?=some d):eF (b.take (a+1))=(eF (b.take a)).add d:=by
 have e:a < b.length:=(zAc.1 c).1;rw [zDo e,(zAc.1 c).2];simp [eF,zFt]
def aCH (S:Nat->Prop) (i g:Nat):Prop:=(i=0/\g=0)∨∃a,S a/\a < i/\g+a+1=i/\∀b,a < b->b < i->¬S b
section
variable {S : Nat -> Prop} {r N i g : Nat}
def aNf (a:S i):aCH S (i+1) 0:=.inr ⟨i,a,by omega,by omega,λd b c=>by omega⟩
def aOs (d:S 0) (a:¬S i) (j:aCH S i g):aCH S (i+1) (g+1):=by
 rcases j with ⟨rfl,rfl⟩|⟨l,e,m,n,f⟩;exact absurd d a;refine .inr ⟨l,e,by omega,by omega,λb k o=>?_⟩;by_cases c:b=i;rw [c];exact a;exact f b k oM
def aOt (e:sX S r N) (p:1<=r) (a:aCH S (i+1) g) (o:i<=N):g < r:=by
 rcases a with ⟨a,_⟩|⟨k,c,m,n,d⟩;omega;by_cases b:g < r;exact b;obtain ⟨l,f,j,q⟩:=e k c oM;exact absurd f (d l j oM)
end
def mkB (b:List (Nat×Nat)) (a i:Nat):Bool:=decide (∃c∈b.take a,c.2=i)
def mkV (c:List (Nat×Nat)) (b a:Nat):Array Value:=((List.range b).map λi=>Value.bool (mkB c a i)).toArray
def aLg (c b):mkV c b 0=Array.replicate b (.bool false):=by
 apply zFs;unfold mkV;rw [Array.toList_replicate];refine zDs λi=>?_;rw [zAf,List.getElem?_replicate];by_cases a:i < b
 .rw [zBx a,zCk a];simp [mkB]
 rw [zBw a,List.getElem?_eq_none_iff.2 (by rw [zCi];omega)];rfl
def uO (c a b):(mkV c a b).size=a:=by simp [mkV]
def oE (c a) {b i} (d:i < b):(mkV c b a)[i]?=some (.bool (mkB c a i)):=by
 unfold mkV;rw [zCy,zAf,zCk d];rfl
def aHU {b j a f} (m:b[a]?=some f):(mkV b j a).setIfInBounds f.2 (.bool true)=mkV b j (a+1):=by
 apply zEO;intro i;rw [zCd];by_cases l:i < j
 .rw [oE b (a+1) l,oE b a l,uO];have c:mkB b (a+1) i=(mkB b a i||decide (f.2=i)):=(by unfold mkB;rw [zEd,zEX,zCa,zCa,zCa,zAv,m];constructor;rintro ⟨k,e,c⟩;rcases zCp.1 e with e | e;exact .inl ⟨k,e,c⟩;have:k=f:=(by simpa using e);subst this;exact .inr c;rintro (⟨k,e,c⟩| c);exact ⟨k,zCp.2 (.inl e),c⟩;exact ⟨f,zCp.2 (.inr zs),c⟩);rw [c];by_cases d:f.2=i
  .rw [zBx d,zBx oM];simp [d]
  .rw [zBw d];simp [d]
 .have n:(mkV b j a)[i]?=none:=zDn (by rw [uO];omega);have o:(mkV b j (a+1))[i]?=none:=zDn (by rw [uO];omega);rw [n,o,uO];by_cases d:f.2=i
  .rw [zBx d,zBw oM]
  .rw [zBw d]
def aM0 (a i):mkB a a.length i=true↔Smp a i:=by
 unfold mkB Smp;rw [zFf,zCa]
structure SampOk (C:List (Nat×Nat)) (rs:List Nat) (r N:Nat):Prop where
 right:∀k,k < C.length->aF C k < N+1/\aS C k < N+1/\rs[aF C k]?=some (aS C k)
 dr:∀k,k+1 < C.length->aF C k < aF C (k+1)
 zero:Smp C 0
 dt:sX (Smp C) r N
 len:rs.length=N+1
 c8:1<=r
def aFw {ah aC k} (t) {m} (H) {aE aG l b5 r N E} (aP:Rd E aE 2 ah k (bU l)) (aR:Rd E aG 1 aC m (b5.map sv)) (b1:aE<=E.heap.size) (b2:aG<=E.heap.size) (aT:l.length=k) (aX:N+1=m) (bz:k<=1000) (bw:N<=1000) (bB:r<=64) (M:SampOk l b5 r N):
 Calls prog 33 #[.slice ah k t,.slice aC m H,(r:Int)] E λal bo=>al=.returned (.bool true)/\Below E.heap.size E bo:=by
 obtain ⟨x,W⟩:=eqx E.heap.size;obtain ⟨aK,ac⟩:=eqx (E.alloc (.cells (Array.replicate m (.bool false)) 4));have bj:Bk aK x 4 (mkV l m 0):=by rw [aLg,<-ac,<-W];exact kd _ _ _
 have bi:Below x E aK:=by rw [<-ac,<-W];exact bR.alloc nL _
 have aY:0 < m:=oM;obtain ⟨A,D,rfl,ar,b0⟩:=(aR.mono b2).2 aY;have ax:∀a,a < k->∀wr,Below x E wr->wr.cell? ⟨A,D+aF l a,none⟩=some (.int .i64 (aS l a:Nat)):=λa ae wr ag=>by rw [W] at ar;refine (ag.cell ar).trans (b0 _ _ ?_);rw [zAf,(M.right a oM).2.2];rfl
 have au:∃f j,0 < k->ah=some ⟨f,j,none⟩/\∀a,a < k->∀wr,Below x E wr->wr.cell? ⟨f,j+a*2,none⟩=some (.int .i64 (aF l a:Nat))/\wr.cell? ⟨f,j+a*2+1,none⟩=some (.int .i64 (aS l a:Nat)):=by rcases zBa k with aO | aO;exact ⟨0,0,λq=>by omega⟩;obtain ⟨f,j,al,aq,G⟩:=(aP.mono b1).2 aO;rw [W] at aq;refine ⟨f,j,λ_=>⟨al,λa ae wr ag=>?_⟩⟩;obtain ⟨a4,ay⟩:=cL l a oM;exact ⟨(ag.cell aq).trans (G _ _ a4),(ag.cell aq).trans (G _ _ ay)⟩
 obtain ⟨f,j,au⟩:=au;have bn:=aCa m oM;have bA:m<=1001:=oM;obtain ⟨b7,ai,a7⟩:=hqq3 ac W aT;clear ac W aT aP aR ar b0 b1 b2;go_enter func33,ntmps33;rw [ai.out];go_wp2_with fail;rw [b7.out]
 try rw [ai.out]
 clear bn;go_loopw [8] (λi wr=>∃a:Nat,a<=k/\i=.int .i64 a/\Bk wr x 4 (mkV l m a)/\Below x E wr) (λi _=>k -(intOf i).toNat)
 case atStart=>exact ⟨0,zAp _,rfl,bj,bi⟩
 case round=>
  obtain ⟨a,ae,rfl,I,v⟩:=hrel;by_cases K:a < k
  .obtain ⟨am,G⟩:=au oM;subst am;obtain ⟨aj,ak⟩:=G a K wr v;have aa:=ax a K wr v;have Z:=aX;obtain ⟨az,aA,b4⟩:=M.right a (by rw [a7.out];exact K);obtain ⟨F,a2⟩:∃F,l[a]?=some F:=⟨_,zAa (by rw [a7.out];exact K)⟩;obtain ⟨u,R⟩:=eqx (aF l a);obtain ⟨n,T⟩:=eqx (aS l a);have a3:F.2=n:=(by rw [<-T];unfold aS;rw [zAb,a2];rfl);have L:=I.set n (.bool true);rw [<-a3,aHU a2,a3] at L;rw [R] at aj aa az;rw [T] at ak aa aA;have ab:=I.frozen n;have a9:wr.cell? ⟨x,n,none⟩=some (.bool (mkB l a n)):=(I.cell n).trans (oE l a oM);have U:=v.setCell (p:=⟨x,n,none⟩) nL (.bool true);have aM:=zn ((u:Int)>=m);have aN:=zn (m<=u);have b3:(u:Int) < m:=oM;have bD:(n:Int) < m:=oM;have bE:(a:Int) < k:=oM;have aW:(mkV l m a).setIfInBounds n (.bool true)=mkV l m (a+1):=(by rw [<-a3];exact aHU a2);have aJ:=lhd aW;have aH:=(show n < m by omega);have af:x<=wr.heap.size:=(by rw [<-ai.out];exact v.size);clear aW;by_cases aV:a=0
   .have bg:=zn ((a:Int) > 0);have bh:=zn (0 < a);have y:∀e,Grow wr e->e.cell? ⟨f,j+a*2,none⟩=some (.int .i64 u)/\e.cell? ⟨f,j+a*2+1,none⟩=some (.int .i64 n)/\e.cell? ⟨A,D+u,none⟩=some (.int .i64 n):=λe c=>by have X:=v.trans (c.mono af);obtain ⟨a5,a6⟩:=G a K e X;have Q:=ax a K e X;rw [R] at a5 Q;rw [T] at a6 Q;exact ⟨a5,a6,Q⟩
    clear Z G az aA b4 a2 a3 R T L U ae aV aj ak aa ab a9;go_wp2_with fail;refine wp_region_any kR<|aQ (S:=Grow) (V:=(Vs [is (.slice (some ⟨f,j,none⟩) k t),is (a:Int),is (.pointer (some ⟨f,j+a*2,none⟩)),is (.pointer (some ⟨f,j+a*2,none⟩)),is (u:Int),is (.bool false),is (.bool false),is (.slice (some ⟨f,j,none⟩) k t),is (a:Int),is (.pointer (some ⟨f,j+a*2,none⟩)),is (.pointer (some ⟨f,j+a*2,none⟩)),is (u:Int),is (.slice (some ⟨A,D,none⟩) m H),is (m:Int),is (.bool false),is (.bool false),is (.bool false),is (.slice (some ⟨A,D,none⟩) m H),is (.slice (some ⟨f,j,none⟩) k t),is (a:Int),is (.pointer (some ⟨f,j+a*2,none⟩)),is (.pointer (some ⟨f,j+a*2,none⟩)),is (u:Int),is (.pointer (some ⟨A,D+u,none⟩)),is (n:Int),is (.slice (some ⟨f,j,none⟩) k t),is (a:Int),is (.pointer (some ⟨f,j+a*2,none⟩)),is (.pointer (some ⟨f,j+a*2+1,none⟩)),is (n:Int),is (.bool false),is (.bool false),is (.bool false),is (a:Int),is (.bool false),is (.bool false),is undef,is undef,is undef,is undef,is undef,is undef,is undef,is undef,is undef,is undef,is undef,is undef,is (.bool false),is (.bool false)])) [20,21,22,23,24,25,26,27,28,29,30,31,32,33,34,35,36,37,38,39,40,41,42,43,44,45,46,47,48,49,50,51,52,53,54,55,56,57,58,59,60,61,62,63,64,65,66,67,68,69] _ rfl kR bR (λ_ _=>Grow.trans) (eY tA2) ?_ ?_
    .refine aL<|pH 0 (.slice (some ⟨f,j,none⟩) k t)<|pH 8 (.int .i64 a)<|pW 0 20 1 21<|pV 2 22<|sC (λ_ e c _ _ _ o _ _ _ s=>?_) ?_
     .have ba:_=_:=o 3 23 kR rfl;replace c:Grow wr e:=gD c;obtain ⟨k0,B,C⟩:=y e c;go_simp;exact s _ _ bR rfl
     refine pV 4 24<|pV 5 25<|gH 26 false 0 (.slice (some ⟨f,j,none⟩) k t)<|gH 26 false 8 (.int .i64 a)<|gW 26 false 7 27 8 28<|gV 26 false 9 29<|sG 26 false (λ_ e c _ _ _ o _ _ _ s=>?_) ?_
     .have bb:_=_:=o 10 30 kR rfl;replace c:Grow wr e:=gD c;obtain ⟨k0,B,C⟩:=y e c;go_simp;exact s _ _ bR rfl
     refine gH 26 false 1 (.slice (some ⟨A,D,none⟩) m H)<|gV 26 false 12 32<|gW 26 false 11 31 13 33<|pW 6 26 14 34<|pV 15 35<|gH 36 false 1 (.slice (some ⟨A,D,none⟩) m H)<|gH 36 false 0 (.slice (some ⟨f,j,none⟩) k t)<|gH 36 false 8 (.int .i64 a)<|gW 36 false 18 38 19 39<|gV 36 false 20 40<|sG 36 false (λ_ e c _ _ _ o _ _ _ s=>?_) ?_
     .have bc:_=_:=o 21 41 kR rfl;replace c:Grow wr e:=gD c;obtain ⟨k0,B,C⟩:=y e c;go_simp;exact s _ _ bR rfl
     refine gW 36 false 17 37 22 42<|sG 36 false (λ_ e c _ _ _ o _ _ _ s=>?_) ?_
     .have bd:_=_:=o 23 43 kR rfl;replace c:Grow wr e:=gD c;obtain ⟨k0,B,C⟩:=y e c;go_simp;exact s _ _ bR rfl
     refine gH 36 false 0 (.slice (some ⟨f,j,none⟩) k t)<|gH 36 false 8 (.int .i64 a)<|gW 36 false 25 45 26 46<|gV 36 false 27 47<|sG 36 false (λ_ e c _ _ _ o _ _ _ s=>?_) ?_
     .have be:_=_:=o 28 48 kR rfl;replace c:Grow wr e:=gD c;obtain ⟨k0,B,C⟩:=y e c;go_simp;exact s _ _ bR rfl
     refine gW 36 false 24 44 29 49<|pW 16 36 30 50<|pV 31 51<|gH 52 false 8 (.int .i64 a)<|gV 52 false 33 53<|gV 52 false 34 54<|aD ?_ ?_;exact dV (d:=55) (b:=false) rfl rfl rfl kR (λ_ _ _ q=>q) (λ_=>kg _ _) (λ_=>rfl);refine aD ?_ ?_;exact dV (d:=55) (b:=false) rfl rfl rfl kR (λ_ _ _ q=>q) (λ_=>kg _ _) (λ_=>rfl);refine aD ?_ ?_;exact dV (d:=55) (b:=false) rfl rfl rfl kR (λ_ _ _ q=>q) (λ_=>kg _ _) (λ_=>rfl);refine aD ?_ ?_;exact dV (d:=55) (b:=false) rfl rfl rfl kR (λ_ _ _ q=>q) (λ_=>kg _ _) (λ_=>rfl);refine aD ?_ ?_;exact dV (d:=55) (b:=false) rfl rfl rfl kR (λ_ _ _ q=>q) (λ_=>kg _ _) (λ_=>rfl);refine aD ?_ ?_;exact dV (d:=55) (b:=false) rfl rfl rfl kR (λ_ _ _ q=>q) (λ_=>kg _ _) (λ_=>rfl);refine aD ?_ ?_;exact dV (d:=55) (b:=false) rfl rfl rfl kR (λ_ _ _ q=>q) (λ_=>kg _ _) (λ_=>rfl);refine aD ?_ ?_;exact dV (d:=55) (b:=false) rfl rfl rfl kR (λ_ _ _ q=>q) (λ_=>kg _ _) (λ_=>rfl);refine aD ?_ ?_;exact dV (d:=55) (b:=false) rfl rfl rfl kR (λ_ _ _ q=>q) (λ_=>kg _ _) (λ_=>rfl);refine aD ?_ ?_;exact dV (d:=55) (b:=false) rfl rfl rfl kR (λ_ _ _ q=>q) (λ_=>kg _ _) (λ_=>rfl);refine aD ?_ ?_;exact dV (d:=55) (b:=false) rfl rfl rfl kR (λ_ _ _ q=>q) (λ_=>kg _ _) (λ_=>rfl);refine aD ?_ ?_;exact dV (d:=55) (b:=false) rfl rfl rfl kR (λ_ _ _ q=>q) (λ_=>kg _ _) (λ_=>rfl);refine gW 52 false 35 55 47 67<|pW 32 52 48 68 ?_;exact aB
    .intro ao P c o;replace c:Grow wr P:=gD c;have an:ao (.tmp 69)=.bool false:=o 49 69 rfl;simp only [zqq];rw [an];clear o;have a1:=v.trans (c.mono af);have J:=I.below c I.lt;obtain ⟨k0,B,C⟩:=y P c;have ab:=J.frozen n;have a9:P.cell? ⟨x,n,none⟩=some (.bool (mkB l a n)):=(J.cell n).trans (oE l a aH);have L:=J.set n (.bool true);rw [aJ.out] at L;have U:=a1.setCell (p:=⟨x,n,none⟩) nL (.bool true);clear c a1 J;go_wp2_with fail;go_roundw
     case rel=>exact ⟨a+1,by omega,by go_num,L,U⟩
     case measure=>exact zr
   .have aw:=M.dr (a - 1) (by rw [a7.out];omega);rw [show a - 1+1=a by omega,R] at aw;obtain ⟨a4,ay⟩:=G (a - 1) oM wr v;obtain ⟨a8,ap⟩:=eqx (aF l (a - 1));rw [ap] at a4 aw;have bg:=zy ((a:Int) > 0);have bh:=zy (0 < a);obtain ⟨Y,av⟩:=eqx (a - 1);rw [av] at a4;have am:IntKind.i64.wrap (a - 1)=(Y:Int):=zu;have bt:=zn ((u:Int)<=a8);have bu:=zn (u<=a8);have bF:(Y:Int) < k:=oM;have y:∀e,Grow wr e->e.cell? ⟨f,j+a*2,none⟩=some (.int .i64 u)/\e.cell? ⟨f,j+a*2+1,none⟩=some (.int .i64 n)/\e.cell? ⟨A,D+u,none⟩=some (.int .i64 n)/\e.cell? ⟨f,j+Y*2,none⟩=some (.int .i64 a8):=λe c=>by have X:=v.trans (c.mono af);obtain ⟨a5,a6⟩:=G a K e X;have Q:=ax a K e X;have b6:=(G (a - 1) oM e X).1;rw [R] at a5 Q;rw [T] at a6 Q;rw [ap,av] at b6;exact ⟨a5,a6,Q,b6⟩
    clear Z G az aA b4 a2 a3 R T L U ae aV aw ap av a4 ay aj ak aa ab a9;go_wp2_with fail;refine wp_region_any kR<|aQ (S:=Grow) (V:=(Vs [is (.slice (some ⟨f,j,none⟩) k t),is (a:Int),is (.pointer (some ⟨f,j+a*2,none⟩)),is (.pointer (some ⟨f,j+a*2,none⟩)),is (u:Int),is (.bool false),is (.bool false),is (.slice (some ⟨f,j,none⟩) k t),is (a:Int),is (.pointer (some ⟨f,j+a*2,none⟩)),is (.pointer (some ⟨f,j+a*2,none⟩)),is (u:Int),is (.slice (some ⟨A,D,none⟩) m H),is (m:Int),is (.bool false),is (.bool false),is (.bool false),is (.slice (some ⟨A,D,none⟩) m H),is (.slice (some ⟨f,j,none⟩) k t),is (a:Int),is (.pointer (some ⟨f,j+a*2,none⟩)),is (.pointer (some ⟨f,j+a*2,none⟩)),is (u:Int),is (.pointer (some ⟨A,D+u,none⟩)),is (n:Int),is (.slice (some ⟨f,j,none⟩) k t),is (a:Int),is (.pointer (some ⟨f,j+a*2,none⟩)),is (.pointer (some ⟨f,j+a*2+1,none⟩)),is (n:Int),is (.bool false),is (.bool false),is (.bool false),is (a:Int),is (.bool true),is (.bool true),is (.slice (some ⟨f,j,none⟩) k t),is (a:Int),is (.pointer (some ⟨f,j+a*2,none⟩)),is (.pointer (some ⟨f,j+a*2,none⟩)),is (u:Int),is (.slice (some ⟨f,j,none⟩) k t),is (a:Int),is (Y:Int),is (.pointer (some ⟨f,j+Y*2,none⟩)),is (.pointer (some ⟨f,j+Y*2,none⟩)),is (a8:Int),is (.bool false),is (.bool false),is (.bool false)])) [20,21,22,23,24,25,26,27,28,29,30,31,32,33,34,35,36,37,38,39,40,41,42,43,44,45,46,47,48,49,50,51,52,53,54,55,56,57,58,59,60,61,62,63,64,65,66,67,68,69] _ rfl kR bR (λ_ _=>Grow.trans) (eY tA2) ?_ ?_
    .refine aL<|pH 0 (.slice (some ⟨f,j,none⟩) k t)<|pH 8 (.int .i64 a)<|pW 0 20 1 21<|pV 2 22<|sC (λ_ e c _ _ _ o _ _ _ s=>?_) ?_
     .have ba:_=_:=o 3 23 kR rfl;replace c:Grow wr e:=gD c;obtain ⟨k0,B,C,O⟩:=y e c;go_simp;exact s _ _ bR rfl
     refine pV 4 24<|pV 5 25<|gH 26 false 0 (.slice (some ⟨f,j,none⟩) k t)<|gH 26 false 8 (.int .i64 a)<|gW 26 false 7 27 8 28<|gV 26 false 9 29<|sG 26 false (λ_ e c _ _ _ o _ _ _ s=>?_) ?_
     .have bb:_=_:=o 10 30 kR rfl;replace c:Grow wr e:=gD c;obtain ⟨k0,B,C,O⟩:=y e c;go_simp;exact s _ _ bR rfl
     refine gH 26 false 1 (.slice (some ⟨A,D,none⟩) m H)<|gV 26 false 12 32<|gW 26 false 11 31 13 33<|pW 6 26 14 34<|pV 15 35<|gH 36 false 1 (.slice (some ⟨A,D,none⟩) m H)<|gH 36 false 0 (.slice (some ⟨f,j,none⟩) k t)<|gH 36 false 8 (.int .i64 a)<|gW 36 false 18 38 19 39<|gV 36 false 20 40<|sG 36 false (λ_ e c _ _ _ o _ _ _ s=>?_) ?_
     .have bc:_=_:=o 21 41 kR rfl;replace c:Grow wr e:=gD c;obtain ⟨k0,B,C,O⟩:=y e c;go_simp;exact s _ _ bR rfl
     refine gW 36 false 17 37 22 42<|sG 36 false (λ_ e c _ _ _ o _ _ _ s=>?_) ?_
     .have bd:_=_:=o 23 43 kR rfl;replace c:Grow wr e:=gD c;obtain ⟨k0,B,C,O⟩:=y e c;go_simp;exact s _ _ bR rfl
     refine gH 36 false 0 (.slice (some ⟨f,j,none⟩) k t)<|gH 36 false 8 (.int .i64 a)<|gW 36 false 25 45 26 46<|gV 36 false 27 47<|sG 36 false (λ_ e c _ _ _ o _ _ _ s=>?_) ?_
     .have be:_=_:=o 28 48 kR rfl;replace c:Grow wr e:=gD c;obtain ⟨k0,B,C,O⟩:=y e c;go_simp;exact s _ _ bR rfl
     refine gW 36 false 24 44 29 49<|pW 16 36 30 50<|pV 31 51<|gH 52 false 8 (.int .i64 a)<|gV 52 false 33 53<|gV 52 false 34 54<|gH 55 true 0 (.slice (some ⟨f,j,none⟩) k t)<|gH 55 true 8 (.int .i64 a)<|gW 55 true 36 56 37 57<|gV 55 true 38 58<|sG 55 true (λ_ e c _ _ _ o _ _ _ s=>?_) ?_
     .have br:_=_:=o 39 59 kR rfl;replace c:Grow wr e:=gD c;obtain ⟨k0,B,C,O⟩:=y e c;go_simp;exact s _ _ bR rfl
     refine gH 55 true 0 (.slice (some ⟨f,j,none⟩) k t)<|gH 55 true 8 (.int .i64 a)<|gV 55 true 42 62<|gW 55 true 41 61 43 63<|gV 55 true 44 64<|sG 55 true (λ_ e c _ _ _ o _ _ _ s=>?_) ?_
     .have bs:_=_:=o 45 65 kR rfl;replace c:Grow wr e:=gD c;obtain ⟨k0,B,C,O⟩:=y e c;go_simp;exact s _ _ bR rfl
     refine gW 55 true 40 60 46 66<|gW 52 false 35 55 47 67<|pW 32 52 48 68 ?_;exact aB
    .intro ao P c o;replace c:Grow wr P:=gD c;have an:ao (.tmp 69)=.bool false:=o 49 69 rfl;simp only [zqq];rw [an];clear o;have a1:=v.trans (c.mono af);have J:=I.below c I.lt;obtain ⟨k0,B,C,O⟩:=y P c;have ab:=J.frozen n;have a9:P.cell? ⟨x,n,none⟩=some (.bool (mkB l a n)):=(J.cell n).trans (oE l a aH);have L:=J.set n (.bool true);rw [aJ.out] at L;have U:=a1.setCell (p:=⟨x,n,none⟩) nL (.bool true);clear c a1 J;go_wp2_with fail;go_roundw
     case rel=>exact ⟨a+1,by omega,by go_num,L,U⟩
     case measure=>exact zr
  .have bm:a=k:=oM;subst bm;have c:∀i,mkB l a i=true↔Smp l i:=λi=>by rw [<-a7.out];exact aM0 l i
   have aI:=lhd I;have b8:=v;clear I v;go_wp2_with fail;go_loopw [9,10] (λg i bp=>∃w F:Nat,w<=m/\i=.int .i64 w/\g=.int .i64 F/\aCH (Smp l) w F/\F<=w/\bp=wr) (λ_ i _=>m -(intOf i).toNat)
   case atStart=>exact ⟨0,0,zAp _,rfl,rfl,.inl ⟨rfl,rfl⟩,zAs _,rfl⟩
   case round=>
    obtain ⟨w,F,bx,rfl,rfl,ad,bC,rfl⟩:=hrel;by_cases bl:w < m
    .have b9:wr.cell? ⟨x,w,none⟩=some (.bool (mkB l a w)):=(aI.cell w).trans (oE l a bl);have b3:(w:Int) < m:=oM;have Z:=aX;obtain ⟨z,v⟩:=eqx (mkB l a w);rw [v] at b9;have a0:=c w;rw [v] at a0;cases z with
     | true=>
      have bk:aCH (Smp l) (w+1) 0:=aNf (a0.1 rfl);have bv:=M.c8;have aM:=zn ((0:Int)>=r);have aN:=zn (r=0);clear Z v a0 ad;go_wp2_with fail;go_roundw
      case rel=>exact ⟨w+1,0,by omega,by go_num,by first | rfl | trivial,bk,zAp _,by first | rfl | trivial⟩
      case measure=>exact zr
     | false=>
      have aZ:¬Smp l w:=λbf=>by have:=a0.2 bf;cases this
      have aU:=aOs M.zero aZ ad;have K:=aOt M.dt M.c8 aU oM;have am:((F+1:Nat):Int)=F+1:=oM;have aM:=zn ((F:Int)+1>=r);have aN:=zn (r<=F+1);clear Z v a0 ad aZ;go_wp2_with fail;go_roundw
      case rel=>exact ⟨w+1,F+1,by omega,by go_num,by go_num,aU,by omega,by first | rfl | trivial⟩
      case measure=>exact zr
    .have bq:wr.cell? ⟨x,0,none⟩=some (.bool true):=(by rw [aI.cell 0];have:mkB l a 0=true:=(c 0).2 M.zero;rw [<-this];exact oE l a aY);have b3:(0:Int) < m:=oM;clear ad;go_wp2_with fail;go_ret;exact ⟨rfl,b8⟩
def shT (a:Tr):Shp:=⟨(a.bits.length:Int),(a.ht:Int),(a.lv:Int),2*(a.lv:Int) - 1⟩
def shE:Option Tr->List Shp
 | none=> []
 | some a=> [shT a]
def shL (a:Nat->Option Tr):Nat->List Shp
 | 0=> []
 | p+1=>shL a p++shE (a p)
def shA (a:Nat->Nat->Option Tr):Nat->List Shp
 | 0=> []
 | lv+1=>shA a lv++shL (a lv) (2 ^ lv)
def aMb (d:List Nat) (c:Nat->Nat->Option Tr):Prop:=∀lv a,lv < 9->a < 2 ^ lv->cH (c lv a)=aM d lv a/\∀b,c lv a=some b->b.Ok/\b.bits.length<=1100
def aMD {e:Nat->Option Tr} {b} {g:Shp} (a:g∈shL e b):∃d c,d < b/\e d=some c/\g=shT c:=by
 induction b with
 | zero=>cases a
 | succ b j=>
  unfold shL at a;rcases zCp.1 a with a | a;obtain ⟨d,c,k,i⟩:=j a;exact ⟨d,c,by omega,i⟩
  .cases f:e b with
   | none=>
    rw [f] at a;cases a
   | some c=>
    rw [f] at a;exact ⟨b,c,by omega,f,zDa.1 a⟩
def aME {f:Nat->Nat->Option Tr} {d} {i:Shp} (a:i∈shA f d):∃lv b c,lv < d/\b < 2 ^ lv/\f lv b=some c/\i=shT c:=by
 induction d with
 | zero=>cases a
 | succ d j=>
  unfold shA at a;rcases zCp.1 a with a | a;obtain ⟨lv,b,c,g,e⟩:=j a;exact ⟨lv,b,c,by omega,e⟩;obtain ⟨b,c,g,e⟩:=aMD a;exact ⟨d,b,c,by omega,g,e⟩
def aCQ (b:Nat->Option Tr) (a):(shL b a).length<=a:=by
 induction a with
 | zero=>exact zAs _
 | succ a c=>
  unfold shL;rw [zAi];cases b a with
  | none=>show _+0<=_;omega
  | some d=>show _+1<=_;omega
def aMF (b:Nat->Nat->Option Tr):(shA b 9).length<=511:=by
 have a:=λlv=>aCQ (b lv) (2 ^ lv);have:=a 0;have:=a 1;have:=a 2;have:=a 3;have:=a 4;have:=a 5;have:=a 6;have:=a 7;have:=a 8;simp only [shA,zAi,zDM];omega
def aJp {b} (c:∀a∈b,a < 257):(aM b 0 0).length=b.length:=by
 rw [iX,zDJ];intro a d;have e:=c a d;have:bF a 0=0:=by unfold bF;omega
 rw [this];rfl
def aKp {e} {a:Nat->Nat->Option Tr} (o:aMb e a) (n:∀q∈e,q < 257) (k:e≠ []):∃d b,shA a 9=shT d::b/\d.bits.length=e.length:=by
 have j:=aJp n;have f:=(o 0 0 dC dC).1;cases g:a 0 0 with
 | none=>
  rw [g] at f;rw [<-f] at j;exact absurd (List.length_eq_zero_iff.1 j.symm) k
 | some d=>
  rw [g] at f;have l:shA a 1= [shT d]:=(by show []++([]++shE (a 0 0))=_;rw [g];rfl);have m:∀c,∃b,shA a (1+c)=shT d::b:=λc=>by
   induction c with
   | zero=>exact ⟨[],l⟩
   | succ c p=>
    obtain ⟨b,i⟩:=p;refine ⟨b++shL (a (1+c)) (2 ^(1+c)),?_⟩;show shA a (1+c)++_=_;rw [i];rfl
  obtain ⟨b,i⟩:=m 8;exact ⟨d,b,i,by rw [<-j,<-f];rfl⟩
def aF9 (a):∀b:Shp,(a.foldl Shp.add b).nodes=b.nodes+(eF a).nodes:=by
 have c:∀(a:List Shp) (b:Shp),(a.foldl Shp.add b).nodes=b.nodes+(a.map Shp.nodes).sum:=by
  intro a
  induction a with
  | nil=>intro b;simp
  | cons e a d=>
   intro b;rw [zCq,d];unfold Shp.add;simp only [zEJ,List.sum_cons];omega
 intro b;rw [c a b];unfold eF;rw [c a Shp.zero];show _=_+((0:Int)+_);omega
def mR (a b):(eF (a++b)).nodes=(eF a).nodes+(eF b).nodes:=by
 show ((a++b).foldl Shp.add Shp.zero).nodes=_;rw [zFt,aF9];rfl
def Tr.Ok.nodes {a:Tr} (b:a.Ok):16*(2*a.lv)<=a.bits.length+32:=by
 cases a with
 | lf c=>simp only [Tr.lv];omega
 | nd d e=>have:=Tr.full_lv b.2;omega
def aB8 {b:List Nat} {d:Nat->Nat->Option Tr} (i:aMb b d) {lv:Nat} (p:lv < 9):∀a,a<=2 ^ lv->16*(eF (shL (d lv) a)).nodes<=((b.countP λc=>decide (bF c lv < a):Nat):Int)+16*a
 | 0,_=>by show 16*(0:Int)<=_;omega
 | a+1,hp=>by
  have j:=aB8 i p a oM;obtain ⟨m,n⟩:=i lv a p oM;have o:(b.countP λc=>decide (bF c lv < a+1))=(b.countP λc=>decide (bF c lv < a))+(b.countP λc=>bF c lv==a):=by
   clear m n j i
   induction b with
   | nil=>rfl
   | cons e b j=>
    simp only [zBn,j];by_cases l:bF e lv < a;have f:¬bF e lv=a:=oM;have g:bF e lv < a+1:=oM;simp [l,f,g];omega
    .by_cases f:bF e lv=a;simp [f];omega
     .have g:¬bF e lv < a+1:=oM;simp [l,f,g]
  rw [<-iX,<-m] at o;have q:(eF (shL (d lv) (a+1))).nodes=(eF (shL (d lv) a)).nodes+(eF (shE (d lv a))).nodes:=mR _ _;rw [q,o];cases ht:d lv a with
  | none=>
   show 16*(_+(0:Int))<=_;omega
  | some k=>
   have r:=(n k ht).1.nodes;show 16*(_+((0:Int)+(2*(k.lv:Int) - 1)))<=(((_+k.bits.length:Nat)):Int)+_;omega
def aIB {b} {c:Nat->Nat->Option Tr} (n:aMb b c):16*(eF (shA c 9)).nodes<=9*(b.length:Int)+8176:=by
 have p:∀a,a<=9->16*(eF (shA c a)).nodes<=(a:Int)*b.length+16*(2 ^ a - 1:Nat):=λa=>by
  induction a with
  | zero=>
   intro _;show 16*(0:Int)<=_;omega
  | succ a o=>
   intro q;have e:=o oM;have f:=aB8 n (show a < 9 by omega) (2 ^ a) nL;have g:(b.countP λd=>decide (bF d a < 2 ^ a))<=b.length:=zBh;have i:(eF (shA c (a+1))).nodes=(eF (shA c a)).nodes+(eF (shL (c a) (2 ^ a))).nodes:=mR _ _;rw [i];have k:(2:Nat)^(a+1)=2*2 ^ a:=(by rw [zEM];omega);have l:=zFn a;have m:((a+1:Nat):Int)*b.length=a*b.length+b.length:=(by rw [Int.natCast_add,Int.add_mul];simp);rw [m];generalize (a:Int)*(b.length:Int)=z at e⊢;rw [k];generalize (2:Nat)^ a=u at e f g l⊢;generalize (b.countP λd=>decide (bF d a < u))=v at f g;omega
 have:=p 9 oM;have j:(2:Nat)^ 9=512:=dC;rw [j] at this;omega
def aCO (a b):cF (a++b)=cF a++cF b:=by simp [cF]
def aDB {l} {j e:Nat} {b c n o p a} (ht:Bk a j 223 #[e,n,o,p]) (k:ArenaE a l e b c) (r:b.length<=1048576) (q:c.length<=b.length):
 Calls prog 222 #[j] a λd i=>d=.returned (.int .i64 (b.length - c.length:Nat))/\Below a.heap.size a i:=by
 have u:=ht.cell 0;have f:Calls prog 143 #[e] a λd i=>d=.returned (.int .i64 (b.length - c.length:Nat))/\Below a.heap.size a i:=by obtain ⟨_,t,w,s,v,g,_⟩:=k;exact mO g r q
 generalize b.length - c.length=m at f⊢;clear ht k;go_enter func222,ntmps222;go_wp2_with fail;refine f.mono ?_;rintro d w1 ⟨rfl,g⟩;clear f;go_wp2_with fail;go_ret;exact ⟨rfl,g⟩
def aFj {ai c} {a2:Tr} {m} (E:TreeEo m ai c (some a2)):
 Calls prog 189 #[c] m λy a0=>y=.returned (shT a2).val/\Below m.heap.size m a0:=by
 have aA:=E;obtain ⟨bb,aS,a5,L,aQ,aP,aw,bq,br,l,ax,⟨z,_⟩|⟨r,z,I,rfl,ay,az,a7,_⟩⟩:=E
 .cases z
 injection z with z;subst z;obtain ⟨x,aZ,rfl,a9⟩:=l.rd.ex (zj (I.at.lt l.rd.len));obtain ⟨aT,aU,aV,aX,A,a6⟩:=r.R;obtain ⟨n,Q⟩:=eqx r.ht;obtain ⟨lv,ac⟩:=eqx r.er.lv;obtain ⟨q,ag⟩:=eqx r.num;have bo:q < L:=zj (I.at.lt l.rd.len)
 have bp:((q:Nat):Int) < L:=oM;have aL:=uK r;have ae:=a7.length_eq;rw [zAi,zCi] at ae;obtain ⟨g,ad⟩:=eqx (aP.length - aw.length);have bi:g+1=2*lv:=zj l.Y
 have bd:g<=200:=oM;obtain ⟨u,bc⟩:∃aR:Int,(g:Int)+1=aR:=⟨_,rfl⟩;have be:wrap64 (g+1)=u:=by unfold wrap64;omega
 have aK:u.tdiv 2=(lv:Int):=by rw [zEG oM];omega
 have bf:u / 2=(lv:Int):=oM;have bl:IntKind.i64.wrap u=u:=zu
 have bj:IntKind.i64.wrap lv=(lv:Int):=zu
 have bg:wrap64 (u / 2)=(lv:Int):=by unfold wrap64;omega
 have bh:wrap64 (u.tdiv 2)=(lv:Int):=by rw [aK];unfold wrap64;omega
 obtain ⟨a3,F⟩:=eqx (m.alloc (.cells #[o0,o0,o0,o0] 79));obtain ⟨e,v⟩:=eqx m.heap.size;obtain ⟨o,T⟩:=eqx r.er.bits.length;have O:Below e m a3:=by rw [<-F,<-v];exact bR.alloc nL _
 have ab:Bk a3 e 79 #[o0,o0,o0,o0]:=by rw [<-F,<-v];exact kd _ _ _
 have K:=ab.lt;have J:c < e:=by rw [<-v];exact l.rd.a.lt
 have aH:x < e:=by rw [<-v];exact a9.lt
 have S:=aDB (l.rd.a.below O J) (l.V.b (kb (by rw [v];exact O))) (zj l.Y) (zj l.Y);rw [ad] at S;obtain ⟨_,_,Z,_⟩:=l.rd.at (show At8 aQ r.num [_,_,_,_,_,_,_,_] from a6 ▸ I.at);have aO:=l.rd.c1;have Y:=l.rd.c2;rw [ag] at Y Z;rw [Q] at Z;have ah:(shT r.er).val=.agg #[(o:Int),(n:Int),(lv:Int),(g:Int)]:=by have aD:r.er.ht=n:=Q;have aJ:2*(lv:Int) - 1=g:=oM;unfold shT Shp.val;rw [T,aD,ac,aJ];rfl
 obtain ⟨aj,D,Hn,ak⟩:=hqq4 F v T ah;clear l ax ay az a7 I a9 a6 F v ah T Q ac ag aL ae ad;rw [ak.out,D.out];go_enter func189,ntmps189;have M:m.cell? ⟨c,2,none⟩=some (.int .i64 q):=Y;have bm:((q:Int)==-1)=false:=zCb.2 oM;have bn:¬(q:Int)=-1:=oM;have aI:c < m.heap.size:=by rw [D.out];exact J
 go_wp2_with fail;rw [aj.out]
 try rw [D.out]
 refine S.mono ?_;clear S M aI;rintro y s ⟨rfl,G⟩;have N:Below e m s:=O.trans (G.mono (zCm K));have R:e<=s.heap.size:=zAk (zCm K) G.size;have H:∀a,Keep (λ_=>False) s a->a.cell? ⟨c,1,none⟩=some (.slice (some x) L a5)/\a.cell? ⟨c,2,none⟩=some (.int .i64 q)/\a.cell? ⟨x,q*8+2,none⟩=some (.int .i64 n):=λa U=>by have B:=N.trans (U.e R λa4 _ k=>k.elim);exact ⟨(B.cell J).trans aO,(B.cell J).trans Y,(B.cell aH).trans Z⟩
 have aG:∀a,Keep (λ_=>False) s a->Calls prog 188 #[c] a λy a0=>y=.returned (.int .i64 o)/\Below a.heap.size a a0:=λa U=>by have B:=N.trans (U.e R λa4 _ k=>k.elim);have:=jL (aA.at.b (kb (by rw [D.out];exact B)));rw [show (cH (some r.er)).length=o from Hn.out] at this;exact this
 have a1:=(ab.below G K);clear G R K;go_wp2_with fail;refine wp_region_any kR<|cQ 18 [16,17,18,19,20,21,22,23,24,25,26,27,28,29,30,31,32,33] (λ_=>False) 0 [] (is c) [cO,is (o:Int),is c,is c,is (.pointer (some ⟨c,1,none⟩)),is (.slice (some x) L a5),is c,is c,is (.pointer (some ⟨c,2,none⟩)),is (q:Int),is (.pointer (some ⟨x,q*8,none⟩)),is (.pointer (some ⟨x,q*8+2,none⟩)),is (n:Int),is (g:Int),is (.int .i64 u),is (lv:Int),is (g:Int),is (.agg #[(o:Int),(n:Int),(lv:Int),(g:Int)])] _ rfl dC kR kR kR (trivial) (λ_ _ _ _ _=>trivial) (λ_ _ _ E _=>E) tA1 ?_ ?_
 .refine bB<|sC3 (λw _ _ _ _ _ aM _ _ _ _ j=>?_) ?_
  .have b0:w (.tmp 0)=.pointer (some c):=aM 0 kR;go_simp;exact j _ _ (aW (ke _ _)) rfl
  refine sC3 (λw a b _ _ _ _ d _ _ _ j=>?_) ?_
  .replace b:Keep (λ_=>False) s a:=kD b;have aN:(is c) (w (.tmp 16)) a:=d 0 16 kR rfl;have b1:w (.tmp 16)=.pointer (some c):=aN;have aF:=aG a b;go_simp;refine aF.mono ?_;rintro y bs ⟨rfl,aC⟩;exact j _ _ (aE aC) rfl
  refine pH3 0 (.pointer (some c))<|pV3 2 18<|pV3 3 19<|sC3 (λ_ a b _ _ _ _ d _ _ _ j=>?_) ?_
  .replace b:Keep (λ_=>False) s a:=kD b;have b3:_=_:=d 4 20 kR rfl;obtain ⟨V,W,X⟩:=H a b;go_simp;exact kq j rfl
  refine pH3 0 (.pointer (some c))<|pV3 6 22<|pV3 7 23<|sC3 (λ_ a b _ _ _ _ d _ _ _ j=>?_) ?_
  .replace b:Keep (λ_=>False) s a:=kD b;have b5:_=_:=d 8 24 kR rfl;obtain ⟨V,W,X⟩:=H a b;go_simp;exact kq j rfl
  refine sC3 (λ_ a b _ _ _ _ d _ _ _ j=>?_) ?_
  .replace b:Keep (λ_=>False) s a:=kD b;have b4:_=_:=d 5 21 kR rfl;have b6:_=_:=d 9 25 kR rfl;obtain ⟨V,W,X⟩:=H a b;go_simp;exact kq j rfl
  refine pV3 10 26<|sC3 (λ_ a b _ _ _ _ d _ _ _ j=>?_) ?_
  .replace b:Keep (λ_=>False) s a:=kD b;have b7:_=_:=d 11 27 kR rfl;obtain ⟨V,W,X⟩:=H a b;go_simp;exact kq j rfl
  refine pH3 3 (.int .i64 g)<|pV3 13 29<|pV3 14 30<|pH3 3 (.int .i64 g)<|sC3 (λ_ _ _ _ _ _ _ d _ _ _ j=>?_) ?_
  .have b2:_=_:=d 1 17 kR rfl;have b8:_=_:=d 12 28 kR rfl;have b9:_=_:=d 15 31 kR rfl;have ba:_=_:=d 16 32 kR rfl;go_simp;exact kq j rfl
  exact aB
 .intro w C k b d;replace b:Keep (λ_=>False) s C:=kD b;have ao:w (.tmp 33)=.agg #[(o:Int),(n:Int),(lv:Int),(g:Int)]:=d 17 33 dC rfl;simp only [zqq];rw [ao];clear d;have t:Bk C e 79 #[o0,o0,o0,o0]:=Keep.d b a1 λk=>k;have ap:=t.frozen 0;have aq:=t.frozen 1;have au:=t.frozen 2;have av:=t.frozen 3;have al:=t.cell 0;have am:=t.cell 1;have M:=t.cell 2;have an:=t.cell 3;change wpAny prog Region.Mode.any _ _ (1+k) (bT 18 19) _ C;rw [zCt 1 k];refine aY (f:=k) (i:=18) kR ?_;refine bJ rfl rfl ?_;generalize j:wpAny prog _ _ _ k _=K5;go_simp;subst j;refine bG kR ?_;have a8:Below e m C:=N.trans (b.e (zCm a1.lt) λa4 _ k=>k.elim);have aa:=(((a8.setCell (p:=⟨e,0,none⟩) nL (.int .i64 o)).setCell (p:=⟨e,1,none⟩) nL (.int .i64 n)).setCell (p:=⟨e,2,none⟩) nL (.int .i64 lv)).setCell (p:=⟨e,3,none⟩) nL (.int .i64 g);have af:=(((t.set 0 (.int .i64 o)).set 1 (.int .i64 n)).set 2 (.int .i64 lv)).set 3 (.int .i64 g);generalize (((C.setCell ⟨e,0,none⟩ (.int .i64 o)).setCell ⟨e,1,none⟩ (.int .i64 n)).setCell ⟨e,2,none⟩ (.int .i64 lv)).setCell ⟨e,3,none⟩ (.int .i64 g)=w9 at aa af⊢;clear a8 ap aq au av al am M an;go_wp2_with fail;exact bodyPost_ret (results_cell_row (P:=prog) (fn:=f189) (p:=2) (ty:=79) rfl _ w9 e 79 #[(o:Int),(n:Int),(lv:Int),(g:Int)] (0,0) _ rfl af underlying79 rfl kR) rfl ⟨rfl,aa⟩
def aKo:(prog.info? 79).map (λa=>(a.zero.map (·.cells.size),a.size,a.bytes))=some (some 4,4,32):=by kernel_rfl
def aIz:∃b c,prog.info? 79=some b/\b.zero=some c/\b.size=4/\b.bytes=32/\c.cells.size=4:=by
 have a:=aKo;cases e:prog.info? 79 with
 | none=>rw [e] at a;cases a
 | some b=>
  rw [e] at a;cases d:b.zero with
  | none=>simp [d] at a
  | some c=>
   simp [d] at a;exact ⟨b,c,rfl,d,a.2.1,a.2.2,a.1⟩
def aNZ (a:Nat->Nat->Option Tr) (lv):(shA a lv).length+1<=2 ^ lv:=by
 induction lv with
 | zero=>exact zAs _
 | succ lv b=>
  have:=aCQ (a lv) (2 ^ lv);unfold shA;rw [zAi,zEM];omega
def oU (a:World) (b:List Shp) (e:Ending) (d:World):Prop:=∃c,e=.returned c/\d.ownsRow a.heap.size 79 4 c b.length (cF b)/\Below a.heap.size a d
def WvT (c:World) (d:Nat) (own:Nat->Nat) (i:Nat) (e:Nat->Value) (f:Nat->Nat->Option Tr):Prop:=∀lv,lv < 9->∃b:Nat->Nat,c.ownsRow d 184 3 (e lv) (2 ^ lv) (eG b lv (2 ^ lv))/\∀a,a < 2 ^ lv->TreeEo c (λg=>own g=TC lv a) (b a) (f lv a)
def TreeEo.ok {i c d} {b:Tr} (e:TreeEo i c d (some b)):b.Ok/\b.bits.length<=1100:=by
 obtain ⟨_,_,_,_,_,_,_,_,_,_,_,⟨a,_⟩|⟨j,a,_,_,f,g,_⟩⟩:=e
 .cases a
 injection a with a;subst a;exact ⟨f,g⟩
def WaveS.cn {e k own s} {l:Nat->Value} {f C D} (A:WaveS e k own s l (λ_=>f) C D):∃g,WvT e k own s l g/\aMb f g:=by
 have B:∀lv,∃d:Nat->Option Tr,lv < 9->(∃c:Nat->Nat,e.ownsRow k 184 3 (l lv) (2 ^ lv) (eG c lv (2 ^ lv))/\∀a,a < 2 ^ lv->TreeEo e (λn=>own n=TC lv a) (c a) (d a))/\∀a,a < 2 ^ lv->cH (d a)=aM f lv a/\∀j,d a=some j->j.Ok/\j.bits.length<=1100:=λlv=>by
  by_cases q:lv < 9
  .obtain ⟨c,x,_,y⟩:=A.rows lv q;have z:∀a,∃i,a < 2 ^ lv->cH i=aM f lv a/\TreeEo e (λn=>own n=TC lv a) (c a) i:=λa=>by by_cases r:a < 2 ^ lv;obtain ⟨i,v,w⟩:=y a r;exact ⟨i,λ_=>⟨v,w⟩⟩;exact ⟨none,λm=>absurd m r⟩
   obtain ⟨d,o⟩:=Classical.skolem.1 z;exact ⟨d,λ_=>⟨⟨c,x,λa b=>(o a b).2⟩,λa b=>⟨(o a b).1,λj u=>by have:=(o a b).2;rw [u] at this;exact this.ok⟩⟩⟩
  exact ⟨λ_=>none,λm=>absurd m q⟩
 obtain ⟨g,t⟩:=Classical.skolem.1 B;exact ⟨g,λlv p=>(t lv p).1,λlv a p b=>(t lv p).2 a b⟩
def aDu {aD f own} {d:Nat->Value} {ax aB} {b:Nat->Nat->Option Tr} {c} (e:Bk c f 181 (wcells d ax aB)) (ad:WvT c aD own f d b):
 Calls prog 132 #[f] c (oU c (shA b 9)):=by
 obtain ⟨b8,bb,aW,b4,b5,b6,b7⟩:=aIz;have b2:=ad;obtain ⟨H,a4,a5,a6,a7,a8,a9,aa,ab,aM,aL⟩:=cK d ax aB;have be:c.cell? f=some (d 0):=(e.cell 0).trans H;have bf:c.cell? ⟨f,1,none⟩=some (d 1):=(e.cell 1).trans a4;have bg:c.cell? ⟨f,2,none⟩=some (d 2):=(e.cell 2).trans a5;have bh:c.cell? ⟨f,3,none⟩=some (d 3):=(e.cell 3).trans a6;have bi:c.cell? ⟨f,4,none⟩=some (d 4):=(e.cell 4).trans a7;have bj:c.cell? ⟨f,5,none⟩=some (d 5):=(e.cell 5).trans a8;have bk:c.cell? ⟨f,6,none⟩=some (d 6):=(e.cell 6).trans a9;have bl:c.cell? ⟨f,7,none⟩=some (d 7):=(e.cell 7).trans aa;have bm:c.cell? ⟨f,8,none⟩=some (d 8):=(e.cell 8).trans ab;clear e ad H a4 a5 a6 a7 a8 a9 aa ab aM aL;unfold oU;go_enter func132,ntmps132;go_wp2_with fail;go_loopw [3,14] (λa0 l wr=>∃lv:Nat,lv<=9/\l=.int .i64 lv/\wr.ownsRow c.heap.size 79 4 a0 (shA b lv).length (cF (shA b lv))/\Below c.heap.size c wr) (λ_ l _=>9 -(intOf l).toNat)
 case atStart=>exact ⟨0,by omega,rfl,ki _ _ _ _,kg _ _⟩
 case round=>
  obtain ⟨lv,bu,rfl,al,e⟩:=hrel;by_cases ai:lv < 9
  .have aY:=ix9 d ai;obtain ⟨a1,D,aw⟩:=b2 lv ai;obtain ⟨k,n⟩:=eqx (2 ^ lv);have bv:k<=512:=(by rw [<-n];exact zAk (zBp dC (by omega:lv<=9)) dC);have aZ:0 < k:=(by rw [<-n];exact Nat.pow_pos dC);rw [n] at D aw;obtain ⟨I,bn,ae,bw,bt⟩:=kj D aZ;rw [ae] at aY D;have ar:=aNZ b lv;rw [n] at ar;have aH:=lhd n;clear ae n;go_wp2_with fail;have aV:=zy ((lv:Int) < 9);rw [aV];go_loopw [3,19] (λa0 l aC=>∃a:Nat,a<=k/\l=.int .i64 a/\aC.ownsRow c.heap.size 79 4 a0 (shA b lv++shL (b lv) a).length (cF (shA b lv++shL (b lv) a))/\Below c.heap.size c aC) (λ_ l _=>k -(intOf l).toNat)
   case atStart=>exact ⟨0,zAp _,rfl,by rw [show shA b lv++shL (b lv) 0=shA b lv from zEa _];exact al,e⟩
   case round=>
    obtain ⟨a,bx,rfl,A,q⟩:=hrel;have b3:=q.size;by_cases aq:a < k
    .have bz:(a:Int) < k:=oM;have C:=aP D q;obtain ⟨ay,az,aA⟩:=gF a1 lv k a aq;have aK:wr.cell? ⟨I,a*3,none⟩=_:=(kh C (a*3) oM).trans ay;have bc:wr.cell? ⟨I,a*3+1,none⟩=_:=(kh C (a*3+1) oM).trans az;have bd:wr.cell? ⟨I,a*3+2,none⟩=_:=(kh C (a*3+2) oM).trans aA;obtain ⟨ac,R⟩:=eqx (a1 a);rw [R] at aK;have ht:=aw a aq;rw [R] at ht;obtain ⟨a3,x⟩:=eqx (wr.alloc (.cells #[.pointer (some ⟨ac,0,none⟩),(lv:Int),(a:Int)] 184));obtain ⟨aQ,S⟩:=eqx wr.heap.size;have N:Below wr.heap.size wr a3:=(by rw [<-x];exact bR.alloc nL _);have P:Bk a3 aQ 184 #[.pointer (some ⟨ac,0,none⟩),(lv:Int),(a:Int)]:=(by rw [<-x,<-S];exact kd _ _ _);have K:=q.trans (N.mono b3);have Z:=ht.b (kb K);have b0:=aP A N;obtain ⟨p,O⟩:=eqx (b lv a);rw [O] at Z;have g:shL (b lv) (a+1)=shL (b lv) a++shE p:=(by rw [<-O];rfl);have ak:=jL Z.at
     have H:=P.cell 0;have aU:=P.lt;obtain ⟨j,z⟩:=eqx ((cH p).length);rw [z] at ak;obtain ⟨aF,aG⟩:=hqq2 x S;have a2:=g;clear ht A q N x S g C ay az aA R O;go_wp2_with fail;rw [aF.out]
     try rw [aG.out]
     refine ak.mono ?_;rintro aN bA ⟨rfl,m⟩;have y:=K.trans (m.mono K.size);have E:=Z.b (kb m);have B:=aP b0 m;have Q:=P.below m aU;have aO:=Q.cell 0;by_cases U:j=0
     .subst U;have aT:p=none:=by
       cases p with
       | none=>rfl
       | some i=>
        have bq:=E.ok.1.pos;have br:i.bits.length=0:=z;omega
      have g:=a2;rw [aT] at g;simp only [shE,zEa] at g;have v:=lhd g;clear g E Q aO m;go_wp2_with fail;go_roundw
      case rel=>exact ⟨a+1,by omega,by go_num,by rw [v.out];exact B,y⟩
      case measure=>first |(simp [intOf];omega)| simp [intOf]
     .obtain ⟨i,rfl⟩:∃i,p=some i:=by
       cases p with
       | none=>exact absurd z.symm U
       | some i=>exact ⟨i,rfl⟩
      have g:=a2;simp only [shE] at g;obtain ⟨r,T⟩:∃u:Int,(i.ht:Int)=u:=⟨_,rfl⟩;obtain ⟨o,s⟩:∃u:Int,(i.lv:Int)=u:=⟨_,rfl⟩;obtain ⟨t,V⟩:∃u:Int,2*o - 1=u:=⟨_,rfl⟩;have bo:=zy ((j:Int) > 0);have bp:=zy (0 < j);have Y:=aFj E;have W:i.bits.length=j:=z;have av:(shT i).val=.agg #[(j:Int),(r:Int),(o:Int),(t:Int)]:=(by unfold shT Shp.val;rw [W,T,s,V];rfl);have au:(shT i).cells= [.int .i64 j,.int .i64 r,.int .i64 o,.int .i64 t]:=(by unfold shT Shp.cells;rw [W,T,s,V];rfl);rw [av] at Y;obtain ⟨G,w⟩:=eqx ((shA b lv++shL (b lv) a).length);have bs:G<=1024:=(by have:=aCQ (b lv) a;have:=ar;rw [<-w,zAi];omega);rw [w] at B;obtain ⟨v,aJ,aE⟩:=hqq3 g au w;clear g E Q m av au w U W T s V;go_wp2_with fail;refine Y.mono ?_;rintro aN F ⟨rfl,L⟩;have M:=y.trans (L.mono y.size);have am:=aP B L;have J:Below F.heap.size F (F.alloc (.cells #[(j:Int),(r:Int),(o:Int),(t:Int)] 79)):=bR.alloc nL _;have af:=M.trans (J.mono M.size);have an:=aP am J;have X:=af.size;clear L M am J Y B y;go_wp2_with (at_builtin;refine bE _ rfl (.tmp 27) (.tmp 31) _ rfl c.heap.size 79 b8 bb 4 32 underlying75 aW b4 b5 b6 b7 dC u3 G _ rfl an _ _ 1 1 _ rfl (aAf (kd F 79 #[(j:Int),(r:Int),(o:Int),(t:Int)]) rfl) (by simp [Value.oneCell']) zx oM X ?_;intro b9 ba ao ah aR);have aS:=aX af an ah X;have aj:(shA b lv++shL (b lv) (a+1)).length=G+1:=(by rw [v.out,<-zCo,zAi,aE.out];rfl);have ag:cF (shA b lv++shL (b lv) (a+1))=cF (shA b lv++shL (b lv) a)++ [.int .i64 j,.int .i64 r,.int .i64 o,.int .i64 t]:=(by rw [v.out,<-zCo,aCO];rw [<-aJ.out];simp [cF]);have aI:=(show ba.ownsRow c.heap.size 79 4 b9 (shA b lv++shL (b lv) (a+1)).length (cF (shA b lv++shL (b lv) (a+1))) by rw [aj,ag];exact ao);clear ao ah aR aj ag X;go_roundw
      case rel=>exact ⟨a+1,by omega,by go_num,aI,aS⟩
      case measure=>first |(simp [intOf];omega)| simp [intOf]
    .have b1:a=k:=oM;subst b1;have ap:=A;rw [show shA b lv++shL (b lv) a=shA b (lv+1) by rw [<-aH.out];rfl] at ap;clear A;go_wp2_with fail;go_roundw
     case rel=>exact ⟨lv+1,by omega,by go_num,ap,q⟩
     case measure=>first |(simp [intOf];omega)| simp [intOf]
  .have s:lv=9:=oM;subst s;go_wp2_with fail;go_ret;exact ⟨_,rfl,al,e⟩
def aKM {a4 q} (D) {z ab A} (aa:Rd A ab 4 a4 q (cF z)) (hB:ab<=A.heap.size) (bf:q<=1000) (aN:∀o∈z,(0<=o.len/\o.len<=1100)/\(0<=o.leaves/\o.leaves<=1100)/\(0<=o.nodes/\o.nodes<=2200)):
 Calls prog 38 #[.slice a4 q D] A λa6 aP=>(∃l x k:Int,a6=.returned (.agg #[(l:Int),(x:Int),(k:Int),.int .i64 (eF z).nodes]))/\Below A.heap.size A aP:=by
 have av:z.length=q:=by have:=aa.1;rw [uB] at this;omega
 obtain ⟨s,O⟩:=eqx A.heap.size;obtain ⟨d,a9⟩:=eqx (s+1);obtain ⟨a5,Q⟩:=eqx ((A.alloc (.cells #[o0,o0,o0,o0] 79)).alloc (.cells #[o0,o0,o0,o0] 79));have aJ:Below s A a5:=by rw [<-Q,<-O];exact (bR.alloc nL _).alloc zs _
 have t:Bk a5 s 79 #[o0,o0,o0,o0]:=by rw [<-Q,<-O];exact (kd A _ _).alloc _
 have C:Bk a5 d 79 #[o0,o0,o0,o0]:=by rw [<-Q,<-a9,<-O];have:=kd (A.alloc (.cells #[o0,o0,o0,o0] 79)) 79 #[o0,o0,o0,o0];rw [sZ0] at this;exact this
 have Z:s≠d:=oM;have Y:s<=d:=oM;have a8:∃e g,0 < q->a4=some ⟨e,g,none⟩/\∀(a:Nat) (o:Shp),z[a]?=some o->∀b,Below s A b->b.cell? ⟨e,g+a*4,none⟩=some (.int .i64 o.len)/\b.cell? ⟨e,g+a*4+1,none⟩=some (.int .i64 o.T)/\b.cell? ⟨e,g+a*4+2,none⟩=some (.int .i64 o.leaves)/\b.cell? ⟨e,g+a*4+3,none⟩=some (.int .i64 o.nodes):=by rcases zBa q with ao | ao;exact ⟨0,0,λan=>by omega⟩;obtain ⟨e,g,a6,R,F⟩:=(aa.mono hB).2 ao;rw [O] at R;exact ⟨e,g,λ_=>⟨a6,λa o S b a2=>⟨(a2.cell R).trans (F (a*4+0) _ ((eK z a 0 o S oM).trans rfl)),(a2.cell R).trans (F (a*4+1) _ ((eK z a 1 o S oM).trans rfl)),(a2.cell R).trans (F (a*4+2) _ ((eK z a 2 o S oM).trans rfl)),(a2.cell R).trans (F (a*4+3) _ ((eK z a 3 o S oM).trans rfl))⟩⟩⟩
 obtain ⟨e,g,a8⟩:=a8;obtain ⟨ae,ay⟩:=hqq2 av Q;have aA:=t;have aC:=C;obtain ⟨ad,aD⟩:=hqq2 O a9;clear av Q t C O a9 aa hB;rw [ad.out];go_enter func38,ntmps38;go_wp2_with fail;rw [ay.out]
 try rw [ad.out]
 try rw [aD.out]
 go_loopw [4] (λa3 wr=>∃(a:Nat) (l x k m:Int),a<=q/\a3=.int .i64 a/\Bk wr d 79 #[(l:Int),(x:Int),(k:Int),(m:Int)]/\Bk wr s 79 #[o0,o0,o0,o0]/\(0<=l/\l<=1100*(a:Int)/\0<=k/\k<=1100*(a:Int)/\0<=m/\m<=2200*(a:Int))/\(eF (z.take a)).nodes=m/\Below s A wr) (λa3 _=>q -(intOf a3).toNat)
 case atStart=>exact ⟨0,0,0,0,0,zAp _,rfl,aC,aA,by omega,rfl,aJ⟩
 case round=>
  obtain ⟨a,l,x,k,m,S,rfl,C,t,aH,a7,V⟩:=hrel;by_cases aL:a < q
  .obtain ⟨o,a1⟩:∃o,z[a]?=some o:=⟨_,zAa (by rw [ae.out];exact aL)⟩;have ax:=aN o (zAd a1);have ap:(eF (z.take (a+1))).nodes=m+o.nodes:=(by rw [aEj a1,<-a7];rfl);obtain ⟨w,U,v,u⟩:=o;simp only at ax ap;obtain ⟨aF,F⟩:=a8 oM;subst aF;have aw:s<=wr.heap.size:=(zj t.lt);have E:∀b,Keep (λ_=>False) wr b->b.cell? ⟨e,g+a*4,none⟩=some (.int .i64 w)/\b.cell? ⟨e,g+a*4+1,none⟩=some (.int .i64 U)/\b.cell? ⟨e,g+a*4+2,none⟩=some (.int .i64 v)/\b.cell? ⟨e,g+a*4+3,none⟩=some (.int .i64 u)/\b.cell? d=some (.int .i64 l)/\b.cell? ⟨d,1,none⟩=some (.int .i64 x)/\b.cell? ⟨d,2,none⟩=some (.int .i64 k)/\b.cell? ⟨d,3,none⟩=some (.int .i64 m):=λb c=>by obtain ⟨aQ,aR,aS,aT⟩:=F a _ a1 b (V.trans (c.e aw λ_ _ r=>r.elim));have W:=Keep.d c C λr=>r;exact ⟨aQ,aR,aS,aT,W.cell 0,W.cell 1,W.cell 2,W.cell 3⟩
   have bg:(a:Int) < q:=oM;have aI:0<=l+w/\l+w<=1100*((a:Int)+1)/\0<=k+v/\k+v<=1100*((a:Int)+1)/\0<=m+u/\m+u<=2200*((a:Int)+1):=oM;have bh:IntKind.i64.wrap (l+w)=l+w:=zu;have bi:IntKind.i64.wrap (k+v)=k+v:=zu;have bj:IntKind.i64.wrap (m+u)=m+u:=zu;obtain ⟨B,aq⟩:∃B,(if x < U then U else x)=B:=⟨_,rfl⟩;have ac:=lhd aq;clear F a1 aH aq a7 ax;go_wp2_with fail;refine wp_region_any kR<|cQ 33 [11,12,13,14,15,16,17,18,19,20,21,22,23,24,25,26,27,28,29,30,31,32,33,34,35,36,37,38,39,40,41,42,43] (λ_=>False) 0 [] (is d) [cO,is (l:Int),is (.slice (some ⟨e,g,none⟩) q D),is (a:Int),is (.pointer (some ⟨e,g+a*4,none⟩)),is (.pointer (some ⟨e,g+a*4,none⟩)),is (w:Int),is (l+w:Int),is (.pointer (some ⟨d,1,none⟩)),is (x:Int),is (.slice (some ⟨e,g,none⟩) q D),is (a:Int),is (.pointer (some ⟨e,g+a*4,none⟩)),is (.pointer (some ⟨e,g+a*4+1,none⟩)),is (U:Int),is (B:Int),is (.pointer (some ⟨d,2,none⟩)),is (k:Int),is (.slice (some ⟨e,g,none⟩) q D),is (a:Int),is (.pointer (some ⟨e,g+a*4,none⟩)),is (.pointer (some ⟨e,g+a*4+2,none⟩)),is (v:Int),is (k+v:Int),is (.pointer (some ⟨d,3,none⟩)),is (m:Int),is (.slice (some ⟨e,g,none⟩) q D),is (a:Int),is (.pointer (some ⟨e,g+a*4,none⟩)),is (.pointer (some ⟨e,g+a*4+3,none⟩)),is (u:Int),is (m+u:Int),is (.agg #[(l+w:Int),(B:Int),(k+v:Int),(m+u:Int)])] _ rfl dC kR kR kR (trivial) (λ_ _ _ _ _=>trivial) (λ_ _ _ an _=>an) tA1 ?_ ?_
   .refine bB<|sC3 (λN _ _ _ _ _ aM _ _ _ _ n=>?_) ?_
    .have b9:N (.tmp 3)=.pointer (some d):=aM 3 kR;go_simp;exact n _ _ (aW (ke _ _)) rfl
    refine sC3 (λN b c _ _ _ _ j _ _ _ n=>?_) ?_
    .replace c:Keep (λ_=>False) wr b:=kD c;have aO:(is d) (N (.tmp 11)) b:=j 0 11 kR rfl;have b0:N (.tmp 11)=.pointer (some d):=aO;obtain ⟨k0,G,H,I,J,K,L,M⟩:=E b c;go_simp;exact kq n rfl
    refine pH3 0 (.slice (some ⟨e,g,none⟩) q D)<|pH3 4 (.int .i64 a)<|pW3 2 13 3 14<|pV3 4 15<|sC3 (λ_ b c _ _ _ _ j _ _ _ n=>?_) ?_
    .replace c:Keep (λ_=>False) wr b:=kD c;have b1:_=_:=j 5 16 kR rfl;obtain ⟨k0,G,H,I,J,K,L,M⟩:=E b c;go_simp;exact kq n rfl
    refine pW3 1 12 6 17<|pH3 3 (.pointer (some d))<|sC3 (λ_ b c _ _ _ _ j _ _ _ n=>?_) ?_
    .replace c:Keep (λ_=>False) wr b:=kD c;have b3:_=_:=j 8 19 kR rfl;obtain ⟨k0,G,H,I,J,K,L,M⟩:=E b c;go_simp;exact kq n rfl
    refine pH3 0 (.slice (some ⟨e,g,none⟩) q D)<|pH3 4 (.int .i64 a)<|pW3 10 21 11 22<|pV3 12 23<|sC3 (λ_ b c _ _ _ _ j _ _ _ n=>?_) ?_
    .replace c:Keep (λ_=>False) wr b:=kD c;have b5:_=_:=j 13 24 kR rfl;obtain ⟨k0,G,H,I,J,K,L,M⟩:=E b c;go_simp;exact kq n rfl
    refine sC3 (λ_ _ _ _ _ _ _ j _ _ _ n=>?_) ?_
    .have b4:_=_:=j 9 20 kR rfl;have b6:_=_:=j 14 25 kR rfl;go_simp;exact n _ _ (aE bR) (cS (by first | exact ac |(rw [<-ac.out];split <;> omega)))
    refine pH3 3 (.pointer (some d))<|sC3 (λ_ b c _ _ _ _ j _ _ _ n=>?_) ?_
    .replace c:Keep (λ_=>False) wr b:=kD c;have b8:_=_:=j 16 27 kR rfl;obtain ⟨k0,G,H,I,J,K,L,M⟩:=E b c;go_simp;exact kq n rfl
    refine pH3 0 (.slice (some ⟨e,g,none⟩) q D)<|pH3 4 (.int .i64 a)<|pW3 18 29 19 30<|pV3 20 31<|sC3 (λ_ b c _ _ _ _ j _ _ _ n=>?_) ?_
    .replace c:Keep (λ_=>False) wr b:=kD c;have ba:_=_:=j 21 32 kR rfl;obtain ⟨k0,G,H,I,J,K,L,M⟩:=E b c;go_simp;exact kq n rfl
    refine pW3 17 28 22 33<|pH3 3 (.pointer (some d))<|sC3 (λ_ b c _ _ _ _ j _ _ _ n=>?_) ?_
    .replace c:Keep (λ_=>False) wr b:=kD c;have bc:_=_:=j 24 35 kR rfl;obtain ⟨k0,G,H,I,J,K,L,M⟩:=E b c;go_simp;exact kq n rfl
    refine pH3 0 (.slice (some ⟨e,g,none⟩) q D)<|pH3 4 (.int .i64 a)<|pW3 26 37 27 38<|pV3 28 39<|sC3 (λ_ b c _ _ _ _ j _ _ _ n=>?_) ?_
    .replace c:Keep (λ_=>False) wr b:=kD c;have bd:_=_:=j 29 40 kR rfl;obtain ⟨k0,G,H,I,J,K,L,M⟩:=E b c;go_simp;exact kq n rfl
    refine pW3 25 36 30 41<|sC3 (λ_ _ _ _ _ _ _ j _ _ _ n=>?_) ?_
    .have b2:_=_:=j 7 18 kR rfl;have b7:_=_:=j 15 26 kR rfl;have bb:_=_:=j 23 34 kR rfl;have be:_=_:=j 31 42 kR rfl;go_simp;exact kq n rfl
    exact aB
   .intro N T r c j;replace c:Keep (λ_=>False) wr T:=kD c;have aG:N (.tmp 43)=.agg #[(l+w:Int),(B:Int),(k+v:Int),(m+u:Int)]:=j 32 43 dC rfl;simp only [zqq];rw [aG];clear j;have y:Bk T d 79 #[(l:Int),(x:Int),(k:Int),(m:Int)]:=Keep.d c C λr=>r;have aj:=y.frozen 0;have ak:=y.frozen 1;have al:=y.frozen 2;have am:=y.frozen 3;have af:=y.cell 0;have ag:=y.cell 1;have ah:=y.cell 2;have ai:=y.cell 3;have az:=y;clear y;change wpAny prog Region.Mode.any _ _ (1+r) (bT 33 34) _ T;rw [zCt 1 r];refine aY (f:=r) (i:=33) kR ?_;refine bJ rfl rfl ?_;generalize n:wpAny prog _ _ _ r _=K5;go_simp;subst n;refine bG kR ?_;have y:=V.trans (c.e aw λ_ _ r=>r.elim);have X:=(((y.setCell (p:=d) Y (.int .i64 (l+w))).setCell (p:=⟨d,1,none⟩) Y (.int .i64 B)).setCell (p:=⟨d,2,none⟩) Y (.int .i64 (k+v))).setCell (p:=⟨d,3,none⟩) Y (.int .i64 (m+u));have a0:=(((az.set 0 (.int .i64 (l+w))).set 1 (.int .i64 B)).set 2 (.int .i64 (k+v))).set 3 (.int .i64 (m+u));have ar:Bk T s 79 #[o0,o0,o0,o0]:=Keep.d c t λr=>r;have au:=(((ar.m (p:=d) Z (.int .i64 (l+w))).m (p:=⟨d,1,none⟩) Z (.int .i64 B)).m (p:=⟨d,2,none⟩) Z (.int .i64 (k+v))).m (p:=⟨d,3,none⟩) Z (.int .i64 (m+u));generalize (((T.setCell d (.int .i64 (l+w))).setCell ⟨d,1,none⟩ (.int .i64 B)).setCell ⟨d,2,none⟩ (.int .i64 (k+v))).setCell ⟨d,3,none⟩ (.int .i64 (m+u))=w9 at X a0 au⊢;clear ar y aj ak al am af ag ah ai;go_wp2_with fail;go_roundw
    case rel=>exact ⟨a+1,l+w,B,k+v,m+u,by omega,by go_num,a0,au,by have:=aI;omega,ap,X⟩
    case measure=>exact zr
  .have aK:a=q:=oM;subst aK;have af:=C.cell 0;have ag:=C.cell 1;have ah:=C.cell 2;have ai:=C.cell 3;have aU:=t.cell 0;have aV:=t.cell 1;have aX:=t.cell 2;have aZ:=t.cell 3;have aj:=t.frozen 0;have ak:=t.frozen 1;have al:=t.frozen 2;have am:=t.frozen 3;have a0:=(((t.set 0 (.int .i64 l)).set 1 (.int .i64 x)).set 2 (.int .i64 k)).set 3 (.int .i64 m);have X:=(((V.setCell (p:=s) nL (.int .i64 l)).setCell (p:=⟨s,1,none⟩) nL (.int .i64 x)).setCell (p:=⟨s,2,none⟩) nL (.int .i64 k)).setCell (p:=⟨s,3,none⟩) nL (.int .i64 m);clear C t V;go_wp2_with fail;exact bodyPost_ret (results_cell_row (P:=prog) (fn:=f38) (p:=2) (ty:=79) rfl _ _ s 79 #[(l:Int),(x:Int),(k:Int),(m:Int)] (0,0) _ rfl a0 underlying79 rfl kR) rfl ⟨⟨l,x,k,by rw [<-a7,zAg (by rw [ae.out];exact zAs _)]⟩,X⟩
def aEz {a:Nat} (b) (e:a<=1000000):Calls prog 75 #[(a:Int)] b λc d=>c=.returned (.int .i64 a)/\b=d:=by
 go_enter func75,ntmps75;go_wp2;go_ret;exact ⟨by first | rfl |(congr 3;omega)|(simp;omega),rfl⟩
def aGw (c:Nat) (a) (e:c<=1000000):Calls prog 39 #[(c:Int)] a λb f=>(∃d:Int,b=.returned (.int .i64 d)/\9216<=d)/\a=f:=by
 go_enter func39,ntmps39;go_wp2_with fail;refine (aEz a e).mono ?_;rintro b w1 ⟨rfl,rfl⟩;go_wp2_with fail;go_ret;exact ⟨⟨_,rfl,by omega⟩,rfl⟩
def aKE:(prog.info? 29).map (λa=>(a.zero.map (·.cells.size),a.size,a.bytes))=some (some 4,4,64):=by kernel_rfl
def aIM:∃b c,prog.info? 29=some b/\b.zero=some c/\b.size=4/\b.bytes=64/\c.cells.size=4:=by
 have a:=aKE;cases e:prog.info? 29 with
 | none=>rw [e] at a;cases a
 | some b=>
  rw [e] at a;cases d:b.zero with
  | none=>simp [d] at a
  | some c=>
   simp [d] at a;exact ⟨b,c,rfl,d,a.2.1,a.2.2,a.1⟩
def StpsAt.get {w:World} {B:Nat}:∀ {g:List Sp} {a:List Value} {k:Nat} {s:Sp},StpsAt w B a g->g[k]?=some s->
 ∃b f c,a[k*4]?=some (.int .i64 s.kind)/\a[k*4+1]?=some (.int .i64 s.p)/\a[k*4+2]?=some (.int .i64 s.k)/\a[k*4+3]?=some (.slice b f c)/\DataAt w B b f c s.D
 | [],_,k,_,_,j=>by simp at j
 | s0::g,a,0,s,⟨b,f,c,ys,e,hd,j⟩,hk=>by have u:s0=s:=(by simpa using hk);subst u;exact ⟨b,f,c,by rw [e];rfl,by rw [e];rfl,by rw [e];rfl,by rw [e];rfl,hd⟩
 | s0::g,a,k+1,s,⟨b,f,c,ys,e,hd,j⟩,hk=>by
  obtain ⟨l,v,m,n,o,q,r,t⟩:=StpsAt.get j (k:=k) (s:=s) (by simpa using hk);have i:∀d,a[(k+1)*4+d]?=ys[k*4+d]?:=λd=>by rw [e,show (k+1)*4+d=(k*4+d)+1+1+1+1 by omega];simp
  exact ⟨l,v,m,(i 0).trans n,(i 1).trans o,(i 2).trans q,(i 3).trans r,t⟩
section
variable {w w1 w' : World} {B gs : Nat} {own own' : Nat -> Nat}
def StpZ (w:World) (B:Nat) (own:Nat->Nat) (gs:Nat) (j:Option Addr) (i:Nat) (f:List Sp):Prop:=
 f.length=i/\(0 < i->∃a c,j=some ⟨a,c,none⟩/\a < w.heap.size/\(a < B∨(Ap own gs a/\∃l m,w.heap[a]?=some (.cells l 32 m)))/\
  ∀b d,f[b]?=some d->∃e g k,w.cell? ⟨a,c+b*4,none⟩=some (.int .i64 d.kind)/\w.cell? ⟨a,c+b*4+1,none⟩=some (.int .i64 d.p)/\w.cell? ⟨a,c+b*4+2,none⟩=some (.int .i64 d.k)/\w.cell? ⟨a,c+b*4+3,none⟩=some (.slice e g k)/\ArgZ w B own gs e g d.D)
def StpZ.step {i n j} (m:StpZ w B own gs i n j) (d:LFS B gs w w' own own'):StpZ w' B own' gs i n j:=by
 refine ⟨m.1,λq=>?_⟩;obtain ⟨b,C,rfl,g,hB,x⟩:=m.2 q;have c:w'.heap[b]?=w.heap[b]?:=by rcases hB with a |⟨a,k,l,e⟩;exact d.keep.block b g (by have E:b < B:=a;omega);exact d.b.same e (λf=>f.elim (λf=>f a.x) a.ne) dC dC
 refine ⟨b,C,rfl,zAl g d.size,?_,λz D y=>?_⟩;rcases hB with a |⟨a,k,l,e⟩;exact .inl a;exact .inr ⟨a.step d g,k,l,c.trans e⟩
 .obtain ⟨o,A,p,r,s,t,u,v⟩:=x z D y;exact ⟨o,A,p,(zDd c).trans r,(zDd c).trans s,(zDd c).trans t,(zDd c).trans u,v.step d⟩
structure AnsK (H:Nat->Prop) (w w':World) (B gs:Nat) (own:Nat->Nat):Prop where
 keep:Keep H w w'
 low:∀b,H b->B<=b
 ap:∀b,H b->Ap own gs b
 ty:∀b,H b->∃cs fr,w.heap[b]?=some (.cells cs 29 fr)
def AnsK.same {f} (d:AnsK f w w' B gs own) {b:Nat} {g e j} (c:w.heap[b]?=some (.cells g e j)) (ht:e≠29):w'.heap[b]?=w.heap[b]?:=
 d.keep.block b (lt_of_block c) λi=>by obtain ⟨k,l,a⟩:=d.ty b i;rw [c] at a;injection a with a;injection a with _ a;exact ht a
def ArgZ.bc {o k j f} (c:ArgZ w B own gs k j f) (e:AnsK o w w' B gs own):ArgZ w' B own gs k j f:=by
 have z:=e.keep.size;rcases zBa j with d | d;subst d;have:f= []:=(by simpa using c.1.1);subst this;exact ⟨Rd.nil _ _ _ _,λs=>absurd s oM⟩
 .obtain ⟨a,v,rfl,q,r⟩:=c.1.2 d;have n:w'.heap[a]?=w.heap[a]?:=by
   rcases c.2 d _ rfl with b |⟨b,l,m,g⟩;exact e.keep.block a q λp=>by have:=e.low a p;have A:a < B:=b;omega
   exact e.same g dC
  refine ⟨⟨c.1.1,λ_=>⟨a,v,rfl,by omega,λu x t=>by rw [<-r u x t];exact zDd n⟩⟩,λ_ y i=>?_⟩;injection i with i;subst i;rcases c.2 d _ rfl with b |⟨b,l,m,g⟩;exact .inl b;exact .inr ⟨b,l,m,n.trans g⟩
def StpZ.bc {o f m g} (k:StpZ w B own gs f m g) (d:AnsK o w w' B gs own):StpZ w' B own gs f m g:=by
 refine ⟨k.1,λr=>?_⟩;obtain ⟨a,D,rfl,l,hB,y⟩:=k.2 r;have c:w'.heap[a]?=w.heap[a]?:=by
  rcases hB with b |⟨b,i,j,e⟩;exact d.keep.block a l λq=>by have:=d.low a q;have F:a < B:=b;omega
  exact d.same e dC
 refine ⟨a,D,rfl,zAl l d.keep.size,?_,λA E z=>?_⟩;rcases hB with b |⟨b,i,j,e⟩;exact .inl b;exact .inr ⟨b,i,j,c.trans e⟩
 .obtain ⟨n,C,p,s,t,u,v,x⟩:=y A E z;exact ⟨n,C,p,(zDd c).trans s,(zDd c).trans t,(zDd c).trans u,(zDd c).trans v,x.bc d⟩
def MadeZ.bc {k a d c e f} (b:MadeZ w own gs a d c e f) (j:AnsK k w w' B gs own) (m:a≠29):MadeZ w' own gs a d c e f:=by
 have g:w'.ownsRow 0 a 1 (.slice d c e) c f:=aC b.1.own λo p q i=>(j.same i m).trans i;refine ⟨⟨g,Rd.s g,b.1.cap,b.1.max⟩,λl n=>?_⟩;have:=b.2 l n;exact ⟨zAl this.1 j.keep.size,this.2⟩
def LFS.bc {g} (b:LFS B gs w w1 own own') (c:Keep g w1 w') (i:∀a,g a->w.heap.size<=a/\B<=a):LFS B gs w w' own own':=
 ⟨b.H,⟨c.os.trans b.b.os,c.tape.trans b.b.tape,c.output.trans b.b.output,zAk b.b.size c.size,λa d e=>by
  have j:w'.heap[a]?=w1.heap[a]?:=c.block a (zAl d b.b.size) λf=>by have:=(i a f).1;omega
  unfold Bk;rw [j];exact b.b.block a d e⟩,⟨c.os.trans b.keep.os,c.tape.trans b.keep.tape,c.output.trans b.keep.output,zAk b.keep.size c.size,λa d e=>(c.block a (zAl d b.keep.size) λf=>by have:=(i a f).1;omega).trans (b.keep.block a d e)⟩⟩
def aGM {c:Value} (a:w.grownBy w' c.ownBlock):Keep (λb=>c.ownBlock=some b) w w':=⟨a.os,a.tape,a.output,a.size,λb e f=>a.block b e λd=>f d.symm⟩
def ResZ (w:World) (own:Nat->Nat) (gs:Nat) (c:List Value) (b:Nat) (a:Told):Prop:=
 ∃d f e g,c[b*4]?=some (.int .i64 a.code)/\c[b*4+1]?=some (.int .i64 a.num)/\c[b*4+2]?=some (.slice d a.data.length f)/\c[b*4+3]?=some (.slice e a.places.length g)/\MadeZ w own gs 5 d a.data.length f (a.data.map bv)/\MadeZ w own gs 3 e a.places.length g (a.places.map nv)
def ResZ.step {d a c} (j:ResZ w own gs d a c) (b:LFS B gs w w' own own'):ResZ w' own' gs d a c:=by
 obtain ⟨e,g,f,i,k,l,m,n,o,p⟩:=j;exact ⟨e,g,f,i,k,l,m,n,o.step b dC dC,p.step b dC dC⟩
def ResZ.bc {g d a c} (k:ResZ w own gs d a c) (b:AnsK g w w' B gs own):ResZ w' own gs d a c:=by
 obtain ⟨e,i,f,j,l,m,n,o,p,q⟩:=k;exact ⟨e,i,f,j,l,m,n,o,p.bc b dC,q.bc b dC⟩
def ResZ.more {b i f g} (n:ResZ w own gs b f g):ResZ w own gs (b++i) f g:=by
 obtain ⟨j,l,k,m,o,p,q,r,s⟩:=n;have a:∀(c:Nat) (d:Value),b[c]?=some d->(b++i)[c]?=some d:=λc d e=>by rw [zAn (zAc.1 e).1];exact e
 exact ⟨j,l,k,m,a _ _ o,a _ _ p,a _ _ q,a _ _ r,s⟩
end
def aFn (w:World) (B:Nat) (own:Nat->Nat) (gs aA k:Nat) (g:Nat->List UInt8) (f:Nat->Told) (b:Nat) (i:Ending) (w':World):Prop:=
 ∃c e own' j,i=.returned c/\w'.ownsRow w.heap.size 29 4 c b e/\(∀d,c.ownBlock=some d->Ap own' gs d)/\(∀a,a < b->ResZ w' own' gs e a (f a))/\StAt w' B own' gs j aA k (g b)/\LFS B gs w w' own own'
def aHo {B own gs ac aA N H f a8 o} (aI) {W w} (ad:StAt w B own gs ac aA N (H 0)) (aw:StpZ w B own gs a8 o W) (bl:o<=100000) (aR:∀a g e y w1 i aB j,W[a]?=some g->StAt w1 B e gs y aA N (H a)->LFS B gs w w1 own e->ArgZ w1 B e gs i aB g.D->Calls prog 7 #[gs,.agg #[(g.kind:Int),(g.p:Int),(g.k:Int),.slice i aB j]] w1 (StDone w1 B e gs aA N (H (a+1)) (f a))):
 Calls prog 40 #[.func (Fn.func 7) #[gs] #[],.slice a8 o aI] w (aFn w B own gs aA N H f o):=by
 obtain ⟨b9,bc,aT,b5,b6,b7,b8⟩:=aIM;have bi:B<=w.heap.size:=ad.size;have aH:=aw.1;unfold aFn;go_enter func40,ntmps40;go_wp2_with fail;go_loopw [5,10] (λaD t wr=>∃(a:Nat) (q:List Value) (e:Nat->Nat) (y:Nat),a<=o/\t=.int .i64 a/\wr.ownsRow w.heap.size 29 4 aD a q/\(∀b,aD.ownBlock=some b->Ap e gs b)/\(∀d,d < a->ResZ wr e gs q d (f d))/\StAt wr B e gs y aA N (H a)/\LFS B gs w wr own e) (λ_ t _=>o -(intOf t).toNat)
 case atStart=>exact ⟨0, [],own,ac,by omega,rfl,ki _ _ _ _,λb c=>(by cases c),λd R=>absurd R oM,ad,LFS.refl _ _ _ _⟩
 case round=>
  obtain ⟨a,q,e,y,bj,rfl,T,J,a3,U,C⟩:=hrel;by_cases aW:a < o
  .obtain ⟨g,a4⟩:∃g,W[a]?=some g:=⟨_,zAa (by rw [aH];exact aW)⟩;have b3:=C.size;have ax:=aw.step C;obtain ⟨bd,bm,rfl,bh,_,ag⟩:=ax.2 oM;obtain ⟨O,V,P,a9,aa,ab,aK,ai⟩:=ag a g a4;obtain ⟨a6,a0⟩:=eqx g.kind;obtain ⟨a7,a2⟩:=eqx g.p;obtain ⟨nd,a1⟩:=eqx g.k;have Z:=aR a g e y;rw [a0,a2,a1] at Z;rw [a0] at a9;rw [a2] at aa;rw [a1] at ab;have z:Below wr.heap.size wr (wr.alloc (.cells #[(a6:Int),(a7:Int),(nd:Int),.slice O V P] 32)):=bR.alloc nL _;have aj:=Z (wr.alloc (.cells #[(a6:Int),(a7:Int),(nd:Int),.slice O V P] 32)) O V P a4 (U.G (kb z)) (C.trans (LFS.j B gs e z)) (ai.b z);clear ai ax ag Z a4 a0 a2 a1;go_wp2_with fail;refine aj.mono ?_;rintro x w1 ⟨i,j,l,m,n,aN,rfl,ay,am,E,F,aF,aG⟩;obtain ⟨r,ah⟩:=eqx ((f a).code);obtain ⟨num,au⟩:=eqx ((f a).num);obtain ⟨u,aq⟩:=eqx ((f a).data.length);obtain ⟨v,ar⟩:∃bb,(f a).places.length=bb:=⟨_,rfl⟩;unfold iD;rw [ah,au,aq,ar];have K:=(LFS.j B gs e z).trans am;have aS:gs < (wr.alloc (.cells #[(a6:Int),(a7:Int),(nd:Int),.slice O V P] 32)).heap.size:=zk U.a.lt z.size
   have an:MadeZ w1 n gs 5 i (f a).data.length j ((f a).data.map bv):=⟨⟨cG E.own (zAp _),E.rd,E.cap,E.max⟩,λI Y=>by
    subst Y;have X:=E.own.lt (k:=I.block) rfl;exact ⟨X.2,aF I rfl,by omega⟩⟩
   have ao:MadeZ w1 n gs 3 l (f a).places.length m ((f a).places.map nv):=⟨⟨cG F.own (zAp _),F.rd,F.cap,F.max⟩,λI Y=>by
    subst Y;have X:=F.own.lt (k:=I.block) rfl;exact ⟨X.2,aG I rfl,by omega⟩⟩
   have ae:∀b,u5.ownBlock=some b->Ap n gs b:=λb c=>(J b c).step K (T.lt b c).2;have av:=aC T λb bf c aQ=>K.d aQ (J b c).x (J b c).ne dC dC;have Q:Below w1.heap.size w1 (w1.alloc (.cells #[(r:Int),(num:Int),.slice i u j,.slice l v m] 29)):=bR.alloc nL _;have M:=aP av Q;have L:=LFS.j B gs n Q;have a5:=ay.G (kb Q);have al:=(C.trans K).trans L;have b0:∀d,d < a->ResZ (w1.alloc (.cells #[(r:Int),(num:Int),.slice i u j,.slice l v m] 29)) n gs q d (f d):=λd R=>((a3 d R).step K).step L;have aX:=an.step L dC dC;have aY:=ao.step L dC dC;have b4:=al.size;clear av ay K L am E F aF aG an ao Q aS U T J C a3 z b3 aj a9 aa ab aK;go_wp2_with (at_builtin;refine bE _ rfl (.tmp 14) (.tmp 18) _ rfl w.heap.size 29 b9 bc 4 64 underlying47 aT b5 b6 b7 b8 dC u5 a _ rfl M _ _ 1 1 _ rfl (aKs (kd w1 29 #[(r:Int),(num:Int),.slice i u j,.slice l v m]) rfl) (by simp [Value.oneCell']) zx oM b4 ?_;intro ba aE aZ ak af);have S:=aGM ak
   have A:AnsK (λb=>u5.ownBlock=some b) (w1.alloc (.cells #[(r:Int),(num:Int),.slice i u j,.slice l v m] 29)) aE B gs n:=by
    refine ⟨S,λb c=>?_,ae,λb c=>?_⟩;have:=(M.lt b c).1;omega
    .rcases M.2 with ⟨G,_⟩|⟨bg,be,aJ,aL,_,aM,_⟩
     .have s:u5.ownBlock=some b:=c;rw [G] at s;cases s
     have s:u5.ownBlock=some b:=c;rw [aL] at s;injection s with s;subst s;exact ⟨aJ,_,aM⟩
   have b2:=a5.m S A.ap;have aV:=al.bc S λb c=>⟨(M.lt b c).1,A.low b c⟩;have az:q.length=a*4:=M.1;have aO:∀b,ba.ownBlock=some b->Ap n gs b:=λb c=>by rcases af with x | x;rw [x] at c;exact ae b c;rw [x] at c;injection c with c;subst c;exact ⟨a5.fresh nL,by have:=a5.a.lt;omega⟩
   have b1:∀d,d < a+1->ResZ aE n gs (q++#[Value.int .i64 r,(num:Int),.slice i u j,.slice l v m].toList) d (f d):=λd R=>by
    by_cases x:d=a
    .subst x;have G:∀t,(q++#[Value.int .i64 r,(num:Int),.slice i u j,.slice l v m].toList)[d*4+t]?= [Value.int .i64 r,.int .i64 num,.slice i u j,.slice l v m][t]?:=λt=>by rw [zAo oM,az,zDP]
     refine ⟨i,j,l,m,?_,?_,?_,?_,aX.bc A dC,aY.bc A dC⟩;rw [ah];exact G 0;rw [au];exact G 1;rw [aq];exact G 2;rw [ar];exact G 3
    exact ((b0 d oM).bc A).more
   clear S A az ak af;go_roundw
   case rel=>exact ⟨a+1,_,n,aN,by omega,by go_num,aZ,aO,b1,b2,aV⟩
   case measure=>exact zr
  .have aU:a=o:=oM;subst aU;go_wp2_with fail;go_ret;exact ⟨_,q,e,y,rfl,T,J,a3,U,C⟩
def aJF {B own gs t aA f c} (l) {i e} (m) {k w} (n:StAt w B own gs t aA f (c 0)) (q:StpZ w B own gs i e k) (A:e<=100000) (o:∀d b a g w1 j r s,k[d]?=some b->StAt w1 B a gs g aA f (c d)->LFS B gs w w1 own a->ArgZ w1 B a gs j r b.D->Calls prog 7 #[gs,.agg #[(b.kind:Int),(b.p:Int),(b.k:Int),.slice j r s]] w1 (StDone w1 B a gs aA f (c (d+1)) (l d))):
 Calls prog 14 #[gs,.slice i e m] w (aFn w B own gs aA f c l e):=by
 have ht:=aHo m n q A o;clear n q o;unfold aFn at ht⊢;go_enter func14,ntmps14;go_wp2_with fail;refine ht.mono ?_;rintro F w1 ⟨C,E,a,g,rfl,u,v,x,y,z⟩;go_wp2_with fail;go_ret;exact ⟨C,E,a,g,rfl,u,v,x,y,z⟩
def aH6 (c b aA a n m):(doM c aA a n m b).1.length<=c.length+b.length:=by
 unfold doM;by_cases d:a=1
 .rw [zBx d];split
  .simp
  .split
   .simp
   simp only [zAi,zAj,zAw];omega
 rw [zBw d];by_cases e:a=2
 .rw [zBx e];split
  .simp
  simp only [zAi,zAj,zAw];omega
 rw [zBw e];by_cases i:a=5
 .rw [zBx i];split <;> simp
 rw [zBw i];by_cases f:a=3
 .rw [zBx f];split
  .simp
  simp only [zAi,zAj,zAw];omega
 rw [zBw f];by_cases g:a=4
 .rw [zBx g];simp
 rw [zBw g];by_cases j:a=6
 .rw [zBx j];simp
 rw [zBw j];by_cases k:a=7
 .rw [zBx k];simp
 rw [zBw k];by_cases l:a=8
 .rw [zBx l];simp
 rw [zBw l];simp
def aFI {B e gk:Nat} {own o p q d n w} (k:Bk w e 89 #[gk,o,p,q]) (r:WalkE w B own gk d n):
 ∃a,aMb d a/\Calls prog 73 #[e] w (oU w (shA a 9)):=by
 obtain ⟨C,A,f,_,⟨u,m,c⟩,_⟩:=r;obtain ⟨a,g,i⟩:=c.cn;refine ⟨a,i,?_⟩;have x:=k.cell 0;have y:=f.cell 0;have b:=aDu c.a g;unfold oU at b⊢;obtain ⟨D,l⟩:=eqx ((shA a 9).length);obtain ⟨v,j⟩:=eqx (cF (shA a 9));rw [l,j] at b⊢;clear f c l j k g i;go_enter func73,ntmps73;go_wp2_with fail;refine b.mono ?_;rintro z E ⟨m,rfl,s,t⟩;clear b;go_wp2_with fail;go_ret;exact ⟨m,rfl,s,t⟩
structure ShpOk (s:Shp):Prop where
 len:0 < s.len/\s.len<=1100
 ht:0<=s.T/\s.T<=1000
 least:least s.T<=s.leaves
 leaves:1<=s.leaves/\s.leaves<=1100
 J:s.leaves - 1<=s.len / 128*4+s.len % 128*4 / 128
 nodes:s.nodes=2*s.leaves - 1
def Tr.Ok.shape {a:Tr} (b:a.Ok) (j:a.bits.length<=1100):ShpOk (shT a):=by
 have d:=b.pos;have e:=Tr.ht_lv a;have f:=Tr.as b.de;have g:=Tr.lv_pos a;have i:a.lv=1∨a.lv*32<=a.bits.length:=by
  cases a with
  | lf c=>exact .inl rfl
  | nd k l=>exact .inr (Tr.full_lv b.2)
 refine ⟨⟨?_,?_⟩,⟨?_,?_⟩,?_,⟨?_,?_⟩,?_,rfl⟩<;> unfold shT <;> simp only;omega;omega;omega;omega;unfold Go.Proofs.YtlghmcogeipojaaGreatDoor.least;rw [zBw oM];have:=oF (min (a.ht:Int).toNat 45) a.ht oM;omega;omega;omega;omega
def tS (w:World) (e:Nat) (i:Ending) (w':World):Prop:=∃d g a b,i=.returned (.slice d b g)/\a.length=b/\b<=1000/\Rd w' w'.heap.size 4 d b (cF a)/\(∃c f,a=c::f/\c.len=((e+1:Nat):Int))/\(∀c∈a,ShpOk c)/\16*(eF a).nodes<=9*((e+1:Nat):Int)+8176/\Below w.heap.size w w'
def TxM.ch {w B i gk s J a own G b p f H} (c:TxM w B own i gk s J G (aG b) p a f H) (A:b.length=a) (L:a<=900):
 Calls prog 73 #[i] w (tS w a):=by
 obtain ⟨q,d,E⟩:=aFI c.live.a c.live.walk;refine E.mono ?_;rintro g w' ⟨O,rfl,k,D⟩;have z:∀m∈aH (aG b) f,m < 257:=dR (eX b);have e:(aH (aG b) f).length=a+1:=by rw [bY,c.aa.len,aO,A]
 obtain ⟨N,o,C,l⟩:=aKp d z (λg=>by rw [g] at e;simp at e);have j:=aIB d;rw [e] at j l;obtain ⟨n,r,rfl,M⟩:=aR k;refine ⟨n,r,_,_,rfl,rfl,by have:=aMF q;omega,Rd.s k,⟨_,o,C,by unfold shT;simp only;rw [l]⟩,λm F=>?_,j,D⟩;obtain ⟨lv,I,K,t,u,v,rfl⟩:=aME F;obtain ⟨x,y⟩:=(d lv I t u).2 K v;exact x.shape y
def aER:(cU 15).1=1597:=dC
def aGx {b:Nat} (r:b<=14) (w):Calls prog 133 #[(b:Int)] w λl w'=>l=.returned (.int .i64 (cU b).1)/\w=w':=by
 have o:¬(b:Int) < 0:=oM;go_enter func133,ntmps133;go_wp2;go_loopw [3,4,5] (λg i d wr=>∃a:Nat,a<=b/\d=.int .i64 a/\g=.int .i64 (cU a).1/\i=.int .i64 (cU a).2/\wr=w) (λ_ _ d _=>b -(intOf d).toNat)
 case atStart=>exact ⟨0,zAp _,rfl,rfl,rfl,rfl⟩
 case round=>
  obtain ⟨a,p,rfl,rfl,rfl,rfl⟩:=hrel;have b1:=(aAq a).1;have b2:=(aAq a).2.1;have j:(cU a).2<=1597:=by have:=oF (a+1) 15 oM;rw [aER] at this;exact this
  have c:cU (a+1)=((cU a).2,min ((cU a).1+(cU a).2) 2147483648):=rfl;obtain ⟨m,e⟩:=eqx ((cU a).1);obtain ⟨s,f⟩:=eqx ((cU a).2);rw [e] at b1 b2 c⊢;rw [f] at b2 j c⊢;have n:=zy (m < 2147483648);clear f;by_cases q:a < b
  .have k:=zy ((a:Int) < b);go_wp2;go_roundw
   case rel=>exact ⟨a+1,by omega,by go_num,by rw [c],by rw [c];exact cS (by simp only;first | omega |(rw [wI0];omega)),by first | rfl | trivial⟩
   case measure=>exact zr
  .obtain rfl:a=b:=oM;have k:=zn ((a:Int) < a);go_wp2;go_ret;exact ⟨fM (by rw [e];omega),rfl⟩
def aGp (a w) (c:0<=a) (d:a<=1099511627776):
 Calls prog 134 #[(a:Int)] w λb w'=>b=.returned (.int .i64 (a / 128*4+a % 128*4 / 128))/\w=w':=by
 go_enter func134,ntmps134;go_wp2;go_ret;exact ⟨rfl,rfl⟩
def aKN {b a c} (w) (e:0 < b) (s:b<=1100) (j:c<=14) (d:(cU c).1<=a) (f:1<=a) (t:a<=1100) (g:a - 1<=b / 128*4+b % 128*4 / 128):
 Calls prog 74 #[.agg #[(b:Int),(c:Int),(a:Int),(2*a - 1:Int)]] w λr w'=>r=.returned (.bool true)/\Below w.heap.size w w':=by
 have u:(b==0)=false:=by rw [zCb];omega
 have v:=zBz e;have x:=zBz e;have y:=zy ((c:Int)>=0);have z:=zy ((0:Int)<=c);obtain ⟨i,m⟩:=eqx ((cU c).1);obtain ⟨q,l⟩:=eqx (b / 128*4+b % 128*4 / 128);obtain ⟨p,k⟩:=eqx (2*a - 1);have n:=aGx j;have o:=λw=>aGp b w oM oM;rw [m] at d n;rw [l] at g o;rw [k];have A:=zBz d;have C:=zBz d;have D:=zBz f;have E:=zBz f;have F:=zBz g;have G:IntKind.i64.wrap (a - 1)=a - 1:=zu
 have H:IntKind.i64.wrap (2*a)=2*a:=zu
 have I:IntKind.i64.wrap (2*a - 1)=p:=zu
 clear m l k d g e s j f t;go_enter func74,ntmps74;go_wp2_with fail
 go_quiet (first
  |(go_at_call 133;exact tB (n _))
  |(go_at_call 134;exact tB (o _)))
 go_wp2;go_ret;exact ⟨rfl,km (bR.alloc nL _) _⟩
def ShpOk.may {d:Shp} (a:ShpOk d) (w):Calls prog 74 #[.agg #[(d.len:Int),(d.T:Int),(d.leaves:Int),(d.nodes:Int)]] w λe w'=>e=.returned (.bool true)/\Below w.heap.size w w':=by
 obtain ⟨b,i⟩:=zDB a.ht.1;have c:=a.least;have f:=a.leaves;rw [i] at c⊢;unfold Go.Proofs.YtlghmcogeipojaaGreatDoor.least at c;rw [zBw oM] at c;have e:(Int.ofNat b).toNat=b:=rfl;have g:b<=14:=Nat.le_of_not_lt λj=>by have:=oF 15 (min ((b:Int)).toNat 45) oM;rw [aER] at this;omega
 rw [show min ((b:Int)).toNat 45=b by omega] at c;rw [a.nodes];exact aKN w a.len.1 a.len.2 g c f.1 f.2 a.J
def aJy {u d} (L) {c v} (K) {B w} (q:Rd w B 4 u d (cF c)) (hB:B<=w.heap.size) (W:d<=65536) (t:Shp) (F:c=t::K) (M:t.len=v) (R:∀b∈c,ShpOk b):
 Calls prog 37 #[.slice u d L,(v:Int)] w λA w'=>A=.returned (.bool true)/\Below w.heap.size w w':=by
 have G:c.length=d:=by have:=q.1;rw [uB] at this;omega
 have H:0 < d:=by rw [<-G,F];simp
 obtain ⟨e,l,rfl,i,j⟩:=(q.mono hB).2 H;have E:∀a b,c[a]?=some b->∀w',Below w.heap.size w w'->w'.cell? ⟨e,l+a*4,none⟩=some (.int .i64 b.len)/\w'.cell? ⟨e,l+a*4+1,none⟩=some (.int .i64 b.T)/\w'.cell? ⟨e,l+a*4+2,none⟩=some (.int .i64 b.leaves)/\w'.cell? ⟨e,l+a*4+3,none⟩=some (.int .i64 b.nodes):=λa b k w' m=>
  ⟨(m.cell i).trans (j (a*4+0) _ ((eK c a 0 b k oM).trans rfl)),(m.cell i).trans (j (a*4+1) _ ((eK c a 1 b k oM).trans rfl)),(m.cell i).trans (j (a*4+2) _ ((eK c a 2 b k oM).trans rfl)),(m.cell i).trans (j (a*4+3) _ ((eK c a 3 b k oM).trans rfl))⟩
 clear q j;go_enter func37,ntmps37;go_wp2_with fail;go_loopw [5] (λs wr=>∃a:Nat,a<=d/\s=.int .i64 a/\Below w.heap.size w wr) (λs _=>d -(intOf s).toNat)
 case atStart=>exact ⟨0,zAp _,rfl,kg _ _⟩
 case round=>
  obtain ⟨a,k,rfl,g⟩:=hrel;have S:=g.size;by_cases P:a < d
  .obtain ⟨b,r⟩:∃b,c[a]?=some b:=⟨_,zAa (by rw [G];exact P)⟩;obtain ⟨f,x,y,z⟩:=E a b r wr g;have p:=R b (zAd r);have Q:=p.len.1;have I:=p.may;have C:=zn (b.len < 1);obtain ⟨T,X,Y,Z⟩:=b;simp only at f x y z I C Q;have D:∀n,Below wr.heap.size wr n->n.cell? ⟨e,l+a*4,none⟩=some (.int .i64 T):=λn N=>(N.cell (by have:e < w.heap.size:=i;show e < wr.heap.size;omega)).trans f;clear r p;go_wp2_with fail;refine (I wr).mono ?_;rintro A w1 ⟨rfl,o⟩;have U:=D w1 o;have J:=(g.trans (o.mono S));clear o D g f x y z;go_wp2_with fail;go_roundw
   case rel=>exact ⟨a+1,by omega,by go_num,J⟩
   case measure=>exact zr
  .have O:a=d:=oM;subst O;have f:=(E 0 t (by rw [F];rfl) wr g).1;rw [M] at f;simp only [zFH,zBq] at f;have C:=zy ((a:Int) > 0);have V:=zBz H;go_wp2_with fail;go_ret;exact ⟨by first | rfl | simp,g⟩
section
variable {w w' : World} {B g : Nat} {own : Nat -> Nat} {cs0 : Array Value}
def WaveE.ax {i f} (a:WaveE w B own i f) (k:Keep (λb=>b=g) w w') (d:Bk w g 29 cs0):WaveE w' B own i f:=by
 obtain ⟨m,v,a⟩:=a;refine ⟨m,v,k.d a.a (Bk.ne a.a d dC),a.base,λlv z=>?_,λb d=>⟨(a.q b d).1,zAl (a.q b d).2 k.size⟩⟩;obtain ⟨l,q,s,u⟩:=a.rows lv z;exact ⟨l,aC q λb cs _ e=>k.d e (Bk.ne e d dC),s,λD C=>(u D C).keep k λb t cs j e _ o=>by
  have p:b=g:=o;subst p;rw [(aU e d).1] at j;exact absurd j dC⟩
def WalkE.ax {gk d T} (j:WalkE w B own gk d T) (k:Keep (λb=>b=g) w w') (a:Bk w g 29 cs0):WalkE w' B own gk d T:=by
 obtain ⟨i,gt,e,l,m,f,o⟩:=j;exact ⟨i,gt,k.d e (Bk.ne e a dC),l,m.ax k a,k.d f (Bk.ne f a dC),o⟩
def PermE.ax {f gp i P j} (q:PermE w f gp i P j) (k:Keep (λb=>b=g) w w') (e:Bk w g 29 cs0):PermE w' f gp i P j:=by
 obtain ⟨⟨p,E,F,G,D,z,l,C,o,hx,m⟩,s,u⟩:=q;have a:=hx.at_;exact ⟨⟨p,E,F,G,D,z,l,C,o,⟨⟨k.d a.a (Bk.ne a.a e dC),aC a.u λb cs _ d=>k.d d (Bk.ne d e dC),aC a.t λb cs _ d=>k.d d (Bk.ne d e dC),k.d a.V (Bk.ne a.V e dC),aC a.F λb cs _ d=>k.d d (Bk.ne d e dC),aC a.M λb cs _ d=>k.d d (Bk.ne d e dC),a.apart,a.lt,a.lo⟩,hx.fp,hx.fa,hx.fl,hx.fo,hx.ft,hx.ff,hx.nd,hx.an,hx.tkk,hx.a8,hx.am,hx.sz⟩,m⟩,s,u⟩
def LiveE.ax {gl rate t} (e:LiveE w B own gl t rate) (k:Keep (λb=>b=g) w w') (d:Bk w g 29 cs0):LiveE w' B own gl t rate:=by
 obtain ⟨gk,gp,m,T,p,o,⟨f,a,i,j⟩,l⟩:=e;exact ⟨gk,gp,m,T,p,o,⟨f,⟨k.d a.a (Bk.ne a.a d dC),a.x,a.walk.ax k d,a.perm.ax k d⟩,i,j⟩,l⟩
def StAt.ax {gs gl aA rate t} (a:StAt w B own gs gl aA rate t) (k:Keep (λb=>b=g) w w') (d:Bk w g 29 cs0):StAt w' B own gs gl aA rate t:=
 ⟨k.d a.a (Bk.ne a.a d dC),a.low,a.x,a.live.ax k d,a.n127,a.len,a.max,a.r1,a.r2⟩
end
section
variable {w w' : World} {B gs gs1 gs2 gl1 gl2 aA rate : Nat} {own own' own1 own2 own2' : Nat -> Nat} {T T2 : List UInt8} {r : Told} {v : Value}
def DoS (B gs:Nat) (own:Nat->Nat) (aA rate:Nat) (T2:List UInt8) (w w':World):Prop:=∃own' a,StAt w' B own' gs a aA rate T2/\LFS B gs w w' own own'
def ResD (w:World) (own:Nat->Nat) (gs:Nat) (r:Told) (v:Value):Prop:=∃A1 c1 A2 c2,v=.agg (iD r A1 c1 A2 c2)/\MadeZ w own gs 5 A1 r.data.length c1 (r.data.map bv)/\MadeZ w own gs 3 A2 r.places.length c2 (r.places.map nv)
def MadeZ.b7 {a A n c xs} (d:MadeZ w own gs a A n c xs) (k:LFS B gs w w' own own') (i:a≠223) (j:a≠181):MadeZ w' own gs a A n c xs:=⟨(d.step k i j).1,λe f=>⟨zAl (d.2 e f).1 k.size,(d.2 e f).2⟩⟩
def ResD.step (a:ResD w own gs r v) (k:LFS B gs w w' own own'):ResD w' own gs r v:=by
 obtain ⟨A1,c1,A2,c2,rfl,d,e⟩:=a;exact ⟨A1,c1,A2,c2,rfl,d.b7 k dC dC,e.b7 k dC dC⟩
def ResD.below (a:ResD w own gs r v) (k:Below w.heap.size w w'):ResD w' own gs r v:=a.step (LFS.j 0 gs own k)
def OneDone (w:World) (B gs1 gs2:Nat) (own2:Nat->Nat) (aA rate:Nat) (T2:List UInt8) (r:Told) (v:Value):Prop:=∃a d,StAt w B a gs1 d aA rate T2/\Two a gs1 own2 gs2/\ResD w own2 gs2 r v
def BothDone (w:World) (B gs1 gs2 aA rate:Nat) (T2:List UInt8) (r:Told) (v:Value):Prop:=∃a d own2' e,StAt w B a gs1 d aA rate T2/\StAt w B own2' gs2 e aA rate T2/\Two a gs1 own2' gs2/\∃A1 c1 A2 c2,v=.agg (iD r A1 c1 A2 c2)/\Made w 0 5 1 A1 r.data.length c1 (r.data.map bv)/\Made w 0 3 1 A2 r.places.length c2 (r.places.map nv)
def OneDone.below (d:OneDone w B gs1 gs2 own2 aA rate T2 r v) (k:Below w.heap.size w w'):OneDone w' B gs1 gs2 own2 aA rate T2 r v:=by
 obtain ⟨j,a,e,f,i⟩:=d;exact ⟨j,a,e.G (kb k),f,i.below k⟩
def BothDone.below (e:BothDone w B gs1 gs2 aA rate T2 r v) (k:Below w.heap.size w w'):BothDone w' B gs1 gs2 aA rate T2 r v:=by
 obtain ⟨o,a,own2',d,f,i,j,A1,c1,A2,c2,rfl,l,m⟩:=e;exact ⟨o,a,own2',d,f.G (kb k),i.G (kb k),j,A1,c1,A2,c2,rfl,l.below k,m.below k⟩
def aPk (d e B gs1 gs2:Nat) (own1 own2:Nat->Nat) (aA rate:Nat) (T2:List UInt8) (a:Nat) (w w':World):Prop:=(a=d->DoS B gs1 own1 aA rate T2 w w')/\(a=e->DoS B gs2 own2 aA rate T2 w w')/\(a≠d->a≠e->Below w.heap.size w w')
def DuoC (a:World) (B gt:Nat) (cs:Array Value) (w:World):Prop:=Bk w gt 32 cs/\Below B a w/\B<=w.heap.size
def DuoU (d e B gs1 gl1 gs2 gl2:Nat) (own1 own2:Nat->Nat) (aA rate:Nat) (T:List UInt8) (a:Nat) (w:World):Prop:=(a=d->StAt w B own1 gs1 gl1 aA rate T/\StAt w B own2 gs2 gl2 aA rate T)/\(a=e->StAt w B own2 gs2 gl2 aA rate T)
def DuoC.step {l gt j p q cs} (u:DuoC l B gt cs w) (k:aPk p q B gs1 gs2 own1 own2 aA rate T2 j w w') (m:Ap own1 gs1 gt) (o:Ap own2 gs2 gt):DuoC l B gt cs w':=by
 obtain ⟨e,f,d⟩:=u;by_cases c1:j=p;obtain ⟨own',s,_,a⟩:=k.1 c1;exact ⟨a.d e m.x m.ne dC dC,f.trans (a.below d),zAk d a.size⟩;by_cases c2:j=q;obtain ⟨own',s,_,a⟩:=k.2.1 c2;exact ⟨a.d e o.x o.ne dC dC,f.trans (a.below d),zAk d a.size⟩;have i:=k.2.2 c1 c2;exact ⟨e.below i e.lt,f.trans (i.mono d),zAk d i.size⟩
def dD (w B):Below B w w.drew:=⟨rfl,rfl,rfl,zAs _,λ_ _=>rfl⟩
def DuoC.drew {d gt cs} (a:DuoC d B gt cs w):DuoC d B gt cs w.drew:=⟨a.1,a.2.1.trans (dD w B),a.2.2⟩
def DuoU.drew {e f i} (d:DuoU f i B gs1 gl1 gs2 gl2 own1 own2 aA rate T e w):DuoU f i B gs1 gl1 gs2 gl2 own1 own2 aA rate T e w.drew:=⟨λa=>⟨(d.1 a).1.G (kb (dD _ _)),(d.1 a).2.G (kb (dD _ _))⟩,λa=>(d.2 a).G (kb (dD _ _))⟩
def DuoU.step {j e f i} (l:DuoU f i B gs1 gl1 gs2 gl2 own1 own2 aA rate T j w) (k:aPk f i B gs1 gs2 own1 own2 aA rate T2 e w w') (ht:Two own1 gs1 own2 gs2) (s:j≠e) (o:e≠i):DuoU f i B gs1 gl1 gs2 gl2 own1 own2 aA rate T j w':=by
 refine ⟨λa=>?_,λa=>?_⟩;have m:=k.2.2 (λp=>s (a.trans p.symm)) o;obtain ⟨q,d⟩:=l.1 a;exact ⟨q.G (kb m),d.G (kb m)⟩;have d:=l.2 a;by_cases c1:e=f;obtain ⟨own',z,_,u⟩:=k.1 c1;exact (d.other u ht).1;exact d.G (kb (k.2.2 c1 o))
end
def aH3 {d a k} (f:¬dK d a k=false):0<=a/\0<=k/\a+k<=(d:Int):=by
 cases e:dK d a k with
 | false=>exact absurd e f
 | true=>
  obtain ⟨i,b,rfl,rfl,j⟩:=dT e;omega
def aEZ (T s) (aA:Nat) (d u k:Int) (a:T.length<=aA):(doM T (aA:Int) d u k s).1.length<=aA:=by
 unfold doM;by_cases f:d=1
 .rw [zBx f];split;exact a
  .split;exact a
   .rename_i e z
    have:=aH3 e;simp only [zAi,zAj,zAw];omega
 rw [zBw f];by_cases i:d=2;rw [zBx i];split;exact a;simp only [zAi,zAj,zAw];omega;rw [zBw i];by_cases m:d=5
 .rw [zBx m];split <;> exact a
 rw [zBw m];by_cases j:d=3
 .rw [zBx j];split;exact a
  .rename_i e
   have:=aH3 e;simp only [zAi,zAj,zAw];omega
 rw [zBw j];by_cases l:d=4;rw [zBx l];exact a;rw [zBw l];by_cases o:d=6;rw [zBx o];exact a;rw [zBw o];by_cases p:d=7;rw [zBx p];exact a;rw [zBw p];by_cases q:d=8;rw [zBx q];exact a;rw [zBw q];exact a
section
variable {w w' : World} {v : Value}
def fresh (N0:Nat) (t:TypeId) (cs:Array Value):Value->World->Prop:=λv w=>∃g,v=.pointer (some ⟨g,0,none⟩)/\N0<=g/\Bk w g t cs
def aPn:Array Value:=#[.int .i64 0,.int .i64 0,.slice none 0 0,.slice none 0 0]
variable {B gs gl gx gt N0 aA rate : Nat} {own own' : Nat -> Nat} {T T2 : List UInt8} {r : Told}
def MdX (w:World) (gx aA:Nat) (T:List UInt8):Prop:=Bk w gx 35 #[.string ⟨T.toArray⟩,(aA:Int)]
def PyA (B gs gx N0 aA rate:Nat) (T2:List UInt8) (r:Told) (v:Value) (w:World):Prop:=∃own1 gl1,StAt w B own1 gs gl1 aA rate T2/\Ap own1 gs gx/\∃A1 c1 A2 c2,v=.agg (iD r A1 c1 A2 c2)/\Made w N0 5 1 A1 r.data.length c1 (r.data.map bv)/\Made w N0 3 1 A2 r.places.length c2 (r.places.map nv)
def PyA.below (a:PyA B gs gx N0 aA rate T2 r v w) (k:Below w.heap.size w w'):PyA B gs gx N0 aA rate T2 r v w':=by
 obtain ⟨own1,gl1,d,e,A1,c1,A2,c2,f,i,j⟩:=a;exact ⟨own1,gl1,d.G (kb k),e,A1,c1,A2,c2,f,i.below k,j.below k⟩
def PyA.keep (f:PyA B gs gx N0 aA rate T2 r v w) (k:Keep (λb=>b=gx) w w') (hx:gx < N0):PyA B gs gx N0 aA rate T2 r v w':=by
 obtain ⟨own1,gl1,i,e,A1,c1,A2,c2,j,l,m⟩:=f;exact ⟨own1,gl1,i.m k (λb a=>by have d:b=gx:=a;rw [d];exact e),e,A1,c1,A2,c2,j,l.o k (λb a=>by have d:b=gx:=a;omega),m.o k (λb a=>by have d:b=gx:=a;omega)⟩
def PyB (gx N0 aA:Nat) (T2:List UInt8) (r:Told) (v:Value) (w:World):Prop:=∃A1 c1 A2 c2,v=.agg (iD r A1 c1 A2 c2)/\RdN w N0 1 A1 r.data.length (r.data.map bv)/\Made w N0 3 1 A2 r.places.length c2 (r.places.map nv)/\MdX w gx aA T2
def PyB.below (d:PyB gx N0 aA T2 r v w) (k:Below w.heap.size w w'):PyB gx N0 aA T2 r v w':=by
 obtain ⟨A1,c1,A2,c2,e,f,i,a⟩:=d;exact ⟨A1,c1,A2,c2,e,f.below k,i.below k,kf a k (Bk.lt a)⟩
def PyS (d e B gs gx:Nat) (own:Nat->Nat) (aA rate:Nat) (T2:List UInt8) (a:Nat) (w w':World):Prop:=(a=d->DoS B gs own aA rate T2 w w')/\(a=e->Keep (λb=>b=gx) w w'/\MdX w' gx aA T2)/\(a≠d->a≠e->Below w.heap.size w w')
def PyC (a:World) (B gx gt N0 aA:Nat) (cs:Array Value) (w:World):Prop:=Bk w gt 32 cs/\Below B a w/\B<=w.heap.size/\N0<=w.heap.size/\∃d,MdX w gx aA d
def PyU (d e B gs gl gx:Nat) (own:Nat->Nat) (aA rate:Nat) (T:List UInt8) (a:Nat) (w:World):Prop:=(a=d->StAt w B own gs gl aA rate T)/\(a=e->MdX w gx aA T)
def PyC.step {q p C D cs} (E:PyC q B gx gt N0 aA cs w) (k:PyS C D B gs gx own aA rate T2 p w w') (u:Ap own gs gt) (z:Ap own gs gx) (G:gt≠gx) (J:B<=gx):PyC q B gx gt N0 aA cs w':=by
 obtain ⟨f,l,a,m,s,o⟩:=E;by_cases c1:p=C;obtain ⟨own',I,_,e⟩:=k.1 c1;exact ⟨e.d f u.x u.ne dC dC,l.trans (e.below a),zAk a e.size,zAk m e.size,s,e.d o z.x z.ne dC dC⟩;by_cases c2:p=D;obtain ⟨i,F⟩:=k.2.1 c2;exact ⟨i.d f (λj=>G j),l.trans (i.e a λb d j=>by have H:b=gx:=j;omega),zAk a i.size,zAk m i.size,T2,F⟩;have d:=k.2.2 c1 c2;exact ⟨f.below d f.lt,l.trans (d.mono a),zAk a d.size,zAk m d.size,s,kf o d (Bk.lt o)⟩
def PyC.drew {d cs} (a:PyC d B gx gt N0 aA cs w):PyC d B gx gt N0 aA cs w.drew:=⟨a.1,a.2.1.trans (dD w B),a.2.2.1,a.2.2.2.1,a.2.2.2.2⟩
def PyU.drew {e f i} (d:PyU f i B gs gl gx own aA rate T e w):PyU f i B gs gl gx own aA rate T e w.drew:=⟨λa=>(d.1 a).G (kb (dD _ _)),λa=>d.2 a⟩
def PyU.step {f i d j} (e:PyU d j B gs gl gx own aA rate T f w) (k:PyS d j B gs gx own aA rate T2 i w w') (m:Ap own gs gx) (o:f≠i) (p:f=d->i≠j):PyU d j B gs gl gx own aA rate T f w':=by
 refine ⟨λa=>?_,λa=>?_⟩;exact (e.1 a).G (kb (k.2.2 (λl=>o (a.trans l.symm)) (p a)));by_cases c1:i=d;obtain ⟨own',u,_,s⟩:=k.1 c1;exact s.d (e.2 a) m.x m.ne dC dC;have q:=k.2.2 c1 (λl=>o (a.trans l.symm));exact kf (e.2 a) q (Bk.lt (e.2 a))
end
def aPj (cs:Array Value):Prop:=∀(a:Nat) (c:UInt8),cs[a]?≠some (bv c)
def aK5 (x y A1 A2 n1 c1 n2 c2):aPj #[(x:Int),(y:Int),.slice A1 n1 c1,.slice A2 n2 c2]:=by
 intro a c;rcases a with _ | _ | _ | _ | a <;> simp [bv]
section
variable {w w' : World} {g : Nat} {t : TypeId} {cs : Array Value} (hx : Bk w g t cs) (k : Keep (λb => b = g) w w')
include hx k
def aPc {B n:Nat} {A:Option Addr} {T:List UInt8} (m:aPj cs) (d:Rd w B 1 A n (T.map bv)) (hB:B<=w.heap.size):Rd w' w'.heap.size 1 A n (T.map bv):=Rd.o d k hB λp s l a=>by
 obtain ⟨b,q,e,u,j⟩:=d.2 p;rw [l] at e;cases e;have a:b=g:=a;subst a;have o:(T.map bv).length=n:=by have:=d.1;omega
 have i:0 < T.length:=by simp at o;omega
 have f:=j 0 (bv (T[0]'i)) (by rw [zAf,zAa i];rfl);rw [zBq,hx.cell q] at f;exact m _ _ f
def aM7 {B sz n c a A xs} (i:a≠t) (d:Made w B a sz A n c xs):Made w' B a sz A n c xs:=by
 have f:w'.ownsRow B a sz (.slice A n c) n xs:=aC d.own λb j _ e=>k.d e (Bk.ne e hx i);exact ⟨f,Rd.s f,d.cap,d.max⟩
end
def nW (w:World) (g:Nat) (a num:Int) (d e:Value):World:=(((w.setCell g (.int .i64 a)).setCell ⟨g,1,none⟩ (.int .i64 num)).setCell ⟨g,2,none⟩ d).setCell ⟨g,3,none⟩ e
def iH (w g a num d e):Keep (λb=>b=g) w (nW w g a num d e):=
 ((((ke (λb=>b=g) w).setCell (p:=g) (.inl rfl) _).setCell (p:=⟨g,1,none⟩) (.inl rfl) _).setCell (p:=⟨g,2,none⟩) (.inl rfl) _).setCell (p:=⟨g,3,none⟩) (.inl rfl) _
def aB9 {w g i j l m} (f:Bk w g 29 #[i,j,l,m]) (a num d e):Bk (nW w g a num d e) g 29 #[(a:Int),(num:Int),d,e]:=by
 have:=(((f.set 0 (.int .i64 a)).set 1 (.int .i64 num)).set 2 d).set 3 e;simpa [nW] using this
def ResC (w:World) (g:Nat):Prop:=∃(x y:Int) (A1:Option Addr) (n1 c1:Nat) (A2:Option Addr) (n2 c2:Nat),Bk w g 29 #[(x:Int),(y:Int),.slice A1 n1 c1,.slice A2 n2 c2]
def ResX (w:World) (g:Nat) (r:Told):Prop:=∃A1 c1 A2 c2,Bk w g 29 (iD r A1 c1 A2 c2)/\Rd w w.heap.size 1 A1 r.data.length (r.data.map bv)/\Made w 0 3 1 A2 r.places.length c2 (r.places.map nv)
section
variable {w : World} {g g' : Nat} {r : Told} {A1 A2 : Option Addr} {x y : Int} {n1 c1 n2 c2 : Nat}
def ResC.of (a:Bk w g 29 aPn):ResC w g:=⟨_,_,_,_,_,_,_,_,a⟩
def ResC.be {e} (a:ResC w g) (d:ResC w g') (j:nW w g' x y (.slice A1 n1 c1) (.slice A2 n2 c2)=e):ResC e g:=by
 subst j;obtain ⟨_,_,_,_,_,_,_,_,d⟩:=d;by_cases f:g=g';subst f;exact ⟨_,_,_,_,_,_,_,_,aB9 d _ _ _ _⟩;obtain ⟨_,_,_,_,_,_,_,_,a⟩:=a;exact ⟨_,_,_,_,_,_,_,_,(iH w g' _ _ _ _).d a (λi=>f i)⟩
def StAt.be {d B gs gl aA rate own T} (e:StAt w B own gs gl aA rate T) (a:ResC w g') (f:nW w g' x y (.slice A1 n1 c1) (.slice A2 n2 c2)=d):StAt d B own gs gl aA rate T:=by
 subst f;obtain ⟨_,_,_,_,_,_,_,_,a⟩:=a;exact e.ax (iH w g' _ _ _ _) a
def MdX.be {d gx aA T} (e:MdX w gx aA T) (a:ResC w g') (f:nW w g' x y (.slice A1 n1 c1) (.slice A2 n2 c2)=d):MdX d gx aA T:=by
 subst f;obtain ⟨_,_,_,_,_,_,_,_,a⟩:=a;exact (iH w g' _ _ _ _).d e (Bk.ne e a dC)
def RowR (w:World) (A1 A2:Option Addr) (c2:Nat) (r:Told):Prop:=Rd w w.heap.size 1 A1 r.data.length (r.data.map bv)/\Made w 0 3 1 A2 r.places.length c2 (r.places.map nv)
def RowR.be {d A3 A4 c4 q} (e:RowR w A3 A4 c4 q) (a:ResC w g') (f:nW w g' x y (.slice A1 n1 c1) (.slice A2 n2 c2)=d):RowR d A3 A4 c4 q:=by
 subst f;obtain ⟨_,_,_,_,_,_,_,_,a⟩:=a;exact ⟨aPc a (iH w g' _ _ _ _) (aK5 _ _ _ _ _ _ _ _) e.1 nL,aM7 a (iH w g' _ _ _ _) dC e.2⟩
def ResX.new {a} (d:ResC w g) (i:RowR w A1 A2 c2 r) (f:nW w g r.code r.num (.slice A1 r.data.length c1) (.slice A2 r.places.length c2)=a):ResX a g r:=by
 have e:=i.be d f;subst f;obtain ⟨_,_,_,_,_,_,_,_,j⟩:=d;exact ⟨A1,c1,A2,c2,aB9 j _ _ _ _,e.1,e.2⟩
def ResX.be {i} (s:ResX w g r) (l:ResC w g') (u:RowR w A1 A2 c2 r) (f:nW w g' r.code r.num (.slice A1 r.data.length c1) (.slice A2 r.places.length c2)=i):ResX i g r:=by
 by_cases j:g=g';subst j;exact ResX.new l u f;obtain ⟨a,o,d,e,z,C,D⟩:=s;have m:=RowR.be (A3:=a) (A4:=d) (c4:=e) (q:=r) ⟨C,D⟩ l f;subst f;exact ⟨a,o,d,e,(iH w g' _ _ _ _).d z (λp=>j p),m.1,m.2⟩
end
def nM (aA rate:Nat) (w) (o:aA<=2147483648) (i:1<=rate) (j:rate<=64):
 Calls prog 6 #[(aA:Int),(rate:Int)] w λf w'=>∃gs gl own,f=.returned (.tuple #[.pointer (some ⟨gs,0,none⟩),o0])/\StAt w' w.heap.size own gs gl aA rate []/\Below w.heap.size w w':=by
 have l:=vO (A0:=none) (m0:=0) (B:=w.heap.size) (ss:=[]) (t:=[]) (N:=0) (w:=w) rate 0 rfl rfl (Rd.nil _ _ _ _) (λC p=>by cases p) nL oM oM i j;have n1:¬((aA:Int) < 0):=oM;have n2:¬((aA:Int) > 2147483648):=oM;have z:=zBy n2;go_enter func6,ntmps6;go_wp2_with fail;refine l.mono ?_;rintro f w1 ⟨gl,own,rfl,u,e,a⟩;have d:Below w1.heap.size w1 (w1.alloc (.cells #[.pointer (some ⟨gl,0,none⟩),(aA:Int)] 53)):=bR.alloc nL _;have q:StAt (w1.alloc (.cells #[.pointer (some ⟨gl,0,none⟩),(aA:Int)] 53)) w.heap.size own w1.heap.size gl aA rate []:=
  ⟨kd _ _ _,a.size,zFi λs=>by have:=(e.q w1.heap.size oM).2;omega,e.b (kb d),by simp,by simp,o,i,j⟩
 have m:=(a.trans (d.mono a.size));clear d a e l;go_wp2_with fail;go_ret2;exact ⟨_,gl,own,rfl,q,m⟩
def yL (t:List UInt8) (n:Nat) (w:World) (f:Ending) (w':World):Prop:=∃a d e,f=.returned (.slice a (n+1) d)/\IsSuf (aG t) e/\Made w' w.heap.size 3 1 a (n+1) d ((aH (aG t) e).map sv)/\Below w.heap.size w w'
def qR {t n} (w) (d:t.length=n) (a5:n<=900):
 Calls prog 28 #[.string ⟨t.toArray⟩] w (yL t n w):=by
 obtain ⟨Y,O,V,W,X⟩:=info_parts gI;have I:=qQ w d a5;unfold yK at I;have ah:(⟨t.toArray⟩:ByteArray).size=n:=(rW t).trans d;unfold yL;go_enter func28,ntmps28;go_wp2_with fail;refine I.mono ?_;rintro aa w1 ⟨A1,c1,o,rfl,J,a4,D⟩;have S:o.length=n+1:=by rw [J.len,aO,d]
 obtain ⟨i,z⟩:=eqx (aH (aG t) o);have a2:i.length=n+1:=by rw [<-z,bY,S]
 have L:=D;clear I D;go_wp2_with fail;go_loopw [4,5] (λv K wr=>∃k:Nat,k<=n+1/\K=.int .i64 k/\wr.ownsRow w1.heap.size 3 1 v k ((i.take k).map sv)/\Below w1.heap.size w1 wr) (λ_ K _=>n+1 -(intOf K).toNat)
 case atStart=>exact ⟨0,zAp _,rfl,ki _ _ _ _,kg _ _⟩
 case round=>
  obtain ⟨k,ae,rfl,e,j⟩:=hrel;have s:=j.size;by_cases a3:k < n+1
  .have R:k < o.length:=(by rw [S];exact a3);obtain ⟨a,H⟩:∃a,o[k]?=some a:=⟨_,zAa R⟩;have af:a<=n:=(by have:=J.lt (zAd H);rw [aO,d] at this;omega);obtain ⟨b1,Z,rfl,D,N⟩:=(a4.rd.below j).2 oM;have u:wr.cell? ⟨b1,Z+k,none⟩=some (.int .i64 a):=N k _ (by rw [zAf,H];rfl);have M:i[k]?=some (bS (aG t) a):=(by rw [<-z];unfold aH;rw [zAf,H];rfl);have q:i.take (k+1)=i.take k++ [bS (aG t) a]:=(by rw [zAv,M];rfl);clear N M R;rcases a with _ | f
   .have m:bS (aG t) 0=0:=(by rw [bV (by rw [aO];omega),aO,zBb];exact (fA t).last);rw [m] at q;clear m;have a9:wr.cell? ⟨b1,Z+k,none⟩=some (.int .i64 0):=u;clear u;go_wp2_with (at_builtin;refine bP _ rfl (.tmp 19) (.tmp 20) _ rfl w1.heap.size 3 Y (.int .i64 0) 1 8 underlying27 O V W X rfl dC _ k _ rfl e rfl rfl (by simp [Value.oneCell']) zx oM s ?_;intro a7 a8 G l a6 C);have E:=aX j e l s;clear l C;go_roundw
    case rel=>exact ⟨k+1,by omega,by go_num,by rw [q,zAz];exact G,E⟩
    case measure=>exact zr
   .obtain ⟨c,F⟩:∃c,t[f]?=some c:=⟨_,zAa (by rw [d];omega)⟩;have m:bS (aG t) (f+1)=c.toNat+1:=(by rw [bL (by rw [aO,d];omega)];unfold aG dQ;rw [zAb,zAn (by rw [zBc,d];omega),zAf,F];rfl);rw [m] at q;have a0:(((f+1:Nat):Int)==0)=false:=(by rw [zCb];omega);have a1:IntKind.i64.wrap ((f+1:Nat) - 1)=(f:Int):=zu;have ag:=aGe F;have ad:=c.toNat_lt;have ab:IntKind.i64.wrap c.toNat=(c.toNat:Int):=zu;have ac:wrap64 (c.toNat+1)=((c.toNat+1:Nat):Int):=(by rw [dU oM oM];omega);clear m F;generalize f+1=a at u a0 a1;go_wp2_with (at_builtin;refine bP _ rfl (.tmp 22) (.tmp 32) _ rfl w1.heap.size 3 Y (.int .i64 0) 1 8 underlying27 O V W X rfl dC _ k _ rfl e rfl rfl (by simp [Value.oneCell']) zx oM s ?_;intro a7 a8 G l a6 C);have E:=aX j e l s;clear l C;go_roundw
    case rel=>exact ⟨k+1,by omega,by go_num,by rw [q,zAz];exact G,E⟩
    case measure=>exact zr
  .obtain rfl:k=n+1:=oM;rw [zAg (by rw [a2];exact zAs _)] at e;obtain ⟨A,c,rfl,p⟩:=aR e;clear e;go_wp2_with fail;go_ret;have U:=L.size;exact ⟨A,c,o,rfl,J,by rw [z];exact ⟨cG p.own U,p.rd,p.cap,p.max⟩,L.trans (j.mono U)⟩
def sE (w:World) (B:Nat) (own:Nat->Nat) (gs aA rate:Nat) (T:List UInt8) (a num:Int) (d:List UInt8) (i:List Nat) (n1 n2:Nat) (e:Ending) (w':World):Prop:=
 ∃A1 c1 A2 c2 own' f,e=.returned (.agg #[(a:Int),(num:Int),.slice A1 n1 c1,.slice A2 n2 c2])/\StAt w' B own' gs f aA rate T/\LFS B gs w w' own own'/\MadeZ w' own' gs 5 A1 n1 c1 (d.map bv)/\MadeZ w' own' gs 3 A2 n2 c2 (i.map nv)
def StDone.v {w w' B gs aA rate own T o num i m n1 n2 p} (G:gs < w.heap.size) (q:i.length=n1) (s:m.length=n2) (z:StDone w B own gs aA rate T ⟨o,num,i,m⟩ p w'):sE w B own gs aA rate T o num i m n1 n2 p w':=by
 subst q s;obtain ⟨A1,c1,A2,c2,own',u,rfl,C,D,d,e,E,F⟩:=z;refine ⟨A1,c1,A2,c2,own',u,rfl,C,D,⟨⟨cG d.own (zAp _),d.rd,d.cap,d.max⟩,λa f=>?_⟩,⟨⟨cG e.own (zAp _),e.rd,e.cap,e.max⟩,λa f=>?_⟩⟩;have j:=E a f;subst f;have l:=d.own.lt (k:=a.block) rfl;exact ⟨l.2,j,by omega⟩;have j:=F a f;subst f;have l:=e.own.lt (k:=a.block) rfl;exact ⟨l.2,j,by omega⟩
def Kp (w:World) (own:Nat->Nat) (gs g:Nat) (t:TypeId) (cs:Array Value):Prop:=Bk w g t cs/\Ap own gs g
def Kp.step {w w' B gs g own own' t cs} (a:Kp w own gs g t cs) (k:LFS B gs w w' own own') (d:t≠223) (e:t≠181):Kp w' own' gs g t cs:=⟨k.d a.1 a.2.x a.2.ne d e,a.2.step k a.1.lt⟩
def Kp.new {a B gs gl aA rate own e} (d:StAt a B own gs gl aA rate e) (t cs):Kp (a.alloc (.cells cs t)) own gs a.heap.size t cs:=⟨kd a t cs,d.fresh nL,by have:=d.a.lt;omega⟩
def aA3 {B own gs gl aA rate t w} (d:StAt w B own gs gl aA rate t):
 Calls prog 35 #[gs] w λa w'=>a=.returned (.int .i64 rate)/\w=w':=by
 have i:=d.a.cell 0;have e:Calls prog 62 #[gl] w λa w'=>a=.returned (.int .i64 rate)/\w=w':=by obtain ⟨q,gk,gp,p,m,f,l,o,j⟩:=d.tp;exact oW f
 clear d;go_enter func35,ntmps35;go_wp2_with fail;refine e.mono ?_;rintro a w1 ⟨rfl,rfl⟩;clear e;go_wp2_with fail;go_ret;exact ⟨rfl,rfl⟩
def oR (w:World) (B:Nat) (a:List Nat) (n:Nat) (d:Ending) (w':World):Prop:=∃A c,d=.returned (.slice A n c)/\Made w' w.heap.size 3 1 A n c (a.map sv)/\VB B w w'
def aA5 {B own gs gl aA rate} (n) {t f w} (a:StAt w B own gs gl aA rate t) (e:IsSuf (aG t) f) (j:t.length+1=n):
 Calls prog 32 #[gs] w (oR w B (aH (aG t) f) n):=by
 have s:=a.a.cell 0;have d:Calls prog 61 #[gl] w (oR w B (aH (aG t) f) n):=by
  obtain ⟨q,gk,gp,E,o,l,C,D,z⟩:=a.tp;obtain rfl:=o.unique e;have i:(aH (aG t) q).length=n:=by rw [bY,e.len,aO,j]
  have:=vP l (dR (eX t)) (by rw [i];omega);unfold kB at this;rw [i] at this;exact this
 unfold oR at d⊢;clear a e j;go_enter func32,ntmps32;go_wp2_with fail;refine d.mono ?_;rintro u w1 ⟨A,c,rfl,m,p⟩;clear d;go_wp2_with fail;go_ret;exact ⟨A,c,rfl,m,p⟩
end Go.Proofs.YtlghmcogeipojaaGreatDoor
