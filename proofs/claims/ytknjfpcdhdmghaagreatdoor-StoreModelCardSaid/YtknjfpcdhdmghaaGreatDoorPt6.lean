/- Lemmas of the walk. Conditions: each its own. -/
import Derived.Test.YtknjfpcdhdmghaaGreatDoorPt5
import Derived.Test.YtknjfpcdhdmghaaGreatDoorSht
set_option linter.all false
set_option maxRecDepth 100000
set_option maxHeartbeats 4000000
open Go.Proofs.Tryz
namespace Go.Proofs.YtknjfpcdhdmghaaGreatDoor
open Go.RowKit
def TabW (a:World):Prop:=TabAt 0 Lib.deBruijn64tab a
def TabW.below {B b c} (d:TabW b) (f:Below B b c) (hB:0 < B):TabW c:=λa e=>(f.cell (p:=⟨0,a,none⟩) hB).trans (d a e)
def TabW.pos {a} (c:TabW a):0 < a.heap.size:=by
 have d:=c 0 dC;rcases zBe 0 a.heap.size with b | b;exact b
 .exfalso;have:a.heap[0]?=none:=zDn b;simp [World.cell?,this] at d
def aOT {b c} (g:b < 18446744073709551616) (f:Lib.ctz 64 b=c) {a} (e:TabW a):
 Calls prog 264 #[.int .u64 b] a λd i=>d=.returned (.int .i64 c)/\i=a:=by
 have:=Any7.bits_TrailingZeros64 shTz b g a (λ_=>e);rw [f] at this;exact this
def jB {a r c} (q:a < 18446744073709551616) (o:a.testBit r=true) (n:bQ a r=c) (w:c < bQ a 64) {d} (g:TabW d) (I:0 < d.heap.size):
 Calls prog 250 #[.int .u64 a,(c:Int)] d λl L=>l=.returned (.int .i64 r)/\Below d.heap.size d L:=by
 have G:=aNo (x:=a) q o n;have A:=λe H=>aIb (x:=a) q o (i:=e) H;rw [n] at A;have y:=aG7 a;have F:=rJ a 64;have M:=w;have E:=g;clear o n g;have P:decide ((c:Int) < 0)=false:=zs
 go_enter func250,ntmps250;go_wp2_with fail;refine (jM _ 1 1 _ [a] _ (Rd.made _ _ 1 1 _ rfl) (by simpa using q) oM).mono ?_;rintro l s ⟨rfl,m⟩;have u:Below d.heap.size d s:=by first |(rw [m];exact bR.alloc nL _)|(rw [<-m];exact bR.alloc nL _)
 have B:(([a].map λa=>bQ a 64).sum)=bQ a 64:=zs
 rw [B];obtain ⟨J,z⟩:=eqx (bQ a 64);rw [z] at w F⊢;have Q:decide ((c:Int)>=J)=false:=zt
 clear B z;clear m;go_wp2_with fail;go_loopw [0,15] (λK e wr=>∃b:Nat,b<=c/\e=.int .i64 b/\K=.int .u64 (clr a b:Nat)/\wr=s) (λ_ e _=>c -(intOf e).toNat)
 case atStart=>exact ⟨0,zAp _,rfl,rfl,rfl⟩
 case round=>
  obtain ⟨b,S,rfl,rfl,rfl⟩:=hrel;by_cases R:b < c
  .have t:=A b oM;have j:=y b;have p:clr a (b+1)=clr a b&&&(clr a b - 1):=rfl;obtain ⟨k,f⟩:=eqx (clr a b);rw [f] at t j p⊢;obtain ⟨D,C⟩:=eqx (k - 1);rw [C] at p;have N:IntKind.u64.wrap (k - 1)=(D:Int):=zv;have O:=aFc k D oM oM;clear f C t j;go_wp2_with fail;go_roundw
   case rel=>exact ⟨b+1,by omega,by go_num,by rw [p],by first | rfl | trivial⟩
   case measure=>exact zr
  .obtain rfl:b=c:=oM;have j:=y b;have v:=G;obtain ⟨k,f⟩:=eqx (clr a b);rw [f] at j v⊢;have g:=E.below u I;clear f;go_wp2_with fail;refine (aOT oM v g).mono ?_;rintro l T ⟨rfl,rfl⟩;go_wp2_with fail;go_ret;exact ⟨rfl,u⟩
def aMs {a} (c:a < 18446744073709551616):18446744073709551615 ^^^ a=18446744073709551615 - a:=by
 have e:18446744073709551615=2 ^ 64 - 1:=dC;have f:18446744073709551615 - a=2 ^ 64 -(a+1):=oM;rw [f,e];apply zDj;intro b;rw [zEh,Nat.testBit_two_pow_sub_one,zFm c];by_cases d:b < 64
 .simp [d]
 .have:a.testBit b=false:=zEp (zAl (show a < 2 ^ 64 from c) (zBp dC (show 64<=b by omega)));simp [d,this]
def aNK {a:Nat} (b:a < 18446744073709551616):bits .xor .u64 IntKind.u64.max (a:Int)=((gC a false:Nat):Int):=by
 have c:IntKind.u64.max=(18446744073709551615:Nat):=dC;rw [c,bits_xor_u64_nat _ _ oM b];congr 1;unfold gC;simp only [zEK,if_false];exact aMs b
def yW {gb l b p j c} (Q:Bk c gb 250 (dL l)) (w:l.length<=128) (a5:l[p]?=some b) (a4:(l.take p).count b=j) (P:TabW c):
 Calls prog 229 #[gb,(j:Int),.bool b] c λs az=>s=.returned (.int .i64 p)/\Below c.heap.size c az:=by
 have T:=(zAc.1 a5).1;have x:0 < c.heap.size:=P.pos;have V:=aEd b (pG l);have W:=aEd b (pA w);have am:=pG l;have an:=pA w;have g:=Q.cell 0;have I:=Q.cell 1;have J:=Q.cell 2;have aA:decide ((j:Int) < 0)=false:=zs
 have ax:p < l.length:=T;have a6:∀Y:Nat,(([Y].map λY=>bQ Y 64).sum)=bQ Y 64:=λY=>by simp
 obtain ⟨Z,K⟩:=eqx (gC (w0 l) b);obtain ⟨H,L⟩:=eqx (gC (w1 l) b);unfold dL at g I J;obtain ⟨a9,a0⟩:=eqx (w0 l);obtain ⟨aa,a1⟩:=eqx (w1 l);obtain ⟨au,ak⟩:=eqx l.length;have ao:=ix0 (a9:Int) (aa:Int);have ap:=ix1 (a9:Int) (aa:Int);rw [K] at V;rw [L] at W;rw [a0] at am K;rw [a1] at an L;rw [ak,a0,a1] at g I J;rw [ak] at ax;replace g:c.cell? gb=some (.int .i64 au):=g.trans rfl;have n:=Q.lt;have v:=g;have al:j<=p:=by rw [<-a4];exact zAk zBv (by rw [zAj];omega)
 have ag:=λt=>aN0 (b:=b) w a5 a4 t;have a2:=λt=>aN1 (b:=b) w a5 a4 t;rw [a0,K] at ag a2;rw [a1,L] at a2;obtain ⟨r,R⟩:=eqx (bQ Z 64);obtain ⟨ah,S⟩:=eqx (bQ H 64);obtain ⟨y,af⟩:=eqx (j - r);have a3:64<=p->r<=j/\H.testBit (p - 64)=true/\bQ H (p - 64)=y/\y < ah:=λt=>by obtain ⟨aC,aB,ai,aw,M,N,ad,aj⟩:=a2 t;rw [R] at ai;rw [S] at aj;subst ai;rw [af] at M;subst M;exact ⟨aw,N,ad,aj⟩
 have a8:b=false->bits .xor .u64 IntKind.u64.max (a9:Int)=(Z:Int)/\bits .xor .u64 IntKind.u64.max (aa:Int)=(H:Int):=λae=>by rw [<-K,<-L,ae];exact ⟨aNK am,aNK an⟩
 have a7:b=true->Z=a9/\H=aa:=λae=>by rw [<-K,<-L,ae];simp [gC]
 clear a2 a5 a4 Q K L a0 a1;cases b with
 | true=>
  replace a7:=a7 rfl;clear a8;go_enter func229,ntmps229;go_wp2_with fail;go_loopw [1,21] (λX F wr=>∃u:Nat,F=.int .i64 u/\((u=0/\X=.int .i64 j)∨(u=1/\64<=p/\X=.int .i64 y))/\Below c.heap.size c wr) (λ_ F _=>2 -(intOf F).toNat)
  case atStart=>exact ⟨0,rfl,.inl ⟨rfl,rfl⟩,kg _ _⟩
  case round=>
   obtain ⟨u,rfl,(⟨rfl,rfl⟩|⟨rfl,O,rfl⟩),d⟩:=hrel
   all_goals
    obtain ⟨aq,ar⟩:=a7;subst aq;subst ar
   .clear I J ap;have q:=d.size;have A:=(d.cell (p:=gb) n).trans g;clear g;go_wp2_with fail;refine (jM _ 1 1 _ [Z] _ (Rd.made _ _ 1 1 _ rfl) (by simpa using V) oM).mono ?_;rintro s z ⟨rfl,f⟩;have a:Below c.heap.size c z:=(by first |(rw [f];exact d.alloc q _)|(rw [<-f];exact d.alloc q _));rw [a6,R];have B:=(a.cell (p:=gb) n).trans v;clear f A;by_cases t:p < 64
    .obtain ⟨i,k,e⟩:=ag t;have m:=e;rw [R] at m;have D:j < r:=m;have C:IntKind.i64.wrap p=(p:Int):=zu;clear m;go_wp2_with fail;refine (jB V i k e (P.below a x) (zAl x a.size)).mono ?_;rintro s ab ⟨rfl,E⟩;have o:=a.trans (E.mono a.size);have ac:=(o.cell (p:=gb) n).trans v;clear B;go_wp2_with fail;go_ret;exact ⟨rfl,o⟩
    .obtain ⟨G,i,k,e⟩:=a3 oM;have D:¬j < r:=oM;have av:=zBy D;have C:IntKind.i64.wrap (j -r)=(y:Int):=(by have:=af;have M:=w;have N:=al;have ad:=T;rw [wI0];omega);clear G i k e;go_wp2_with fail;go_roundw
     case rel=>exact ⟨1,by go_num,.inr ⟨by first | rfl | trivial,by omega,by go_num⟩,a⟩
     case measure=>simp [intOf]
   .clear I J ao;have q:=d.size;have A:=(d.cell (p:=gb) n).trans g;clear g;go_wp2_with fail;refine (jM _ 1 1 _ [H] _ (Rd.made _ _ 1 1 _ rfl) (by simpa using W) oM).mono ?_;rintro s z ⟨rfl,f⟩;have a:Below c.heap.size c z:=(by first |(rw [f];exact d.alloc q _)|(rw [<-f];exact d.alloc q _));rw [a6,S];have B:=(a.cell (p:=gb) n).trans v;clear f A;obtain ⟨G,i,k,e⟩:=a3 O;have m:=e;rw [<-S] at e;have D:y < ah:=m;have C:IntKind.i64.wrap (64+(p - 64:Nat))=(p:Int):=(by have M:=w;have N:=T;rw [wI0];omega);obtain ⟨ay,U⟩:=eqx (p - 64);rw [U] at C i k;clear G m U O;go_wp2_with fail;refine (jB W i k e (P.below a x) (zAl x a.size)).mono ?_;rintro s ab ⟨rfl,E⟩;have o:=a.trans (E.mono a.size);have ac:=(o.cell (p:=gb) n).trans v;clear B;go_wp2_with fail;go_ret;exact ⟨rfl,o⟩
 | false=>
  replace a8:=a8 rfl;clear a7;go_enter func229,ntmps229;go_wp2_with fail;go_loopw [1,21] (λX F wr=>∃u:Nat,F=.int .i64 u/\((u=0/\X=.int .i64 j)∨(u=1/\64<=p/\X=.int .i64 y))/\Below c.heap.size c wr) (λ_ F _=>2 -(intOf F).toNat)
  case atStart=>exact ⟨0,rfl,.inl ⟨rfl,rfl⟩,kg _ _⟩
  case round=>
   obtain ⟨u,rfl,(⟨rfl,rfl⟩|⟨rfl,O,rfl⟩),d⟩:=hrel
   all_goals
    obtain ⟨aq,ar⟩:=a8
   .clear I J ap;have q:=d.size;have A:=(d.cell (p:=gb) n).trans g;clear g;go_wp2_with fail;refine (jM _ 1 1 _ [Z] _ (Rd.made _ _ 1 1 _ rfl) (by simpa using V) oM).mono ?_;rintro s z ⟨rfl,f⟩;have a:Below c.heap.size c z:=(by first |(rw [f];exact d.alloc q _)|(rw [<-f];exact d.alloc q _));rw [a6,R];have B:=(a.cell (p:=gb) n).trans v;clear f A;by_cases t:p < 64
    .obtain ⟨i,k,e⟩:=ag t;have m:=e;rw [R] at m;have D:j < r:=m;have C:IntKind.i64.wrap p=(p:Int):=zu;clear m;go_wp2_with fail;refine (jB V i k e (P.below a x) (zAl x a.size)).mono ?_;rintro s ab ⟨rfl,E⟩;have o:=a.trans (E.mono a.size);have ac:=(o.cell (p:=gb) n).trans v;clear B;go_wp2_with fail;go_ret;exact ⟨rfl,o⟩
    .obtain ⟨G,i,k,e⟩:=a3 oM;have D:¬j < r:=oM;have av:=zBy D;have C:IntKind.i64.wrap (j -r)=(y:Int):=(by have:=af;have M:=w;have N:=al;have ad:=T;rw [wI0];omega);clear G i k e;go_wp2_with fail;go_roundw
     case rel=>exact ⟨1,by go_num,.inr ⟨by first | rfl | trivial,by omega,by go_num⟩,a⟩
     case measure=>simp [intOf]
   .clear I J ao;have q:=d.size;have A:=(d.cell (p:=gb) n).trans g;clear g;go_wp2_with fail;refine (jM _ 1 1 _ [H] _ (Rd.made _ _ 1 1 _ rfl) (by simpa using W) oM).mono ?_;rintro s z ⟨rfl,f⟩;have a:Below c.heap.size c z:=(by first |(rw [f];exact d.alloc q _)|(rw [<-f];exact d.alloc q _));rw [a6,S];have B:=(a.cell (p:=gb) n).trans v;clear f A;obtain ⟨G,i,k,e⟩:=a3 O;have m:=e;rw [<-S] at e;have D:y < ah:=m;have C:IntKind.i64.wrap (64+(p - 64:Nat))=(p:Int):=(by have M:=w;have N:=T;rw [wI0];omega);obtain ⟨ay,U⟩:=eqx (p - 64);rw [U] at C i k;clear G m U O;go_wp2_with fail;refine (jB W i k e (P.below a x) (zAl x a.size)).mono ?_;rintro s ab ⟨rfl,E⟩;have o:=a.trans (E.mono a.size);have ac:=(o.cell (p:=gb) n).trans v;clear B;go_wp2_with fail;go_ret;exact ⟨rfl,o⟩
def aHb (b:Nat) (a:Array Value):Value->World->Prop:=λ_ c=>Bk c b 250 a
def aAI (c b):Stb (aHb c b):=λ_ _ _ a d=>kf a d (Bk.lt a)
def qJ (a:Int) (b c:Nat):Array Value:=#[.int .i64 a,.int .u64 b,.int .u64 c]
def aAL (d b c a) (e:a < 2):(qJ d b c)[1+a]?=some (.int .u64 ((if a=0 then b else c):Nat)):=by
 obtain rfl | rfl:a=0∨a=1:=oM;rfl;rfl
def aAK (c:Int) (d e b a:Nat) (f:a < 2):(qJ c d e).setIfInBounds (1+a) (.int .u64 b)=qJ c (if a=0 then b else d) (if a=0 then e else b):=by
 obtain rfl | rfl:a=0∨a=1:=oM;rfl;rfl
def aCs {e a g c d} (f:Bk e a 250 (qJ g c d)) (b):Bk (e.setCell a (.int .i64 b)) a 250 (qJ b c d):=f.set 0 _
structure InsI (l l':List Bool) (k:Nat) (b:Bool) (i a:Nat) (bb:Bool) (u0 u1:Nat):Prop where
 dw:i=0->k < 64/\a=k/\bb=b/\u0=w0 l/\u1=w1 l
 dv:i=1->a < 64/\u0=w0 l'/\uF u1 a bb=w1 l'/\u1 < 18446744073709551616
 du:i=2->u0=w0 l'/\u1=w1 l'
 le:i<=2
def kK {gb l} (c b) {w} (Y:Bk w gb 250 (dL l)) (an:l.length<=127) (H:c<=l.length):
 Calls prog 262 #[gb,(c:Int),.bool b] w λn a5=>n=.returned (.int .i64 0)/\Bk a5 gb 250 (dL (aT l c b))/\Keep (λb=>b=gb) w a5:=by
 obtain ⟨i,R⟩:=eqx l.length;have a2:(aT l c b).length=i+1:=by rw [cM _ _ H,R]
 have P:Bk w gb 250 (qJ (i:Int) (w0 l) (w1 l)):=by rw [<-R];exact Y
 have ai:∀J,Bk J gb 250 (qJ ((i+1:Nat):Int) (w0 (aT l c b)) (w1 (aT l c b)))->Bk J gb 250 (dL (aT l c b)):=λJ q=>by unfold dL;rw [a2];exact q
 have W:=pG l;have M:=pA (l:=l) oM;have ap:∃I A:Nat,(c:Int)/ 64=I/\(c:Int)% 64=A/\InsI l (aT l c b) c b I A b (w0 l) (w1 l):=by by_cases a6:c < 64;exact ⟨0,c,by omega,by omega,λ_=>⟨a6,rfl,rfl,rfl,rfl⟩,λn=>by omega,λn=>by omega,by omega⟩;obtain ⟨L,D⟩:=aN6 (l:=l) (k:=c) b H oM oM;exact ⟨1,c - 64,by omega,by omega,λn=>by omega,λ_=>⟨by omega,L.symm,D.symm,M⟩,λn=>by omega,by omega⟩
 have aq:∀a o f d e,a < 2->InsI l (aT l c b) c b a o f d e->o < 64/\(if a=0 then d else e) < 18446744073709551616/\InsI l (aT l c b) c b (a+1) 0 ((if a=0 then d else e).testBit 63) (if a=0 then uF d o f else d) (if a=0 then e else uF e o f):=by intro a o f d e aE q;obtain rfl | rfl:a=0∨a=1:=oM;obtain ⟨C,rfl,rfl,rfl,rfl⟩:=q.dw rfl;obtain ⟨L,D⟩:=aN5 (l:=l) (k:=o) f H oM C;have ah:(w0 l).testBit 63=l.getD 63 false:=(by rw [kI];simp);simp only [if_true,ah];exact ⟨C,W,λn=>by omega,λ_=>⟨by omega,L.symm,D.symm,M⟩,λn=>by omega,by omega⟩;obtain ⟨C,a7,a8,a9⟩:=q.dv rfl;simp only [show ¬((1:Nat)=0) by omega,if_false];exact ⟨C,a9,λn=>by omega,λn=>by omega,λ_=>⟨a7,a8⟩,by omega⟩
 obtain ⟨I,A,aF,aA,af⟩:=ap;have al:¬((c:Int) > i):=oM;have ak:decide ((c:Int) < 0)=false:=zs
 have aH:((i:Int)==128)=false:=by rw [zCb];omega
 have B:w.cell? gb=some (.int .i64 i):=(P.cell 0).trans rfl;have aC:=P.lt;have aI:i<=127:=oM;clear Y W M a2 R an H;go_enter func262,ntmps262;go_wp2_with fail;clear B ak al;go_loopw [2,7,8] (λg j V wr=>∃(a o:Nat) (f:Bool) (d e:Nat),g=.bool f/\j=.int .i64 o/\V=.int .i64 a/\InsI l (aT l c b) c b a o f d e/\Bk wr gb 250 (qJ (i:Int) d e)/\Keep (λb=>b=gb) w wr) (λ_ _ V _=>2 -(intOf V).toNat)
 case atStart=>exact ⟨I,A,b,_,_,rfl,rfl,rfl,af,P,ke _ _⟩
 case round=>
  obtain ⟨a,r,f,d,e,rfl,rfl,rfl,t,s,a1⟩:=hrel;by_cases Q:a < 2
  .obtain ⟨ao,a4,N⟩:=aq a r f d e Q t;have G:=aAL (i:Int) d e a Q;have a3:=λj=>aAK (i:Int) d e j a Q;obtain ⟨g,y⟩:∃g,(if a=0 then d else e)=g:=⟨_,rfl⟩;obtain ⟨j,S⟩:=eqx (uF g r f);obtain ⟨K,a0⟩:=eqx (qJ (i:Int) d e)
   have ag:InsI l (aT l c b) c b (a+1) 0 (g.testBit 63) (if a=0 then j else d) (if a=0 then e else j):=by
    have ad:(if a=0 then uF d r f else d)=if a=0 then j else d:=by
     split
     .rw [<-S,<-y,zBx (by assumption)]
     rfl
    have ae:(if a=0 then e else uF e r f)=if a=0 then e else j:=by
     split;rfl
     .rw [<-S,<-y,zBw (by assumption)]
    rw [y,ad,ae] at N;exact N
   rw [y] at G a4;rw [a0] at G a3 s;have aG:(a:Int) < 2:=oM;clear t N y a0;go_wp2_with fail;refine wp_region_any kR<|bM (pre:=(λw1=>Bk w1 gb 250 K)) (pJ:=(aHb gb (K.setIfInBounds (1+a) (.int .u64 j)))) [38,39,40,41,42,43,44,45,46,47,48,37,49,50,51,52,53,2] (λb=>b=gb) 17 [7,17] [is gb,is (a:Int),is gb,is (a:Int),is gb,is (.pointer (some ⟨gb,1,none⟩)),is (.pointer (some ⟨gb,1+a,none⟩)),is (.int .u64 g),is (r:Int),is (.bool f),is (.tuple #[.int .u64 j,.bool (g.testBit 63)]),is (.tuple #[.int .u64 j,.bool (g.testBit 63)]),is (.int .u64 j),is (.bool (g.testBit 63)),is gb,is (.pointer (some ⟨gb,1,none⟩)),is (.pointer (some ⟨gb,1+a,none⟩)),cO,is (.bool (g.testBit 63))] _ rfl kR kR (s) (λw1 aK q _ aj=>kf q aj q.lt) (aAI _ _) tA1 ?_ ?_
   .refine aL<|pH3 0 (.pointer (some gb))<|pH3 8 (.int .i64 a)<|pH3 0 (.pointer (some gb))<|pH3 8 (.int .i64 a)<|pV3 2 40<|pV3 4 42<|pW3 5 43 3 41<|sC3 (λ_ z _ O _ _ _ m _ _ _ u=>?_) ?_
    .have v:=O rfl;have au:_=_:=m 6 44 kR rfl;have B:z.cell? ⟨gb,1+a,none⟩=some (.int .u64 g):=(v.cell (1+a)).trans G;go_simp;exact kq u rfl
    refine pH3 7 (.int .i64 r)<|pH3 2 (.bool f)<|sC3 (λ_ z _ _ _ _ _ m _ _ _ u=>?_) ?_
    .have av:_=_:=m 7 45 kR rfl;have aw:_=_:=m 8 46 kR rfl;have ax:_=_:=m 9 47 kR rfl;go_simp;refine (aMr (x:=g) (k:=r) f a4 ao z).mono ?_;rintro n aM ⟨rfl,rfl⟩;rw [S];exact kq u rfl
    refine pV3 10 48<|pV3 11 37<|pV3 11 37<|pV3 0 38<|pV3 14 51<|pW3 15 52 1 39<|sC3 (λ_ z _ O _ _ _ m _ _ _ u=>?_) ?_
    .have v:=O rfl;have az:_=_:=m 16 53 kR rfl;have ay:_=_:=m 12 49 kR rfl;have B:z.cell? ⟨gb,1+a,none⟩=some (.int .u64 g):=(v.cell (1+a)).trans G;have ac:=v.frozen (1+a);go_simp;exact u (.bool true) _ (aW (ka (F:=λb=>b=gb) (ke _ _) (p:=⟨gb,1+a,none⟩) (.inl rfl) _)) (v.set (1+a) _)
    refine pV3 13 50 ?_;exact aB
   .intro ab U E m X;replace E:Keep (λb=>b=gb) wr U:=kD E;have aa:ab (.tmp 2)=.bool (g.testBit 63):=m 18 2 rfl;obtain ⟨aJ,T⟩:∃ar,(aHb gb (K.setIfInBounds (1+a) (.int .u64 j))) ar U:=X 17 dC;simp only [zqq];rw [aa];clear m X;have Z:Bk U gb 250 _:=T;rw [a3] at Z;have am:=a1.trans E;clear T E;go_wp2_with fail;go_roundw
    case rel=>exact ⟨a+1,0,_,_,_,rfl,rfl,by go_num,ag,Z,am⟩
    case measure=>exact zr
  .obtain rfl:a=2:=(zj t.le);obtain ⟨rfl,rfl⟩:=t.du rfl;have B:wr.cell? gb=some (.int .i64 i):=(s.cell 0).trans rfl;have ac:=s.frozen 0;have aD:=s.lt;clear t;have D:IntKind.i64.wrap (i+1)=((i+1:Nat):Int):=zu;go_wp2_with fail;go_ret;exact ⟨rfl,ai _ (aCs s _),ka (F:=λb=>b=gb) a1 (p:=gb) (.inl rfl) _⟩
def yX {c b d E} (ae:Bk E c 250 (dL b)) (X:b.length<=128) (T:d < b.length):
 Calls prog 255 #[c,(d:Int)] E λC aH=>C=.returned (.tuple #[.bool (b.getD d false),o0])/\Bk aH c 250 (dL (aK b d))/\Keep (λi=>i=c) E aH:=by
 have ay:=vU (gb:=c) (l:=b) (k:=d) (w:=E) ae T;obtain ⟨j,ai⟩:=eqx b.length;have b1:(aK b d).length+1=j:=by rw [cJ T,ai]
 have af:Bk E c 250 (qJ (j:Int) (w0 b) (w1 b)):=by rw [<-ai];exact ae
 have aw:∀a7,Bk a7 c 250 (qJ ((j:Int) - 1) (w0 (aK b d)) (w1 (aK b d)))->Bk a7 c 250 (dL (aK b d)):=λa7 I=>by unfold dL;rw [show (((aK b d).length:Nat):Int)=(j:Int) - 1 by omega];exact I
 have ar:=pG b;have au:=pA (l:=b) X;obtain ⟨v,f,bn,aS,bp,aT,b0⟩:∃v f:Nat,(d:Int)/ 64=v/\(d:Int)% 64=f/\v < 2/\f < 64/\d=64*v+f:=⟨d / 64,d % 64,by omega,by omega,by omega,by omega,by omega⟩;have aF:v=0->w0 (aK b d)=qG (w0 b) f ((w1 b).testBit 0)/\w1 (aK b d)=qG (w1 b) 0 false/\(w0 b).testBit f=b.getD d false:=λC=>by have A:d=f:=oM;have o:=aOv (l:=b) (k:=d) T X oM;rw [iU,zBq,<-A];refine ⟨o.1,o.2,?_⟩;rw [kI,zBz oM,zDO]
 have az:v=1->w0 (aK b d)=w0 b/\w1 (aK b d)=qG (w1 b) f false/\(w1 b).testBit f=b.getD d false:=λC=>by have A:d - 64=f:=oM;have o:=cut_hi (l:=b) (k:=d) T X oM;rw [A] at o;refine ⟨o.1,o.2,?_⟩;rw [iU];congr 1;omega
 have aX:=af.lt;have br:j<=128:=oM;have aU:0 < qG 0 0 true:=dC;obtain ⟨ao,aM,aP,aN,aI,an⟩:=hqq6 af aw aF az ar au;clear ae af aw ar au aF az b1 ai X T aU b0;go_enter func255,ntmps255;go_wp2_with fail;refine ay.mono ?_;rintro C b7 ⟨rfl,ag⟩;have av:=ao.below ag aX;have aE:Keep (λi=>i=c) E b7:=kF ag;obtain ⟨aJ,aO⟩:=hqq2 av aE;clear ay ag av aE ao;go_wp2_with fail;go_loopw [7,8] (λe am wr=>∃(a y:Nat) (z:Bool),e=.bool z/\am=.int .i64 a/\v<=a/\a < 2/\(a=1->z=false/\y=w1 b)/\(a=0->z=(w1 b).testBit 0/\y=qG (w1 b) 0 false)/\Bk wr c 250 (qJ (j:Int) (w0 b) y)/\Keep (λi=>i=c) E wr) (λ_ am _=>(intOf am).toNat)
 case atStart=>exact ⟨1,w1 b,false,rfl,rfl,by omega,by omega,λ_=>⟨rfl,rfl⟩,λC=>by omega,aJ,aO⟩
 case round=>
  obtain ⟨a,y,z,rfl,rfl,bo,aC,o,ad,M,W⟩:=hrel;by_cases ax:v < a
  .obtain rfl:a=1:=oM;obtain ⟨rfl,rfl⟩:=o rfl;obtain rfl:v=0:=oM;obtain ⟨a,aA⟩:∃a,a=1:=⟨1,rfl⟩;have n:=aAL (j:Int) (w0 b) (w1 b) a oM;have s:=λm=>aAK (j:Int) (w0 b) (w1 b) m a oM;rw [zBw oM] at n;obtain ⟨e,Y⟩:=eqx (w1 b);obtain ⟨m,K⟩:=eqx (qG e 0 false);obtain ⟨H,S⟩:=eqx (qJ (j:Int) (w0 b) (w1 b));have Z:=an.out;rw [S] at n s M;rw [Y] at n Z;have aG:qG (w1 b) 0 false=m:=(by rw [Y];exact K);obtain ⟨N,aj⟩:=eqx (e.testBit 0);have R:(w1 b).testBit 0=N:=(by rw [Y];exact aj);have aQ:=lhd aj;have aZ:(a:Int) < 2:=oM;obtain ⟨O,a5,a2,a6,aR,a0,a3⟩:=hqq7 n s M K aG R W;have bq:a < 2:=oM;have aD:¬a=0:=oM;have aY:¬(a:Int)<=0:=oM;rw [show ((1:Nat):Int)=(a:Int) by omega];have ap:=lhd aA;have bj:¬(a:Int)<=0:=aY;have bk:(a:Int) > 0:=oM;clear M W n s Y K aG S o ad R aA ax aj;go_wp2_with fail;refine wp_region_any kR<|bM (pre:=(λw1=>Bk w1 c 250 H)) (pJ:=(aHb c (H.setIfInBounds (1+a) (.int .u64 m)))) [22,23,24,25,26,27,28,29,30,31,21,32,33,34,35,36,7] (λi=>i=c) 16 [7,16] [is c,is (a:Int),is c,is (a:Int),is c,is (.pointer (some ⟨c,1,none⟩)),is (.pointer (some ⟨c,1+a,none⟩)),is (.int .u64 e),is (.bool false),is (.tuple #[.int .u64 m,.bool N]),is (.tuple #[.int .u64 m,.bool N]),is (.int .u64 m),is (.bool N),is c,is (.pointer (some ⟨c,1,none⟩)),is (.pointer (some ⟨c,1+a,none⟩)),cO,is (.bool N)] _ rfl kR kR (a2) (λw1 b5 I _ ah=>kf I ah I.lt) (aAI _ _) tA1 ?_ ?_
   .refine aL<|pH3 0 (.pointer (some c))<|pH3 8 (.int .i64 a)<|pH3 0 (.pointer (some c))<|pH3 8 (.int .i64 a)<|pV3 2 24<|pV3 4 26<|pW3 5 27 3 25<|sC3 (λ_ t _ J _ _ _ g _ _ _ q=>?_) ?_
    .have r:=J rfl;have b8:_=_:=g 6 28 kR rfl;have V:t.cell? ⟨c,1+a,none⟩=some (.int .u64 e):=(r.cell (1+a)).trans O;go_simp;exact kq q rfl
    refine pH3 7 (.bool false)<|sC3 (λ_ t _ _ _ _ _ g _ _ _ q=>?_) ?_
    .have b9:_=_:=g 7 29 kR rfl;have ba:_=_:=g 8 30 kR rfl;go_simp;refine (aFV (x:=e) 0 false Z oM t).mono ?_;rintro C b6 ⟨rfl,rfl⟩;rw [a6.out,aQ.out];exact kq q rfl
    refine pV3 9 31<|pV3 10 21<|pV3 10 21<|pV3 0 22<|pV3 13 34<|pW3 14 35 1 23<|sC3 (λ_ t _ J _ _ _ g _ _ _ q=>?_) ?_
    .have r:=J rfl;have bc:_=_:=g 15 36 kR rfl;have bb:_=_:=g 11 32 kR rfl;have V:t.cell? ⟨c,1+a,none⟩=some (.int .u64 e):=(r.cell (1+a)).trans O;have aq:=r.frozen (1+a);go_simp;exact q (.bool true) _ (aW (ka (F:=λi=>i=c) (ke _ _) (p:=⟨c,1+a,none⟩) (.inl rfl) _)) (r.set (1+a) _)
    refine pV3 12 33 ?_;exact aB
   .intro ac G B g Q;replace B:Keep (λi=>i=c) wr G:=kD B;have ab:ac (.tmp 7)=.bool N:=g 17 7 rfl;obtain ⟨b4,L⟩:∃al,(aHb c (H.setIfInBounds (1+a) (.int .u64 m))) al G:=Q 16 dC;simp only [zqq];rw [ab];clear g Q;have u:Bk G c 250 _:=L;rw [a5.out,zBw aD,zBw aD] at u;have U:=a3.trans B;obtain ⟨a1,a4⟩:=hqq2 u U;have P:IntKind.i64.wrap (a - 1)=((0:Nat):Int):=(by have:=ap.out;rw [wI0];omega);clear u U L B;go_wp2_with fail;go_roundw
    case rel=>exact ⟨0,_,_,rfl,rfl,by omega,by omega,λC=>by omega,λ_=>⟨a0.symm,aR.symm⟩,a1,a4⟩
    case measure=>have:=ap.out;simp [intOf];omega
  .obtain rfl:a=v:=oM
   have aV:∃e:Nat,(qJ (j:Int) (w0 b) y)[1+a]?=some (.int .u64 e)/\e < 18446744073709551616/\(qJ (j:Int) (w0 b) y).setIfInBounds (1+a) (.int .u64 (qG e f z:Nat))=qJ (j:Int) (w0 (aK b d)) (w1 (aK b d))/\e.testBit f=b.getD d false:=by
    have n:=aAL (j:Int) (w0 b) y a aC;have s:=λm=>aAK (j:Int) (w0 b) y m a aC;obtain D | D:a=0∨a=1:=oM
    .obtain ⟨P,A⟩:=ad D;obtain ⟨a8,a9,aa⟩:=aP D;rw [zBx D] at n;refine ⟨w0 b,n,aI,?_,aa⟩;rw [s,zBx D,zBx D,a8,a9,P,A]
    .obtain ⟨P,A⟩:=o D;obtain ⟨a8,a9,aa⟩:=aN D;have ak:¬a=0:=oM;rw [zBw ak] at n;refine ⟨y,n,by rw [A];exact an,?_,by rw [A];exact aa⟩;rw [s,zBw ak,zBw ak,a8,a9,P,A]
   obtain ⟨e,n,Z,s,R⟩:=aV;obtain ⟨bu,b3⟩:=eqx f;subst b3;have b2:=aT;obtain ⟨m,K⟩:=eqx (qG e f z);obtain ⟨H,S⟩:=eqx (qJ (j:Int) (w0 b) y);rw [K] at s;rw [S] at n s M;obtain ⟨O,a5,a2,a6,a0,a3⟩:=hqq6 n s M K R W;have bl:¬(a:Int) > a:=oM;have aZ:(a:Int) < 2:=oM;have bt:IntKind.i64.wrap a=(a:Int):=zu;have bs:((d:Int)).tmod 64=(f:Int):=(by rw [zDA oM];exact aS);clear M W n s K S o ad R ax;go_wp2_with fail;refine wp_region_any kR<|bM (pre:=(λw1=>Bk w1 c 250 H)) (pJ:=(aHb c (H.setIfInBounds (1+a) (.int .u64 m)))) [38,39,40,41,42,43,44,45,46,47,48,49,50,51,37,52,53,54,55,56,7] (λi=>i=c) 20 [9,20] [is c,is (d:Int),is (a:Int),is c,is (d:Int),is (a:Int),is c,is (.pointer (some ⟨c,1,none⟩)),is (.pointer (some ⟨c,1+a,none⟩)),is (.int .u64 e),is (d:Int),is (f:Int),is (.bool z),is (.tuple #[.int .u64 m,.bool (e.testBit f)]),is (.tuple #[.int .u64 m,.bool (e.testBit f)]),is (.int .u64 m),is (.bool (e.testBit f)),is c,is (.pointer (some ⟨c,1,none⟩)),is (.pointer (some ⟨c,1+a,none⟩)),cO,is (.bool (e.testBit f))] _ rfl kR kR (a2) (λw1 b5 I _ ah=>kf I ah I.lt) (aAI _ _) tA1 ?_ ?_
   .refine aL<|pH3 0 (.pointer (some c))<|pH3 1 (.int .i64 d)<|pV3 1 39<|pH3 0 (.pointer (some c))<|pH3 1 (.int .i64 d)<|pV3 4 42<|pV3 3 41<|pV3 6 44<|pW3 7 45 5 43<|sC3 (λ_ t _ J _ _ _ g _ _ _ q=>?_) ?_
    .have r:=J rfl;have bd:_=_:=g 8 46 kR rfl;have V:t.cell? ⟨c,1+a,none⟩=some (.int .u64 e):=(r.cell (1+a)).trans O;go_simp;exact kq q rfl
    refine pH3 1 (.int .i64 d)<|pV3 10 48<|pH3 7 (.bool z)<|sC3 (λ_ t _ _ _ _ _ g _ _ _ q=>?_) ?_
    .have be:_=_:=g 9 47 kR rfl;have bf:_=_:=g 11 49 kR rfl;have bg:_=_:=g 12 50 kR rfl;go_simp;refine (aFV (x:=e) f z Z b2 t).mono ?_;rintro C b6 ⟨rfl,rfl⟩;rw [a6.out];exact kq q rfl
    refine pV3 13 51<|pV3 14 37<|pV3 14 37<|pV3 0 38<|pV3 17 54<|pW3 18 55 2 40<|sC3 (λ_ t _ J _ _ _ g _ _ _ q=>?_) ?_
    .have r:=J rfl;have bi:_=_:=g 19 56 kR rfl;have bh:_=_:=g 15 52 kR rfl;have V:t.cell? ⟨c,1+a,none⟩=some (.int .u64 e):=(r.cell (1+a)).trans O;have aq:=r.frozen (1+a);go_simp;exact q (.bool true) _ (aW (ka (F:=λi=>i=c) (ke _ _) (p:=⟨c,1+a,none⟩) (.inl rfl) _)) (r.set (1+a) _)
    refine pV3 16 53 ?_;exact aB
   .intro ac G B g Q;replace B:Keep (λi=>i=c) wr G:=kD B;have ab:ac (.tmp 7)=.bool (e.testBit f):=g 21 7 rfl;obtain ⟨b4,L⟩:∃al,(aHb c (H.setIfInBounds (1+a) (.int .u64 m))) al G:=Q 20 dC;simp only [zqq];rw [ab];clear g Q;have u:Bk G c 250 _:=L;rw [a5.out] at u;have U:=a3.trans B;have V:G.cell? c=some (.int .i64 j):=(u.cell 0).trans rfl;have aq:=u.frozen 0;have bm:=u.lt;obtain ⟨a1,a4⟩:=hqq2 u U;have P:IntKind.i64.wrap (j - 1)=(j:Int) - 1:=zu;rw [a0.out];clear u U L B;go_wp2_with fail;go_ret2;exact ⟨rfl,aM _ (aCs a1 _),ka (F:=λi=>i=c) a4 (p:=c) (.inl rfl) _⟩
end Go.Proofs.YtknjfpcdhdmghaaGreatDoor
