/- Lemmas of the walk. Conditions: each its own. -/
import Derived.Test.YtknjfpcdhdmghaaGreatDoorPt0
set_option linter.all false
set_option maxRecDepth 100000
set_option maxHeartbeats 4000000
namespace Go.Proofs.YtknjfpcdhdmghaaGreatDoor
open Tryz
section
open Go.RowKit
def aFc (a b:Nat) (e:a < 18446744073709551616) (f:b < 18446744073709551616):bits .and .u64 (a:Int) (b:Int)=((a&&& b:Nat):Int):=
 (bits_nat .u64 64 dC (λg c d=>by rw [kn];omega) a b oM oM).1
def aCN (a b d c:Nat) (j:a < 18446744073709551616) (i:d < 18446744073709551616) (g:2 ^ b=c):bits .and .u64 ((a:Int)/c) (d:Int)=((a >>> b&&& d:Nat):Int):=by
 have e:((a:Int)/c)=((a >>> b:Nat):Int):=by rw [zDu,g];push_cast;rfl
 have f:a >>> b < 18446744073709551616:=by rw [zDu];exact zDF (zDZ _ _) j
 rw [e,aFc _ _ f i]
def aBN {a:Nat} (v:a < 18446744073709551616) (E):
 Calls prog 263 #[.int .u64 a] E λI L=>I=.returned (.int .i64 (bQ a 64:Nat))/\E=L:=by
 obtain ⟨p,k⟩:∃c,c=a >>> 1&&& 6148914691236517205:=⟨_,rfl⟩;obtain ⟨q,l⟩:∃c,c=a&&& 6148914691236517205:=⟨_,rfl⟩;have b1:p<=6148914691236517205:=by rw [k];exact zFc
 have b2:q<=6148914691236517205:=by rw [l];exact zFc
 obtain ⟨d,y⟩:∃b,b=p+q:=⟨_,rfl⟩;obtain ⟨r,m⟩:∃c,c=d >>> 2&&& 3689348814741910323:=⟨_,rfl⟩;obtain ⟨s,n⟩:∃c,c=d&&& 3689348814741910323:=⟨_,rfl⟩;have F:r<=3689348814741910323:=by rw [m];exact zFc
 have G:s<=3689348814741910323:=by rw [n];exact zFc
 obtain ⟨e,z⟩:∃b,b=r+s:=⟨_,rfl⟩;obtain ⟨g,u⟩:∃K,K=e >>> 4+e:=⟨_,rfl⟩;have J:g=e / 16+e:=by rw [u,zDu]
 obtain ⟨f,o⟩:∃b,b=g&&& 1085102592571150095:=⟨_,rfl⟩;have H:f<=1085102592571150095:=by rw [o];exact zFc
 obtain ⟨i,A⟩:∃b,b=f+f / 256:=⟨_,rfl⟩;obtain ⟨j,B⟩:∃b,b=i+i / 65536:=⟨_,rfl⟩;obtain ⟨t,C⟩:∃b,b=j+j / 4294967296:=⟨_,rfl⟩;have x:f=aEi a:=by rw [o,u,z,m,n,y,k,l];rfl
 obtain ⟨w,O⟩:=aPm v (by rw [<-x];exact A) B C;have S:bits .and .u64 ((a:Int)/ 2) 6148914691236517205=(p:Int):=by rw [k];exact aCN a 1 6148914691236517205 2 v oM dC
 have V:bits .and .u64 (a:Int) 6148914691236517205=(q:Int):=by rw [l];exact aFc a 6148914691236517205 v oM
 have W:IntKind.u64.wrap (p+q)=(d:Int):=zv
 have X:bits .and .u64 ((d:Int)/ 4) 3689348814741910323=(r:Int):=by rw [m];exact aCN d 2 3689348814741910323 4 oM oM dC
 have Y:bits .and .u64 (d:Int) 3689348814741910323=(s:Int):=by rw [n];exact aFc d 3689348814741910323 oM oM
 have Z:IntKind.u64.wrap (r+s)=(e:Int):=zv
 have a0:IntKind.u64.wrap (e/ 16+e)=(g:Int):=zv
 have a1:bits .and .u64 (g:Int) 1085102592571150095=(f:Int):=by rw [o];exact aFc g 1085102592571150095 oM oM
 have a2:IntKind.u64.wrap (f+f/ 256)=(i:Int):=zv
 have T:IntKind.u64.wrap (i+i/ 65536)=(j:Int):=zv
 have U:IntKind.u64.wrap (j+j/ 4294967296)=(t:Int):=zv
 have R:t < 9223372036854775808:=oM;have D:bits .and .i64 (t:Int) 127=((bQ a 64:Nat):Int):=by have:=bits_mask .i64 63 dC (λa3 M N=>by rw [wI0];omega) 7 dC (t:Int) oM oM;rw [show ((2:Int)^ 7 - 1)=127 by decide,show ((2:Int)^ 7)=128 by decide] at this;rw [this,<-w];omega
 clear k l y m n z u J o A B C x w b1 b2 F G H;go_enter func263,ntmps263;go_wp2;go_ret;exact ⟨fM (by first | exact D | simp [D]),rfl⟩
def aKZ (d) {a c} (f:a<=c):bQ (d % 2 ^ a) c=bQ d a:=by
 obtain ⟨b,rfl⟩:∃b,c=a+b:=⟨c - a,by omega⟩;rw [aEM,aEL];have:(d % 2 ^ a)>>> a=0:=by rw [zDu];exact zGq (zFG _ (zFn a))
 rw [this];have e:∀b,bQ 0 b=0:=λb=>by unfold bQ;simp
 rw [e];rfl
def aDa (b:Nat) (a:Int):Nat:=b % 2 ^(min a.toNat 64)
def uvn (a:Nat):Value:=.int .u64 a
def uR {d:Nat} (c:Int) (y:d < 18446744073709551616) (v:-9223372036854775808<=c/\c<=9223372036854775807) (g):
 Calls prog 265 #[.int .u64 d,(c:Int)] g λi o=>i=.returned (.int .u64 (aDa d c:Nat))/\g=o:=by
 unfold aDa;by_cases f:c<=0
 .have j:d % 2 ^(min c.toNat 64)=0:=(by rw [show c.toNat=0 by omega];simp [Nat.mod_one]);rw [j];go_enter func265,ntmps265;go_wp2;go_ret;exact ⟨rfl,rfl⟩
 .by_cases m:c>=64
  .have k:d % 2 ^(min c.toNat 64)=d:=(by rw [show min c.toNat 64=64 by omega];exact zBu oM);rw [k];have s:¬(c<=0):=f;go_enter func265,ntmps265;go_wp2;go_ret;exact ⟨rfl,rfl⟩
  .obtain ⟨b,rfl⟩:∃b:Nat,c=b:=⟨c.toNat,by omega⟩;have n:b < 64:=oM;have p:=zn ((b:Int)<=0);have q:=zn ((b:Int)>=64);have l:min (b:Int).toNat 64=b:=oM;rw [l];have w:2 ^ b < 18446744073709551616:=(zj (zET (a:=2) dC n));have e:((2:Int)^ b)=((2 ^ b:Nat):Int):=(by push_cast;rfl);have x:=zFn b;have r:IntKind.u64.wrap ((2:Int)^ b)=(2:Int)^ b:=(by rw [e,kn];omega);have t:IntKind.u64.wrap ((2:Int)^ b - 1)=(2:Int)^ b - 1:=(by rw [e,kn];omega);have u:bits .and .u64 (d:Int) ((2:Int)^ b - 1)=(d:Int)% 2 ^ b:=bits_mask .u64 64 dC (λz f m=>by rw [kn];omega) b oM (d:Int) oM oM;clear e;go_enter func265,ntmps265;go_wp2;go_ret;exact ⟨by first | rfl | simp,rfl⟩
def jM (j:Option Addr) (d w r:Nat) (c:List Nat) (e:World) (o:Rd e r 1 j d (c.map uvn)) (A:∀G∈c,G < 18446744073709551616) (N:d<=1048576):
 Calls prog 249 #[.slice j d w] e λl p=>l=.returned (.int .i64 ((c.map λb=>bQ b 64).sum:Nat))/\e=p:=by
 have B:c.length=d:=by simpa using o.1
 have v:=o;have t:=A;have k:=B;have x:∀a,((c.take a).map λb=>bQ b 64).sum<=a*64:=λa=>by
  induction a with
  | zero=>simp
  | succ a F=>
   by_cases m:a < c.length;rw [zDo m,zAz,List.sum_append];have:=rJ c[a] 64;simp only [zEJ,zGv,List.sum_cons,List.sum_nil];omega;rw [zAg oM];rw [zAg oM] at F;omega
 have s:=x;go_enter func249,ntmps249;go_wp2;go_loopw [3,8] (λH i wr=>∃a:Nat,a<=d/\i=.int .i64 a/\H=.int .i64 (((c.take a).map λb=>bQ b 64).sum:Nat)/\e=wr) (λ_ i _=>d -(intOf i).toNat)
 case atStart=>exact ⟨0,zAp _,rfl,by simp,rfl⟩
 case round=>
  obtain ⟨a,m,rfl,rfl,rfl⟩:=hrel;by_cases n:a < d
  .have z:a < c.length:=(by rw [k];exact n);obtain ⟨b,g⟩:∃b,c[a]?=some b:=⟨c[a],zAa z⟩;obtain ⟨I,O,R,rfl,L,f,y⟩:=v.get n;rw [zAf,g] at f;simp at f;subst f;unfold uvn at y;have E:=t b (zAd g);have C:((c.take (a+1)).map λb=>bQ b 64).sum=((c.take a).map λb=>bQ b 64).sum+bQ b 64:=(by rw [zAv,g];simp);have K:=s a;have J:=rJ b 64;generalize ((c.take a).map λb=>bQ b 64).sum=q at*
   have u:=C;go_wp2_with fail;refine (aBN E _).mono ?_;rintro l p ⟨rfl,rfl⟩;go_wp2;go_roundw
   case rel=>exact ⟨a+1,by omega,by go_num,by rw [u];go_num,trivial⟩
   case measure=>exact zr
  .have M:d<=a:=oM;have D:c.take a=c:=zAg (zj k);rw [D];go_wp2;go_ret;exact ⟨rfl,rfl⟩
def aAg (b:Nat) (a:Int):Nat:=bQ b (min a.toNat 64)
def vW {a:Nat} (b:Int) (f:a < 18446744073709551616) (i:-9223372036854775808<=b/\b<=9223372036854775807) (d):
 Calls prog 254 #[.int .u64 a,(b:Int)] d λc e=>c=.returned (.int .i64 (aAg a b:Nat))/\Below d.heap.size d e:=by
 have j:aDa a b < 18446744073709551616:=by unfold aDa;exact zDF (Nat.mod_le _ _) f
 have g:bQ (aDa a b) 64=aAg a b:=aKZ a (Nat.min_le_right _ _);go_enter func254,ntmps254;go_wp2_with fail;refine (uR b f i _).mono ?_;rintro c e ⟨rfl,rfl⟩;go_wp2_with fail;refine (jM _ 1 1 _ [aDa a b] _ (Rd.made _ _ 1 1 _ rfl) (by simpa using j) oM).mono ?_;rintro c e ⟨rfl,rfl⟩;have k:(([aDa a b].map λa=>bQ a 64).sum)=aAg a b:=by simp [g]
 rw [k];go_wp2;go_ret;exact ⟨rfl,bR.alloc nL _⟩
end
section
def mN:List Bool->Nat
 | []=>0
 | b::l=>(if b then 1 else 0)+2*mN l
def zK (a):mN a < 2 ^ a.length:=by
 induction a with
 | nil=>simp [mN]
 | cons b a c=>
  simp only [mN,zCg,zEM];cases b <;> simp <;> omega
def lN (b a):(mN b).testBit a=b.getD a false:=by
 induction b generalizing a with
 | nil=>simp [mN]
 | cons c b e=>
  cases a with
  | zero=>
   simp only [mN,List.getD_cons_zero,zEH];cases c <;> simp <;> omega
  | succ a=>
   have d:((if c then 1 else 0)+2*mN b)/ 2=mN b:=(by cases c <;> simp <;> omega);simp only [mN,List.getD_cons_succ,zEt,d];exact e a
def aEX (a b):mN (a++b)=mN a+2 ^ a.length*mN b:=by
 induction a with
 | nil=>simp [mN]
 | cons d a c=>
  simp only [zEm,mN,c,zCg,zEM];cases d <;> simp <;> rw [Nat.mul_add,<-Nat.mul_assoc,zFY 2 (2 ^ a.length)] <;> omega
def rR (b a):bQ (mN b) a=(b.take a).count true:=by
 induction a with
 | zero=>simp [rI]
 | succ a e=>
  rw [dW,e,lN,zAv,zCc];cases c:b[a]? with
  | none=>simp [zAb,c]
  | some d=>cases d <;> simp [zAb,c]
def aCo (b a):mN (b++ [a])=mN b+if a then 2 ^ b.length else 0:=by
 rw [aEX];cases a <;> simp [mN]
def aKY (a b) (c:a < 2 ^ b):a||| 2 ^ b=a+2 ^ b:=by
 have:=Nat.two_pow_add_eq_or_of_lt c 1;rw [zBl] at this;rw [Nat.or_comm,<-this,zCt]
def w0 (a:List Bool):Nat:=mN (a.take 64)
def w1 (a:List Bool):Nat:=mN (a.drop 64)
def pG (a):w0 a < 18446744073709551616:=by
 have c:=zK (a.take 64);have b:(a.take 64).length<=64:=by rw [zAj];omega
 have d:=zBp (n:=2) dC b;unfold w0;omega
def pA {l} (d:l.length<=128):w1 l < 18446744073709551616:=by
 have b:=zK (l.drop 64);have a:(l.drop 64).length<=64:=by rw [zAw];omega
 have c:=zBp (n:=2) dC a;unfold w1;omega
def aNU {a} (b:a.length<=128):bQ (w0 a) 64+bQ (w1 a) 64=a.count true:=by
 unfold w0 w1;rw [rR,rR,zEy,Nat.min_self,zAg (l:=a.drop 64) (by rw [zAw];omega),<-zCc,zAu]
def aNT {b a} (g:b.length<=128) (f:a<=b.length):bQ (w0 b) (min a 64)+bQ (w1 b) (min (a - 64) 64)=(b.take a).count true:=by
 unfold w0 w1;rw [rR,rR,zEy];rcases zBe a 64 with e | e
 .have c:min (min a 64) 64=a:=oM;have d:min (a - 64) 64=0:=oM;rw [c,d,zDN,zEz,zBq]
 have c:min (min a 64) 64=64:=oM;have d:min (a - 64) 64=a - 64:=oM;rw [c,d,<-zCc];congr 1;rw [<-zAu 64 (b.take a),zEy,List.drop_take];congr 2;omega
def aBZ (a b) (c:a.length < 64):w0 (a++ [b])=w0 a+(if b then 2 ^ a.length else 0)/\w1 (a++ [b])=w1 a:=by
 unfold w0 w1;rw [zAg zt,zAg oM,zEE zt,zEE oM];exact ⟨aCo a b,rfl⟩
def aB0 (a b) (c:64<=a.length):w0 (a++ [b])=w0 a/\w1 (a++ [b])=w1 a+(if b then 2 ^(a.length - 64) else 0):=by
 unfold w0 w1;rw [zDi c,zDC c,aCo,zAw];exact ⟨rfl,rfl⟩
def aJ0 (a) (b:a.length < 64):w0 a < 2 ^ a.length:=by
 unfold w0;rw [zAg oM];exact zK a
def aJY (a):w1 a < 2 ^(a.length - 64):=by
 unfold w1;have:=zK (a.drop 64);rwa [zAw] at this
end
section
open Go.RowKit Go
section
variable {P : Program} {ops : Array Oper} {Q : Exit -> Act -> World -> Prop} {md : Region.Mode}
def tU (o) {C} {S:Nat->World->World->Prop} {U:Nat->World->Prop} {V} (f) {k} (x:ops.toList.filterMap (·.dst)=o) (A:kL md ops f.tmps.size=true) (t:C k) (v:∀a,U a k) (s:∀c b d,C b->S c b d->C d) (u:∀a c b d,a≠c->upB md ops ops.size c a=false->U a b->C b->S c b d->U a d) (D:∀a c e b d,a≠c->aDt md ops a c=false->V a e b->C b->S c b d->V a e d) (E:∀c j,ops[c]?=some j->dN P ops Q md C S U V f c j) (y:∀(i:Operand->Value) b,C b->(∀a g,((ops[a]?).bind (·.dst))=some g->V a (i (.tmp g)) b)->(∀a,a < ops.size->∃e,V a e b)->Q .normal (dJ i o f) b):
 wpAny P md ops Q ops.size (Array.replicate ops.size false) f k:=by
 exact mP (n:=ops.size) (C:=λ_=>C) (S:=λc _=>S c) (U:=U) (V:=λa _=>V a) (by rw [zR];exact x) nL A (λr a p m=>absurd m oM) t v (λc _ _ _ _ b d _ _ _ _ l r=>s c b d l r) (λa c _ _ b d _=>u a c b d) (λ_ _ _ _ _ _ _ _ l=>l) (λa c _ _ _ e _ b d _ z _ _ p m=>D a c e b d p (aHf z m)) (λc j _ B=>E c j B) λi b H w F G=>qD rfl (y i b w (λa g q=>F a g (aGX q) q) G)
end
def yM (e:Nat->Prop) (a b:Nat) (c d:World):Prop:=(b=a->Keep e c d)/\(b≠a->Grow c d)
def kZ {a b e f g} (c:yM a b e f g):Keep a f g:=by
 by_cases d:e=b;exact c.1 d;exact kF (c.2 d)
def aE {d e f b c} (a:Grow b c):yM d e f b c:=⟨λ_=>kF a,λ_=>a⟩
def kq {e:Nat->Prop} {f j:Nat} {b:World} {d Q:Value->World->Prop} (i:∀a c,yM e f j b c->d a c->Q a c) {a:Value} (g:d a b):Q a b:=i a b (aE bR) g
def aW {a b c d} (f:Keep a c d):yM a b b c d:=⟨λ_=>f,λe=>absurd rfl e⟩
def tO (e:Nat->Prop) (a:Value->World->Prop):Prop:=∀b c d,a b c->Keep e c d->a b d
def gK (a b):tO a (is b):=λ_ _ _ c _=>c
def zU {i c} (k:∀g∈c,tO i g):∀b d e f,Vs c b d e->Keep i e f->Vs c b d f:=by
 intro b d e f a l;unfold Vs at a⊢;rw [zAb] at a⊢;cases j:c[b]? with
 | none=>simp
 | some g=>rw [j] at a;simp only [zFd] at a⊢;exact k g (zAd j) d e f a l
def VsJ (b:Nat) (d:Value->World->Prop) (c:List (Value->World->Prop)) (a:Nat):Value->World->Prop:=if a=b then d else Vs c a
def bM {P:Program} {ops:Array Oper} {Q:Exit->Act->World->Prop} {md:Region.Mode} (o:List Nat) (g:Nat->Prop) (c:Nat) (w:List Nat) {pre:World->Prop} {pJ:Value->World->Prop} (m:List (Value->World->Prop)) (j:Act) {i:World} (B:ops.toList.filterMap (·.dst)=o) (D:kL md ops j.tmps.size=true) (G:(w.all λb=>b==c||upB md ops ops.size c b)=true) (F:pre i) (E:∀a d,pre a->Keep g i a->Grow a d->pre d) (A:Stb pJ) (H:∀K∈m,tO g K) (I:∀e v,ops[e]?=some v->dN P ops Q md (Keep g i) (yM g c) (λb a=>w.contains b=true->pre a) (VsJ c pJ m) j e v) (C:∀(r:Operand->Value) a,Keep g i a->(∀b q,((ops[b]?).bind (·.dst))=some q->VsJ c pJ m b (r (.tmp q)) a)->(∀b,b < ops.size->∃n,VsJ c pJ m b n a)->Q .normal (dJ r o j) a):
 wpAny P md ops Q ops.size (Array.replicate ops.size false) j i:=by
 refine tU o j B D (ke _ _) (λ_ _=>F) (λe a d y f=>y.trans (kZ f)) (λb e a d p J k z f t=>?_) (λb e n a d p _ l _ f=>?_) I C;by_cases u:e=c;exfalso;subst u;have s:=zBf.1 G b (by simpa using t);simp only [J,zGn,zCr] at s;exact p s;exact E a d (k t) z (f.2 u);unfold VsJ at l⊢;by_cases k:b=c;rw [zBx k] at l⊢;exact A n a d l (f.2 λx=>p (k.trans x.symm));rw [zBw k] at l⊢;exact zU H b n a d l (kZ f)
def aCi {d m n a k j f l o} (g:m.ownsRow a f k l j o) (v:Keep d m n) (u:∀e,d e->e < a):n.ownsRow a f k l j o:=by
 refine ⟨g.1,?_⟩;rcases g.2 with c |⟨b,p,q,c,s,i,t⟩;exact .inl c;exact .inr ⟨b,p,q,c,s,(v.block b (lt_of_block i) (λr=>by have:=u b r;omega)).trans i,t⟩
def Made.o {d m n b l k f g c o} (a:Made m b g l c k f o) (j:Keep d m n) (i:∀e,d e->e < b):Made n b g l c k f o:=
 ⟨aCi a.own j i,Rd.s (aCi a.own j i),a.cap,a.max⟩
def Made.mono {g B B' f e c d b i} (a:Made g B d f b e c i) (hB:B'<=B):Made g B' d f b e c i:=⟨cG a.own hB,a.rd,a.cap,a.max⟩
def jD (d:Nat) (e:TypeId) (f c:Nat) (j:List Value):Value->World->Prop:=λg i=>∃a b,g=.slice a c b/\Made i d e f a c b j
def mT {b a} (j:∀c,b c->c < a) (f m l n):tO b (jD a f m l n):=λ_ _ _ ⟨d,e,g,i⟩ k=>⟨d,e,g,i.o k j⟩
def pT (b:Nat->Prop) (d:TypeId) (c:Array Value) (mk:Nat->Value):Value->World->Prop:=λe f=>∃a,e=mk a/\Bk f a d c/\¬b a
def zT (a d c) (mk:Nat->Value):tO a (pT a d c mk):=λ_ _ _ ⟨e,f,g,b⟩ i=>⟨e,f,i.d g b,b⟩
def cO:Value->World->Prop:=λ_ _=>True
def fB (a):tO a cO:=λ_ _ _ _ _=>trivial
end
section
open Go.RowKit
def dL (a:List Bool):Array Value:=#[.int .i64 a.length,.int .u64 (w0 a:Nat),.int .u64 (w1 a:Nat)]
def aIS (a:Nat) {b:Nat} (e:a < 18446744073709551616) (f:b < 18446744073709551616):bits .or .u64 (a:Int) (b:Int)=((a||| b:Nat):Int):=
 (bits_nat .u64 64 dC (λg c d=>by rw [kn];omega) a b oM oM).2
def gQ {A m} (ac) {a5 l w} (s:Rd w a5 1 A m (l.map Value.bool)) (hB:a5<=w.heap.size) (aH:m<=128):
 Calls prog 246 #[.slice A m ac] w λJ a9=>J=.returned (.tuple #[w.heap.size,o0])/\Bk a9 w.heap.size 250 (dL l)/\Below w.heap.size w a9:=by
 have au:l.length=m:=by simpa using s.1
 obtain ⟨U,ab⟩:=hqq2 au (s.mono hB);have aD:¬((m:Int) > 128):=oM;obtain ⟨c,a0⟩:=eqx w.heap.size;go_enter func246,ntmps246;go_wp2;have ap:=(kg w.heap.size w).alloc nL (.cells #[(m:Int),.int .u64 0,.int .u64 0] 250);have a6:=kd w 250 #[(m:Int),.int .u64 0,.int .u64 0];rw [a0] at a6
 try rw [a0]
 go_loopw [16] (λa3 wr=>∃b:Nat,b<=m/\a3=.int .i64 b/\Bk wr c 250 #[(m:Int),.int .u64 (w0 (l.take b):Nat),.int .u64 (w1 (l.take b):Nat)]/\Below w.heap.size w wr) (λa3 _=>m -(intOf a3).toNat)
 case atStart=>exact ⟨0,zAp _,rfl,a6,ap⟩
 case round=>
  obtain ⟨b,aG,rfl,B,u⟩:=hrel;have a8:=u.size;by_cases a7:b < m
  .have ar:b < l.length:=(by rw [U.out];exact a7);obtain ⟨S,R⟩:∃S,l[b]?=some S:=⟨l[b],zAa ar⟩;obtain ⟨k,aI,aJ,rfl,aA,a2,aC⟩:=(ab.below u).get a7;rw [zAf,R] at a2;simp at a2;subst a2;have C:l.take (b+1)=l.take b++ [S]:=(by rw [zAv,R];rfl);have G:(l.take b).length=b:=(by rw [zAj];omega);cases S with
   | false=>
    have q:w0 (l.take (b+1))=w0 (l.take b)/\w1 (l.take (b+1))=w1 (l.take b):=(by rw [C];rcases zBe b 64 with i | i;have:=aBZ (l.take b) false oM;simpa using this;have:=aB0 (l.take b) false oM;simpa using this);obtain ⟨Hn,aa⟩:=hqq2 q B;go_wp2;go_roundw
    case rel=>exact ⟨b+1,by omega,by go_num,by rw [Hn.1,Hn.2];exact aa,u⟩
    case measure=>exact zr
   | true=>
    rcases zBe b 64 with ao | ao
    .obtain ⟨f,s⟩:∃f:Nat,f=b:=⟨_,rfl⟩;have aw:IntKind.i64.wrap (b/ 64)=0:=zu;have av:(b:Int).tmod 64=f:=(by rw [zDA oM];omega);have ax:IntKind.u64.wrap f=(f:Int):=zv;have a1:f < 64:=oM;obtain ⟨P,j⟩:∃P:Nat,P=2 ^ f:=⟨_,rfl⟩;have W:P < 18446744073709551616:=(zj (zET (a:=2) dC a1));obtain ⟨g,t⟩:∃g:Nat,g=w0 (l.take b):=⟨_,rfl⟩;obtain ⟨o,z⟩:∃o:Nat,o=w1 (l.take b):=⟨_,rfl⟩;obtain ⟨n,y⟩:∃n:Nat,n=g+P:=⟨_,rfl⟩;have L:g < P:=(by have:=aJ0 (l.take b) oM;rw [G] at this;rw [t,j,s];exact this);have q:=aBZ (l.take b) true oM;rw [<-C,<-t,<-z,G] at q;have M:w0 (l.take (b+1))=n/\w1 (l.take (b+1))=o:=⟨by rw [q.1,y,j,s];rfl,q.2⟩;have N:bits .or .u64 (g:Int) (P:Int)=(n:Int):=(by rw [aIS g oM W,j,aKY g f (by rw [<-j];exact L),y,j]);have T:=lhd N;have K:IntKind.u64.wrap ((2:Int)^ f)=(P:Int):=(by rw [j,kn];have J:((2:Int)^ f)=((2 ^ f:Nat):Int):=(by push_cast;rfl);rw [J,<-j];omega);obtain ⟨H,I⟩:=hqq2 K M;rw [<-t,<-z] at B;clear N K q M t z y j L C G R s;go_wp2;refine wp_region_any kR<|bM (pJ:=(λ_ w1=>Bk w1 c 250 #[(m:Int),.int .u64 n,.int .u64 o])) [22,23,24,25,26,27,28,29,30,31,32,33,34,35,36] (λk=>k=c) 15 [6,15] [is (.pointer (some ⟨c,0,none⟩)),is (b:Int),is o0,is (.pointer (some ⟨c,0,none⟩)),is (.pointer (some ⟨c,1,none⟩)),is (.pointer (some ⟨c,1,none⟩)),is (.int .u64 g),is (b:Int),is (f:Int),is (.int .u64 f),is (.int .u64 P),is (.int .u64 n),is (.pointer (some ⟨c,0,none⟩)),is (.pointer (some ⟨c,1,none⟩)),is (.pointer (some ⟨c,1,none⟩)),cO] _ rfl kR kR (B) (λw1 az i _ Z=>kf i Z i.lt) (λ_ _ _ i b=>kf i b i.lt) tA1 ?_ ?_
     .refine aL<|pH3 4 (.pointer (some ⟨c,0,none⟩))<|pH3 5 (.int .i64 b)<|sC3 (λ_ _ _ _ _ _ _ d _ _ _ e=>?_) ?_
      .have ad:_=_:=d 1 23 kR rfl;go_simp;exact e _ _ (aE bR) (cS (by first | rfl | omega))
      refine pV3 0 22<|pV3 3 25<|pW3 4 26 2 24<|sC3 (λ_ D _ x _ _ _ d _ _ _ e=>?_) ?_
      .have r:=x rfl;have ae:_=_:=d 5 27 kR rfl;have V:D.cell? ⟨c,1,none⟩=some (.int .u64 g):=(r.cell 1).trans rfl;go_simp;exact kq e rfl
      refine pH3 5 (.int .i64 b)<|sC3 (λ_ _ _ _ _ _ _ d _ _ _ e=>?_) ?_
      .have ag:_=_:=d 7 29 kR rfl;go_simp;exact e _ _ (aE bR) (cS (by first | rfl | omega))
      refine sC3 (λ_ _ _ _ _ _ _ d _ _ _ e=>?_) ?_
      .have ah:_=_:=d 8 30 kR rfl;go_simp;exact e _ _ (aE bR) (iT (by first | rfl | omega))
      refine sC3 (λ_ _ _ _ _ _ _ d _ _ _ e=>?_) ?_
      .have ai:_=_:=d 9 31 kR rfl;go_simp;exact e _ _ (aE bR) (iT (by first | exact H | simpa using H.out))
      refine sC3 (λ_ _ _ _ _ _ _ d _ _ _ e=>?_) ?_
      .have af:_=_:=d 6 28 kR rfl;have aj:_=_:=d 10 32 kR rfl;go_simp;exact e _ _ (aE bR) (iT T)
      refine pV3 0 22<|pV3 12 34<|pW3 13 35 2 24<|sC3 (λ_ D _ x _ _ _ d _ _ _ e=>?_) ?_
      .have r:=x rfl;have al:_=_:=d 14 36 kR rfl;have ak:_=_:=d 11 33 kR rfl;have V:D.cell? ⟨c,1,none⟩=some (.int .u64 g):=(r.cell 1).trans rfl;have an:=r.frozen 1;go_simp;exact e (.bool true) _ (aW (ka (F:=λk=>k=c) (ke _ _) (p:=⟨c,1,none⟩) (.inl rfl) _)) (r.set 1 _)
      exact aB
     .intro am E v d X;replace v:Keep (λk=>k=c) wr E:=kD v;obtain ⟨ay,O⟩:∃a4,(λ_ w1=>Bk w1 c 250 #[(m:Int),.int .u64 n,.int .u64 o]) a4 E:=X 15 dC;simp only [zqq];have Y:Below w.heap.size w E:=u.trans (v.e a8 (λk u i=>absurd (show k=c from i) oM));go_wp2;go_roundw
      case rel=>exact ⟨b+1,by omega,by go_num,by rw [I.1,I.2];exact O,Y⟩
      case measure=>exact zr
    .obtain ⟨f,s⟩:∃f:Nat,f=b - 64:=⟨_,rfl⟩;have aw:IntKind.i64.wrap (b/ 64)=1:=zu;have av:(b:Int).tmod 64=f:=(by rw [zDA oM];omega);have ax:IntKind.u64.wrap f=(f:Int):=zv;have a1:f < 64:=oM;obtain ⟨P,j⟩:∃P:Nat,P=2 ^ f:=⟨_,rfl⟩;have W:P < 18446744073709551616:=(zj (zET (a:=2) dC a1));obtain ⟨g,t⟩:∃g:Nat,g=w1 (l.take b):=⟨_,rfl⟩;obtain ⟨o,z⟩:∃o:Nat,o=w0 (l.take b):=⟨_,rfl⟩;obtain ⟨n,y⟩:∃n:Nat,n=g+P:=⟨_,rfl⟩;have L:g < P:=(by have:=aJY (l.take b);rw [G] at this;rw [t,j,s];exact this);have q:=aB0 (l.take b) true oM;rw [<-C,<-t,<-z,G] at q;have M:w1 (l.take (b+1))=n/\w0 (l.take (b+1))=o:=⟨by rw [q.2,y,j,s];rfl,q.1⟩;have N:bits .or .u64 (g:Int) (P:Int)=(n:Int):=(by rw [aIS g oM W,j,aKY g f (by rw [<-j];exact L),y,j]);have T:=lhd N;have K:IntKind.u64.wrap ((2:Int)^ f)=(P:Int):=(by rw [j,kn];have J:((2:Int)^ f)=((2 ^ f:Nat):Int):=(by push_cast;rfl);rw [J,<-j];omega);obtain ⟨H,I⟩:=hqq2 K M;rw [<-t,<-z] at B;clear N K q M t z y j L C G R s;go_wp2;refine wp_region_any kR<|bM (pJ:=(λ_ w1=>Bk w1 c 250 #[(m:Int),.int .u64 o,.int .u64 n])) [22,23,24,25,26,27,28,29,30,31,32,33,34,35,36] (λk=>k=c) 15 [6,15] [is (.pointer (some ⟨c,0,none⟩)),is (b:Int),is (.int .i64 1),is (.pointer (some ⟨c,0,none⟩)),is (.pointer (some ⟨c,1,none⟩)),is (.pointer (some ⟨c,2,none⟩)),is (.int .u64 g),is (b:Int),is (f:Int),is (.int .u64 f),is (.int .u64 P),is (.int .u64 n),is (.pointer (some ⟨c,0,none⟩)),is (.pointer (some ⟨c,1,none⟩)),is (.pointer (some ⟨c,2,none⟩)),cO] _ rfl kR kR (B) (λw1 az i _ Z=>kf i Z i.lt) (λ_ _ _ i b=>kf i b i.lt) tA1 ?_ ?_
     .refine aL<|pH3 4 (.pointer (some ⟨c,0,none⟩))<|pH3 5 (.int .i64 b)<|sC3 (λ_ _ _ _ _ _ _ d _ _ _ e=>?_) ?_
      .have ad:_=_:=d 1 23 kR rfl;go_simp;exact e _ _ (aE bR) (cS (by first | rfl | omega))
      refine pV3 0 22<|pV3 3 25<|pW3 4 26 2 24<|sC3 (λ_ D _ x _ _ _ d _ _ _ e=>?_) ?_
      .have r:=x rfl;have ae:_=_:=d 5 27 kR rfl;have V:D.cell? ⟨c,2,none⟩=some (.int .u64 g):=(r.cell 2).trans rfl;go_simp;exact kq e rfl
      refine pH3 5 (.int .i64 b)<|sC3 (λ_ _ _ _ _ _ _ d _ _ _ e=>?_) ?_
      .have ag:_=_:=d 7 29 kR rfl;go_simp;exact e _ _ (aE bR) (cS (by first | rfl | omega))
      refine sC3 (λ_ _ _ _ _ _ _ d _ _ _ e=>?_) ?_
      .have ah:_=_:=d 8 30 kR rfl;go_simp;exact e _ _ (aE bR) (iT (by first | rfl | omega))
      refine sC3 (λ_ _ _ _ _ _ _ d _ _ _ e=>?_) ?_
      .have ai:_=_:=d 9 31 kR rfl;go_simp;exact e _ _ (aE bR) (iT (by first | exact H | simpa using H.out))
      refine sC3 (λ_ _ _ _ _ _ _ d _ _ _ e=>?_) ?_
      .have af:_=_:=d 6 28 kR rfl;have aj:_=_:=d 10 32 kR rfl;go_simp;exact e _ _ (aE bR) (iT T)
      refine pV3 0 22<|pV3 12 34<|pW3 13 35 2 24<|sC3 (λ_ D _ x _ _ _ d _ _ _ e=>?_) ?_
      .have r:=x rfl;have al:_=_:=d 14 36 kR rfl;have ak:_=_:=d 11 33 kR rfl;have V:D.cell? ⟨c,2,none⟩=some (.int .u64 g):=(r.cell 2).trans rfl;have an:=r.frozen 2;go_simp;exact e (.bool true) _ (aW (ka (F:=λk=>k=c) (ke _ _) (p:=⟨c,2,none⟩) (.inl rfl) _)) (r.set 2 _)
      exact aB
     .intro am E v d X;replace v:Keep (λk=>k=c) wr E:=kD v;obtain ⟨ay,O⟩:∃a4,(λ_ w1=>Bk w1 c 250 #[(m:Int),.int .u64 o,.int .u64 n]) a4 E:=X 15 dC;simp only [zqq];have Y:Below w.heap.size w E:=u.trans (v.e a8 (λk u i=>absurd (show k=c from i) oM));go_wp2;go_roundw
      case rel=>exact ⟨b+1,by omega,by go_num,by rw [I.1,I.2];exact O,Y⟩
      case measure=>exact zr
  .have aF:m<=b:=oM;have C:l.take b=l:=zAg (zj U.out);rw [C] at B;have aq:Bk wr c 250 (dL l):=(by unfold dL;rw [U.out];exact B);go_wp2;go_ret2;rw [a0] at u⊢;exact ⟨rfl,aq,u⟩
def kT {gb l w} (b:Bk w gb 250 (dL l)):
 Calls prog 260 #[gb] w λa c=>a=.returned (.int .i64 l.length)/\w=c:=by
 have d:w.cell? gb=some (.int .i64 l.length):=(b.cell 0).trans rfl;go_enter func260,ntmps260;go_wp2;go_ret;exact ⟨rfl,rfl⟩
def aOA {d a c} (e:Bk d a 250 (dL c)):Rd d d.heap.size 1 (some ⟨a,1,none⟩) 2 ([w0 c,w1 c].map uvn):=by
 refine ⟨rfl,λ_=>⟨a,1,rfl,e.lt,λf g b=>?_⟩⟩;rw [e.cell];rcases f with _ | _ | f;exact b;exact b
 .simp at b
def aBX {gb l w} (e:Bk w gb 250 (dL l)) (b:l.length<=128):
 Calls prog 267 #[gb] w λa d=>a=.returned (.int .i64 (l.count true:Nat))/\w=d:=by
 have f:(([w0 l,w1 l].map λg=>bQ g 64).sum)=l.count true:=by rw [<-aNU b];simp
 go_enter func267,ntmps267;go_wp2_with fail;refine (jM _ 2 2 _ [w0 l,w1 l] _ (aOA e) (by intro i c;simp at c;rcases c with rfl | rfl;exact pG l;exact pA b) oM).mono ?_;rintro a d ⟨rfl,rfl⟩;rw [f];go_wp2;go_ret;exact ⟨rfl,rfl⟩
def ix0 (a c b):(Instr.index 248 (.agg #[.int .u64 a,.int .u64 c]) (.int .i64 0)).run prog b=.ok (.int .u64 a) b:=by kernel_rfl
def ix1 (c a b):(Instr.index 248 (.agg #[.int .u64 c,.int .u64 a]) (.int .i64 1)).run prog b=.ok (.int .u64 a) b:=by kernel_rfl
def aBW {g c a d} (b:Bk d g 250 (dL c)) (t:c.length<=128) (A:a<=c.length):
 Calls prog 243 #[g,(a:Int)] d λk p=>k=.returned (.int .i64 ((c.take a).count true:Nat))/\Below d.heap.size d p:=by
 have s:=aNT t A;obtain ⟨j,C⟩:=eqx c.length;obtain ⟨f,m⟩:=eqx (w0 c);obtain ⟨i,n⟩:=eqx (w1 c);have y:f < 18446744073709551616:=by rw [<-m];exact pG c
 have b1:i < 18446744073709551616:=by rw [<-n];exact pA t
 have E:aAg f (a:Int)=bQ f (min a 64):=by unfold aAg;rw [zBr]
 have F:aAg i ((a:Int) - 64)=bQ i (min (a - 64) 64):=by unfold aAg;congr 2;omega
 rw [m,n] at s;have M:=rJ f (min a 64);have N:=rJ i (min (a - 64) 64);have z:d.cell? g=some (.int .i64 j):=by rw [<-C];exact (b.cell 0).trans rfl
 have q:d.cell? ⟨g,1,none⟩=some (.int .u64 f):=by rw [<-m];exact (b.cell 1).trans rfl
 have r:d.cell? ⟨g,2,none⟩=some (.int .u64 i):=by rw [<-n];exact (b.cell 2).trans rfl
 have B:=b.lt;have J:a<=j:=oM;have K:j<=128:=oM;have O:max (a:Int) 0=(a:Int):=oM;have R:min (a:Int) (j:Int)=(a:Int):=oM;have v:=s;have w:=E;have k0:=ix0;have L:=ix1;have x:=F;go_enter func243,ntmps243;go_wp2;go_loopw [5,14] (λG o wr=>∃e:Nat,e<=2/\o=.int .i64 e/\G=.int .i64 ((if e=0 then 0 else if e=1 then bQ f (min a 64) else (c.take a).count true):Nat)/\Below d.heap.size d wr) (λ_ o _=>2 -(intOf o).toNat)
 case atStart=>exact ⟨0,by omega,rfl,rfl,kg _ _⟩
 case round=>
  obtain ⟨e,I,rfl,rfl,b⟩:=hrel;have u:=b.size;have H:wr.cell? g=some (.int .i64 j):=(b.cell B).trans z;rcases e with _ | _ | _ | e
  .clear q r;simp only [if_true];go_wp2_with fail;refine (vW (a:Int) y oM _).mono ?_;rintro k p ⟨rfl,l⟩;rw [w];have hB:=b.trans (l.mono u);go_wp2;go_roundw
   case rel=>exact ⟨1,by omega,by go_num,by simp,hB⟩
   case measure=>simp [intOf]
  .clear q r;simp only [zBi,Nat.one_ne_zero,if_false,if_true];go_wp2_with fail;refine (vW ((a:Int) - 64) b1 oM _).mono ?_;rintro k p ⟨rfl,l⟩;rw [x];have hB:=b.trans (l.mono u);have D:(((bQ f (min a 64):Nat):Int)+(bQ i (min (a - 64) 64):Nat))=(((c.take a).count true:Nat):Int):=(by rw [<-v];push_cast;rfl);go_wp2;go_roundw
   case rel=>exact ⟨2,by omega,by go_num,by first | rfl |(simp;done)| exact cS (by simpa using D),hB⟩
   case measure=>simp [intOf]
  .simp only [show ¬(0+1+1=0) by omega,show ¬(0+1+1=1) by omega,if_false];go_wp2;go_ret;exact ⟨rfl,b⟩
  omega
def nE:(prog.info? 4).map (λa=>(a.zero,a.size,a.bytes))=some (some (.bool false),1,1):=by kernel_rfl
def vX (a):
 Calls prog 95 #[(268435456:Int)] a λc b=>c=.returned (.pointer (some a.heap.size))/\Bk b a.heap.size 183 #[(),(),(268435456:Int)]/\Below a.heap.size a b:=by
 go_enter func95,ntmps95;go_wp2;go_ret;exact ⟨rfl,kd _ _ _,bR.alloc nL _⟩
def aGt {c a g f} (d:Bk c a g #[f]):Rd c c.heap.size 1 (some ⟨a,0,none⟩) 1 [f]:=by
 refine ⟨rfl,λ_=>⟨a,0,rfl,d.lt,λb i e=>?_⟩⟩;rw [zBi,d.cell b];rcases b with _ | b;exact e
 .simp at e
def aC {m w' e a l k d n} (j:m.ownsRow e a l d k n) (s:∀c f,d.ownBlock=some c->Bk m c a f->Bk w' c a f):w'.ownsRow e a l d k n:=by
 refine ⟨j.1,?_⟩;rcases j.2 with b |⟨i,o,g,b,p,q,r⟩;exact .inl b;exact .inr ⟨i,o,g,b,p,s i g (by rw [b];rfl) q,r⟩
def wN {m d g c l k i f n} (e:Made m g c l f k i n) (o:∀a b,Bk m a c b->Bk d a c b):Made d g c l f k i n:=by
 have j:=aC (w':=d) e.own λa b _=>o a b;exact ⟨j,Rd.s j,e.cap,e.max⟩
structure VisF (F:Nat->Prop) (w w':World):Prop where
 os:w'.os=w.os
 tape:w'.tape=w.tape
 output:w'.output=w.output
 size:w.heap.size<=w'.heap.size
 block:∀b,b < w.heap.size->¬F b->w'.heap[b]?=w.heap[b]?∨(∃cs v,Bk w b 233 cs/\Bk w' b 233 (cs.setIfInBounds 3 (.int .i64 v)))∨(∃cs v,Bk w b 191 cs/\Bk w' b 191 (cs.setIfInBounds 10 (.int .i64 v)))
abbrev Vis:World->World->Prop:=VisF (λ_=>False)
def Vis.refl (a):Vis a a:=⟨rfl,rfl,rfl,zAs _,λ_ _ _=>.inl rfl⟩
def VisF.C {d b c} (a:Vis b c):VisF d b c:=⟨a.os,a.tape,a.output,a.size,λe f _=>a.block e f (λg=>g)⟩
def VisF.O {b c d} (a:Keep b c d):VisF b c d:=⟨a.os,a.tape,a.output,a.size,λe f g=>.inl (a.block e f g)⟩
def VisF.ak {d c f} (b:VisF d c f) (g:∀a,a < c.heap.size->¬d a):Vis c f:=⟨b.os,b.tape,b.output,b.size,λa e _=>b.block a e (g a e)⟩
def set_set (b:Array Value) (a:Nat) (d c:Value):(b.setIfInBounds a d).setIfInBounds a c=b.setIfInBounds a c:=by
 apply zGk
 .simp
 .intro g e f;simp [Array.getElem_setIfInBounds]
def aU {i d f g b c} (e:Bk i d f b) (a:Bk i d g c):f=g/\b=c:=by
 unfold Bk at e a;rw [e] at a;injection a with a;injection a with h1 h2;exact ⟨h2,h1⟩
def VisF.trans {F o w1 p} (e:VisF F o w1) (g:VisF F w1 p):VisF F o p:=by
 refine ⟨g.os.trans e.os,g.tape.trans e.tape,g.output.trans e.output,zAk e.size g.size,λj m n=>?_⟩;have q:j < w1.heap.size:=zAl m e.size;rcases e.block j m n with b |⟨f,l,b,c⟩|⟨f,l,b,c⟩<;> rcases g.block j q n with a |⟨k,i,a,d⟩|⟨k,i,a,d⟩;exact .inl (a.trans b);exact .inr (.inl ⟨k,i,b.symm.trans a,d⟩);exact .inr (.inr ⟨k,i,b.symm.trans a,d⟩);exact .inr (.inl ⟨f,l,b,a.trans c⟩);obtain ⟨_,rfl⟩:=aU c a;rw [set_set] at d;exact .inr (.inl ⟨f,i,b,d⟩);exact absurd (aU c a).1 dC;exact .inr (.inr ⟨f,l,b,a.trans c⟩);exact absurd (aU c a).1 dC;obtain ⟨_,rfl⟩:=aU c a;rw [set_set] at d;exact .inr (.inr ⟨f,i,b,d⟩)
def Vis.trans {a w1 b} (c:Vis a w1) (d:Vis w1 b):Vis a b:=VisF.trans c d
def Vis.j {b c} (a:Below b.heap.size b c):Vis b c:=⟨a.os,a.tape,a.output,a.size,λd e _=>.inl (a.block d e)⟩
abbrev kb:=@Vis.j
def Vis.E {b a d} (f:Bk b a 233 d) (g):Vis b (b.setCell ⟨a,3,none⟩ (.int .i64 g)):=by
 refine ⟨rfl,rfl,rfl,by simp [World.setCell],λc j _=>?_⟩;by_cases e:c=a;subst e;exact .inr (.inl ⟨d,g,f,f.set 3 _⟩);exact .inl (heap_setCell_other b ⟨a,3,none⟩ c _ (λi=>e i))
def Vis.N {b a d} (f:Bk b a 191 d) (g):Vis b (b.setCell ⟨a,10,none⟩ (.int .i64 g)):=by
 refine ⟨rfl,rfl,rfl,by simp [World.setCell],λc j _=>?_⟩;by_cases e:c=a;subst e;exact .inr (.inr ⟨d,g,f,f.set 10 _⟩);exact .inl (heap_setCell_other b ⟨a,10,none⟩ c _ (λi=>e i))
def VisF.put {F k w1} (b:VisF F k w1) {p} (c:F p.block∨k.heap.size<=p.block) (i):VisF F k (w1.setCell p i):=by
 refine ⟨b.os,b.tape,b.output,by simpa [World.setCell] using b.size,λd m l=>?_⟩;have f:(w1.setCell p i).heap[d]?=w1.heap[d]?:=heap_setCell_other w1 p d i (λn=>by
  rcases c with c | c;rw [<-n] at c;exact l c
  .omega)
 rcases b.block d m l with a |⟨e,j,a,g⟩|⟨e,j,a,g⟩;exact .inl (f.trans a);exact .inr (.inl ⟨e,j,a,f.trans g⟩);exact .inr (.inr ⟨e,j,a,f.trans g⟩)
def Vis.fresh {a w1} (c:Vis a w1) {p} (d:a.heap.size<=p.block) (b):Vis a (w1.setCell p b):=VisF.put c (.inr d) b
def Vis.alloc {a w1} (b:Vis a w1) (c:Obj):Vis a (w1.alloc c):=b.trans (kb (bR.alloc nL _))
def Vis.below {a w1 b} (c:Vis a w1) (d:Below w1.heap.size w1 b):Vis a b:=c.trans (kb d)
def VisF.d {e g i b d f} (l:VisF e g i) (c:Bk g b d f) (m:d≠233) (n:d≠191) (o:¬e b):Bk i b d f:=by
 rcases l.block b c.lt o with a |⟨j,p,a,k⟩|⟨j,p,a,k⟩;exact a.trans c;exact absurd (aU c a).1 m;exact absurd (aU c a).1 n
def VisF.tree {e l m b f g i k} (o:VisF e l m) (c:Bk l b 233 #[f,g,i,(k:Int)]) (p:¬e b):∃d,Bk m b 233 #[f,g,i,(d:Int)]:=by
 rcases o.block b c.lt p with a |⟨n,d,a,j⟩|⟨n,d,a,j⟩;exact ⟨k,a.trans c⟩;obtain ⟨_,rfl⟩:=aU c a;exact ⟨d,j⟩;exact absurd (aU c a).1 dC
def VisF.bu {g j f b e} (l:VisF g j f) (c:Bk j b 191 e) (m:¬g b):Bk f b 191 e∨∃d,Bk f b 191 (e.setIfInBounds 10 (.int .i64 d)):=by
 rcases l.block b c.lt m with a |⟨k,d,a,i⟩|⟨k,d,a,i⟩;exact .inl (a.trans c);exact absurd (aU c a).1 dC;obtain ⟨_,rfl⟩:=aU c a;exact .inr ⟨d,i⟩
def Vis.d {d e c a b} (f:Vis d e) (j:Bk d c a b) (g:a≠233) (i:a≠191):Bk e c a b:=VisF.d f j g i (λk=>k)
def Vis.tree {e f d a b c j} (g:Vis e f) (i:Bk e d 233 #[a,b,c,(j:Int)]):∃k,Bk f d 233 #[a,b,c,(k:Int)]:=VisF.tree g i (λl=>l)
def Vis.bu {d c b a} (e:Vis d c) (f:Bk d b 191 a):Bk c b 191 a∨∃g,Bk c b 191 (a.setIfInBounds 10 (.int .i64 g)):=VisF.bu e f (λi=>i)
def VisK (c:Nat->Prop) (a b:World):Prop:=Vis a b/\Keep c a b
def VisK.refl (b a):VisK b a a:=⟨Vis.refl a,ke b a⟩
def vR {b a}:VisK b a a:=VisK.refl b a
def VisK.trans {F c w1 d} (a:VisK F c w1) (b:VisK F w1 d):VisK F c d:=⟨a.1.trans b.1,a.2.trans b.2⟩
def VisK.below {F c w1 d} (a:VisK F c w1) (b:Below w1.heap.size w1 d):VisK F c d:=⟨a.1.trans (kb b),a.2.trans (kF b)⟩
def VisK.j {F a b} (c:Below a.heap.size a b):VisK F a b:=(VisK.refl F a).below c
abbrev kc:=@VisK.j
def VisK.alloc {a b w1} (c:VisK a b w1) (d:Obj):VisK a b (w1.alloc d):=c.below (bR.alloc nL _)
def VisK.E {c a e} (f:Bk c a 233 e) (d):VisK (λb=>b=a) c (c.setCell ⟨a,3,none⟩ (.int .i64 d)):=⟨Vis.E f d,ka (F:=λb=>b=a) (ke _ _) (p:=⟨a,3,none⟩) (.inl rfl) _⟩
def VisK.mono {F G c d} (b:VisK F c d) (e:∀a,F a->G a):VisK G c d:=⟨b.1,b.2.mono λa _=>e a⟩
def Vis.own {f g b a d c e i} (n:Vis f g) (j:f.ownsRow b a d e c i) (k:a≠233) (l:a≠191):g.ownsRow b a d e c i:=
 aC j λo p _ m=>n.d m k l
def Vis.made {g i c a f e d b j} (o:Vis g i) (k:Made g c a f b e d j) (l:a≠233) (m:a≠191):Made i c a f b e d j:=
 wN k λp q n=>o.d n l m
def RdT (k:World) (j:TypeId) (i:Option Addr) (d:Nat) (g:List Value):Prop:=
 g.length=d/\(0 < d->∃a e b,i=some ⟨a,e,none⟩/\Bk k a j b/\∀c f,g[c]?=some f->b[e+c]?=some f)
def RdT.rd {a o b e f} (c:RdT a o b e f):Rd a a.heap.size 1 b e f:=by
 refine ⟨by rw [c.1,zBl],λk=>?_⟩;obtain ⟨g,n,q,i,d,j⟩:=c.2 k;exact ⟨g,n,i,d.lt,λm p l=>(d.cell _).trans (j m p l)⟩
def RdT.same {g w' c d f i} (e:RdT g c d f i) (n:∀a b,Bk g a c b->Bk w' a c b):RdT w' c d f i:=by
 refine ⟨e.1,λm=>?_⟩;obtain ⟨a,o,b,j,k,l⟩:=e.2 m;exact ⟨a,o,b,j,n a b k,l⟩
def sv (a:Nat):Value:=.int .i64 a
def gI:(prog.info? 3).map (λa=>(a.zero,a.size,a.bytes))=some (some (.int .i64 0),1,8):=by kernel_rfl
def aAp {d B a n c b} (i:Bk d a c b.toArray) (hB:B<=a) (f:b.length=n) (e:n<=maxLen):Made d B c 1 (some ⟨a,0,none⟩) n n b:=by
 have g:d.ownsRow B c 1 (.slice (some a) n n) n b:=⟨by omega,.inr ⟨a,n,b.toArray,rfl,hB,i,zAs _,e,by simp [f],by rw [zBl,zAg (by simp [f])]⟩⟩;exact ⟨g,Rd.s g,zAs _,e⟩
def aCa (a:Nat) (j:a<=1000000) (b):(Instr.makeSlice 131 (.int .i64 a) (.int .i64 a)).run prog b=.ok (.slice (some b.heap.size) a a) (b.alloc (.cells (Array.replicate a (.bool false)) 4)):=by
 obtain ⟨i,d,e,f,g⟩:=info_parts nE;have:=run_make (P:=prog) b 131 4 i (.bool false) underlying131 d e .i64 .i64 a a oM (zFF _) (by rw [g];omega) oM;rw [this,f];have c:madeCells #[false] a=Array.replicate a (.bool false):=by apply zFs;rw [toList_madeCells_one];simp
 simp only [Value.cells,zBr,zBl];rw [c]
end
end Go.Proofs.YtknjfpcdhdmghaaGreatDoor
