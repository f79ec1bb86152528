/- Lemmas of the walk. Conditions: each its own. -/
import Derived.Test.YtknjfpcdhdmghaaGreatDoorPt1
import Derived.Test.YtknjfpcdhdmghaaGreatDoorPt2
set_option linter.all false
set_option maxRecDepth 100000
set_option maxHeartbeats 2000000
namespace Go.Proofs.YtknjfpcdhdmghaaGreatDoor
open Tryz
section
open Go.RowKit
def vU {gb l k w} (a:Bk w gb 250 (dL l)) (e:k < l.length):
 Calls prog 242 #[gb,(k:Int)] w λb c=>b=.returned (.int .i64 0)/\Below w.heap.size w c:=by
 have d:w.cell? gb=some (.int .i64 l.length):=(a.cell 0).trans rfl;have i:=a.lt;have f:¬(k:Int) < 0:=oM;have g:decide ((k:Int)>=l.length)=false:=zt
 clear a;go_enter func242,ntmps242;go_wp2_with fail;go_ret;exact ⟨rfl,kg _ _⟩
def aO8 (b a):(if a < 64 then w0 b >>> a else w1 b >>>(a - 64))&&& 1=if b.getD a false then 1 else 0:=by
 by_cases d:a < 64
 .rw [zBx d];have:=lN (b.take 64) a;rw [zEN,zDu,<-Nat.toNat_testBit,show (w0 b).testBit a=(b.take 64).getD a false from this];have c:(b.take 64).getD a false=b.getD a false:=(by simp [zAb,zBs,d]);rw [c];cases b.getD a false <;> rfl
 .rw [zBw d];have:=lN (b.drop 64) (a - 64);rw [zEN,zDu,<-Nat.toNat_testBit,show (w1 b).testBit (a - 64)=(b.drop 64).getD (a - 64) false from this];have c:(b.drop 64).getD (a - 64) false=b.getD a false:=(by simp [zAb,zBt,show 64+(a - 64)=a by omega]);rw [c];cases b.getD a false <;> rfl
def aIc {b a:Nat} {c} (i:b < 18446744073709551616) (g:b >>> a&&& 1=if c then 1 else 0):(bits .and .u64 ((b:Int)/ 2 ^ a) 1==1)=c:=by
 have d:=aCN b a 1 (2 ^ a) i oM rfl;have e:((2 ^ a:Nat):Int)=2^ a:=by push_cast;rfl
 rw [e] at d;have f:bits .and .u64 ((b:Int)/ 2 ^ a) 1=((b >>> a&&& 1:Nat):Int):=d;rw [f,g];cases c <;> rfl
def vV {f b} (a) {g} (c:Bk g f 250 (dL b)) (v:b.length<=128) (t:a < b.length):
 Calls prog 218 #[f,(a:Int)] g λj w=>j=.returned (.tuple #[.bool (b.getD a false),o0])/\Below g.heap.size g w:=by
 have e:=aO8 b a;obtain ⟨x,l⟩:=eqx (b.getD a false);rw [l] at e⊢;clear l;have n:=pG b;have b1:=pA v;have z:=c.lt;go_enter func218,ntmps218;go_wp2_with fail;refine (vU c t).mono ?_;rintro j m ⟨rfl,i⟩;have d:=c.below i c.lt;have o:m.cell? ⟨f,1,none⟩=some (.int .u64 (w0 b:Nat)):=(d.cell 1).trans rfl;have p:m.cell? ⟨f,2,none⟩=some (.int .u64 (w1 b:Nat)):=(d.cell 2).trans rfl;have A:=d.lt;by_cases k:a < 64
 .rw [zBx k] at e;have q:(a:Int).tdiv 64=0:=(by rw [zEG oM];omega);have r:(a:Int).tmod 64=a:=(by rw [zDA oM];omega);have s:IntKind.u64.wrap a=(a:Int):=zv;generalize w0 b=u at*
  clear d p c;go_wp2_with fail;go_ret2;exact ⟨by rw [aIc n e];rfl,i⟩
 .rw [zBw k] at e;have q:(a:Int).tdiv 64=1:=(by rw [zEG oM];omega);have r:(a:Int).tmod 64=(a - 64:Nat):=(by rw [zDA oM];omega);have s:IntKind.u64.wrap (a - 64:Nat)=((a - 64:Nat):Int):=zv;have y:a - 64 < 64:=oM;generalize w1 b=u at*
  generalize a - 64=k2 at*
  clear d o c;go_wp2_with fail;go_ret2;exact ⟨by rw [aIc b1 e];rfl,i⟩
end
section
def mY (c) {b a} (f:b<=a):bQ c b<=bQ c a:=by
 induction a with
 | zero=>obtain rfl:b=0:=oM
         exact zAs _
 | succ a e=>
  rw [dW];by_cases d:b<=a;have:=e d;omega;obtain rfl:b=a+1:=oM;rw [dW];exact zAs _
def aHO (b:Nat) {e:Nat}:∀ {a:Nat},e < bQ b a->∃c,c < a/\b.testBit c=true/\bQ b c=e
 | 0,h=>by rw [rI] at h;omega
 | a+1,h=>by
  by_cases f:e < bQ b a;obtain ⟨c,j,g,i⟩:=aHO b f;exact ⟨c,by omega,g,i⟩
  .rw [dW] at h;cases d:b.testBit a with
   | false=>rw [d] at h;simp at h;omega
   | true=>
    rw [d] at h;simp at h;exact ⟨a,by omega,d,by omega⟩
def aK0 {c a b} (e:c.testBit a=true) (f:c.testBit b=true) (g:bQ c a=bQ c b):a=b:=by
 rcases zDD a b with d | d | d;have:=mY c (show a+1<=b from d);rw [dW,e] at this;simp at this;omega;exact d;have:=mY c (show b+1<=a from d);rw [dW,f] at this;simp at this;omega
def aHY {a} (e:0 < a) (d:a < 2 ^ 64):∃b,a=2 ^ Lib.ctz 64 a*(2*b+1)/\Lib.ctz 64 a < 64:=by
 obtain ⟨b,f,g⟩:=Lib.ctzFrom_spec 64 a e d;have c:Lib.ctz 64 a=Lib.ctzFrom 64 a:=by unfold Lib.ctz;rw [zBw oM]
 exact ⟨b,by rw [c];exact f,by rw [c];exact g⟩
def aC9 (a c b):(2 ^ a*(2*c+1)).testBit b=if b < a then false else if b=a then true else c.testBit (b - a - 1):=by
 rw [zFY,Nat.testBit_mul_two_pow];by_cases f:b < a;rw [zBx f,zBy oM];rfl
 .rw [zBw f,zBz oM,zDO];by_cases d:b=a
  .rw [zBx d];subst d;rw [zDK];simp [zEH]
  .rw [zBw d];obtain ⟨e,g⟩:∃e,b - a=e+1:=⟨b - a - 1,by omega⟩;rw [g,zEt];have:(2*c+1)/ 2=c:=oM;rw [this];congr 1
def aKR (a c b):(2 ^ a*(2*c+1) - 1).testBit b=if b < a then true else if b=a then false else c.testBit (b - a - 1):=by
 have j:0 < 2 ^ a:=zFn a;have g:2 ^ a*(2*c+1) - 1=2 ^ a*(2*c)+(2 ^ a - 1):=by rw [Nat.mul_add,zBl];omega
 rw [g,zDY _ oM];by_cases d:b < a
 .rw [zBx d,zBx d,Nat.testBit_two_pow_sub_one,zBz d]
 .rw [zBw d,zBw d];by_cases e:b=a
  .rw [zBx e];subst e;rw [zDK];simp [zEH]
  .rw [zBw e];obtain ⟨f,i⟩:∃f,b - a=f+1:=⟨b - a - 1,by omega⟩;rw [i,zEt];have:2*c / 2=c:=oM;rw [this];congr 1
def aJl {a} (g:0 < a) (f:a < 2 ^ 64) (b):(a&&&(a - 1)).testBit b=(a.testBit b&&decide (b≠Lib.ctz 64 a)):=by
 obtain ⟨j,e,i⟩:=aHY g f;generalize Lib.ctz 64 a=k at e i;subst e;rw [zEW,aC9,aKR];by_cases c:b < k
 .simp [c]
 .by_cases d:b=k
  .simp [d]
  .simp [c,d]
def aIa {a} (e:0 < a) (d:a < 2 ^ 64):a.testBit (Lib.ctz 64 a)=true/\∀b,b < Lib.ctz 64 a->a.testBit b=false:=by
 obtain ⟨i,c,f⟩:=aHY e d;generalize Lib.ctz 64 a=k at c f⊢;subst c;refine ⟨?_,λb g=>?_⟩
 .rw [aC9,zBw oM,zBx rfl]
 .rw [aC9,zBx g]
def clr (a:Nat):Nat->Nat
 | 0=>a
 | i+1=>clr a i&&&(clr a i - 1)
def aG7 (b a):clr b a<=b:=by
 induction a with
 | zero=>exact zAs _
 | succ a c=>exact zAk Nat.and_le_left c
def aDm {a:Nat} (o:a < 2 ^ 64) {i:Nat} (m:a.testBit i=true):∀b,b<=bQ a i->∀c,(clr a b).testBit c=(a.testBit c&&decide (b<=bQ a c))
 | 0,_,c=>by simp [clr]
 | b+1,hi,c=>by
  have e:=aDm o m b oM;have n:(clr a b).testBit i=true:=(by rw [e,m,zBz oM];rfl);have j:0 < clr a b:=by
   rcases zBa (clr a b) with f | f
   .rw [f] at n;simp at n
   exact f
  have l:clr a b < 2 ^ 64:=zDF (aG7 a b) o;obtain ⟨d,p⟩:=aIa j l;show (clr a b&&&(clr a b - 1)).testBit c=_;rw [aJl j l];generalize Lib.ctz 64 (clr a b)=k at d p;rw [e,zBd,zCa] at d;obtain ⟨d,y⟩:=d;have x:bQ a k=b:=by
   by_cases g:b < bQ a k
   .obtain ⟨v,q,r,s⟩:=aHO a g;have:=p v q;rw [e,r,s] at this;simp at this
   omega
  rw [e];cases u:a.testBit c with
  | false=>rfl
  | true=>
   rw [zDO,zDO,zEd,zBd,zCa,zCa,zCa];constructor;rintro ⟨g,t⟩;by_cases w:bQ a c=b;exact absurd (aK0 u d oM) t;omega;intro g;refine ⟨by omega,?_⟩;rintro rfl;omega
def aIb {x} (e:x < 2 ^ 64) {b i} (d:x.testBit b=true) (c:i<=bQ x b):0 < clr x i:=by
 have:=aDm e d i c b;rw [d,zBz c] at this;rcases zBa (clr x i) with a | a
 .rw [a] at this;simp at this
 exact a
def aNo {x} (e:x < 2 ^ 64) {b a} (d:x.testBit b=true) (m:bQ x b=a):Lib.ctz 64 (clr x a)=b:=by
 have j:=aIb e d (i:=a) oM;have k:clr x a < 2 ^ 64:=zDF (aG7 x a) e;obtain ⟨g,l⟩:=aIa j k;have f:=aDm e d a oM;rcases zDD (Lib.ctz 64 (clr x a)) b with c | c | c;rw [f,zBd,zCa] at g;have:=mY x (show Lib.ctz 64 (clr x a)+1<=b from c);rw [dW,g.1] at this;simp at this;omega;exact c
 .have:=l b c;rw [f,d,zBz oM] at this;simp at this
def gC (a:Nat) (b:Bool):Nat:=if b then a else 18446744073709551615 - a
def aEd {a} (b) (c:a < 18446744073709551616):gC a b < 18446744073709551616:=by
 unfold gC;split <;> omega
def mQ {a} (c) (f:a < 18446744073709551616) {b} (e:b < 64):(gC a c).testBit b=(a.testBit b==c):=by
 unfold gC;cases c with
 | true=>simp
 | false=>
  have d:18446744073709551615 - a=2 ^ 64 -(a+1):=oM;simp only [zEK,if_false];rw [d,zFm oM,zBz e];cases a.testBit b <;> rfl
def oB (e:Nat) (b:List Bool) (d:Bool):∀a,a<=b.length->(∀c,c < a->∀f,b[c]?=some f->e.testBit c=(f==d))->bQ e a=(b.take a).count d
 | 0,_,_=>by simp [rI]
 | a+1,hn,h=>by have g:b[a]?=some (b[a]' oM):=zAa oM;rw [dW,oB e b d a oM (λc i=>h c oM),zAv,g,zCc,h a oM _ g];simp [zDg]
def aF2 {c a} (e:a < 64) {b} (d:c[a]?=some b):(w0 c).testBit a=b:=by
 unfold w0;rw [lN,zAb,zBs,zBx e,d];rfl
def aJZ (b) {q a} (c:b[64+q]?=some a):(w1 b).testBit q=a:=by
 unfold w1;rw [lN,zAb,zBt,c];rfl
def aN0 {a b c d} (n:a.length<=128) (j:a[c]?=some b) (l:(a.take c).count b=d) (e:c < 64):
 (gC (w0 a) b).testBit c=true/\bQ (gC (w0 a) b) c=d/\d < bQ (gC (w0 a) b) 64:=by
 have i:=pG a;have o:=(zAc.1 j).1;have f:(gC (w0 a) b).testBit c=true:=by rw [mQ _ i e,aF2 e j];simp
 have g:bQ (gC (w0 a) b) c=d:=by rw [<-l];exact oB _ a b c oM λq p m k=>by rw [mQ _ i oM,aF2 oM k]
 refine ⟨f,g,?_⟩;have:=mY (gC (w0 a) b) (show c+1<=64 by omega);rw [dW,f,g] at this;simp at this;omega
def aN1 {a b c f} (r:a.length<=128) (m:a[c]?=some b) (u:(a.take c).count b=f) (t:64<=c):
 ∃i g,bQ (gC (w0 a) b) 64=i/\i<=f/\f - i=g/\(gC (w1 a) b).testBit (c - 64)=true/\bQ (gC (w1 a) b) (c - 64)=g/\g < bQ (gC (w1 a) b) 64:=by
 have s:=pG a;have l:=pA r;have v:=(zAc.1 m).1;have p:bQ (gC (w0 a) b) 64=(a.take 64).count b:=oB _ a b 64 oM λn e o d=>by rw [mQ _ s e,aF2 e d]
 have w:(a.take c).count b=(a.take 64).count b+((a.drop 64).take (c - 64)).count b:=by
  have:a.take c=a.take 64++(a.drop 64).take (c - 64):=by rw [<-List.take_add];congr 1;omega
  rw [this,zCc]
 have j:(gC (w1 a) b).testBit (c - 64)=true:=by rw [mQ _ l oM,aJZ a (q:=c - 64) (by rw [show 64+(c - 64)=c by omega];exact m)];simp
 have k:bQ (gC (w1 a) b) (c - 64)=((a.drop 64).take (c - 64)).count b:=
  oB _ (a.drop 64) b (c - 64) (by rw [zAw];omega) λn e o d=>by rw [zBt] at d;rw [mQ _ l oM,aJZ a d]
 refine ⟨_,_,p,by omega,rfl,j,by rw [k];omega,?_⟩;have:=mY (gC (w1 a) b) (show c - 64+1<=64 by omega);rw [dW,j,k] at this;simp at this;omega
end
section
open Go.RowKit Go
def cQ {P:Program} {ops:Array Oper} {Q:Exit->Act->World->Prop} {md:Region.Mode} (e:Nat) (q:List Nat) (i:Nat->Prop) (c:Nat) (s:List Nat) {pre:World->Prop} (p:Value->World->Prop) (o:List (Value->World->Prop)) (l:Act) {j:World} (E:(ops.toList.take e).filterMap (·.dst)=q) (H:e<=ops.size) (G:kL md ops l.tmps.size=true) (N:((List.range ops.size).all λd=>decide (d < e)||(List.range e).all λa=>upB md ops ops.size d a)=true) (K:(s.all λa=>a==c||upB md ops ops.size c a)=true) (J:pre j) (I:∀b g,pre b->Keep i j b->Grow b g->pre g) (D:Stb p) (L:∀R∈o,tO i R) (M:∀k y,k < e->ops[k]?=some y->dN P ops Q md (Keep i j) (yM i c) (λa b=>s.contains a=true->pre b) (VsJ c p o) l k y) (F:∀(u:Operand->Value) b f,Keep i j b->(∀a t,a < e->((ops[a]?).bind (·.dst))=some t->VsJ c p o a (u (.tmp t)) b)->wpAny P md ops Q (ops.size - e+f) (bT e ops.size) (dJ u q l) b):
 wpAny P md ops Q ops.size (Array.replicate ops.size false) l j:=by
 refine iG e q (Keep i j) (yM i c) (λa b=>s.contains a=true->pre b) (VsJ c p o) l j E H G N (ke _ _) (λ_ _=>J) (λk b g _ B d=>B.trans (kZ d)) (λa k b g _ r O m C d w=>?_) (λa k z b g _ r _ n _ d=>?_) M F;by_cases x:k=c;exfalso;subst x;have v:=zBf.1 K a (by simpa using w);simp only [O,zGn,zCr] at v;exact r v;exact I b g (m w) C (d.2 x);unfold VsJ at n⊢;by_cases m:a=c;rw [zBx m] at n⊢;exact D z b g n (d.2 λA=>r (m.trans A.symm));rw [zBw m] at n⊢;exact zU L a z b g n (kZ d)
def bB {e} {c:Nat->Oper->Prop} {d:List Oper} (f:∀a b,(d.take e)[a]?=some b->c (0+a) b):∀a b,a < e->d.toArray[a]?=some b->c a b:=by
 intro a b g i;have:=f a b (by rw [zBs,zBx g];simpa using i);rwa [zBi] at this
def aIf (e:World->World->Prop) (a b:Nat) (c d:World):Prop:=(b=a->e c d)/\(b≠a->Grow c d)
def aJ {e:World->World->Prop} {a b c d} (g:Grow c d) (i:(b==a)=false):aIf e a b c d:=⟨λf=>by simp [f] at i,λ_=>g⟩
def uG {b:World->World->Prop} {a c d} (f:b c d):aIf b a a c d:=⟨λ_=>f,λe=>absurd rfl e⟩
def Pin (a:Value->World->Prop):Prop:=∀b c d,a b c->a b d
def aN8 (a):Pin (is a):=λ_ _ _ b=>b
def aMO:Pin cO:=λ_ _ _ _=>trivial
def qX {P:Program} {ops:Array Oper} {Q:Exit->Act->World->Prop} {md:Region.Mode} (i:Nat) (q:List Nat) {C:World->Prop} (p:World->World->Prop) (d:Nat) {pre:World->Prop} (o:Value->World->Prop) (m:List (Value->World->Prop)) (k:Act) {n:World} (G:(ops.toList.take i).filterMap (·.dst)=q) (J:i<=ops.size) (I:kL md ops k.tmps.size=true) (O:((List.range ops.size).all λg=>decide (g < i)||(List.range i).all λc=>upB md ops ops.size g c)=true) (E:C n) (L:pre n) (x:∀a b,C a->Grow a b∨p a b->C b) (K:∀a b,pre a->Grow a b->pre b) (F:Stb o) (M:∀t∈m,Pin t) (N:∀j B,j < i->ops[j]?=some B->dN P ops Q md C (aIf p d) (λc a=>c=d->pre a) (VsJ d o m) k j B) (H:∀(v:Operand->Value) a f,C a->(∀c u,c < i->((ops[c]?).bind (·.dst))=some u->VsJ d o m c (v (.tmp u)) a)->wpAny P md ops Q (ops.size - i+f) (bT i ops.size) (dJ v q k) a):
 wpAny P md ops Q ops.size (Array.replicate ops.size false) k n:=by
 refine iG i q C (aIf p d) (λc a=>c=d->pre a) (VsJ d o m) k n G J I O E (λ_ _=>L) (λj a b _ w g=>?_) (λc j a b _ s _ l _ g y=>?_) (λc j D a b _ s _ e _ g=>?_) N H;by_cases z:j=d;exact x a b w (.inr (g.1 z));exact x a b w (.inl (g.2 z));exact K a b (l y) (g.2 λr=>s (y.trans r.symm))
 .unfold VsJ at e⊢;by_cases l:c=d;rw [zBx l] at e⊢;exact F D a b e (g.2 λr=>s (l.trans r.symm))
  .rw [zBw l] at e⊢;unfold Vs at e⊢;rw [zAb] at e⊢;cases A:m[c]? with
   | none=>simp
   | some t=>
    rw [A] at e;simp only [zFd] at e⊢;exact M t (zAd A) D a b e
end
section
open Go.RowKit
def qF (b:List Bool) (c a:Nat):Array Value:=((b.take a).map Value.bool++List.replicate (c - a) (Value.bool false)).toArray
def aGR (b a):qF b a 0=Array.replicate a (Value.bool false):=by
 unfold qF;apply zFs;simp
def aJc {a b} (c:a.length=b):qF a b b=(a.map Value.bool).toArray:=by
 unfold qF;rw [zAg oM,zDK];simp
def aGS {b a} (c) (d:b.length=a) (e:c<=a):(qF b a c).size=a:=by
 unfold qF;simp;omega
def aJb {b c a e} (i:b.length=c) (d:b[a]?=some e):(qF b c a).setIfInBounds a (.bool e)=qF b c (a+1):=by
 have j:=(zAc.1 d).1;apply zFs;unfold qF;rw [zFv,zAv,d];have f:c - a=(c -(a+1))+1:=oM;rw [f,List.replicate_succ];have g:((b.take a).map Value.bool).length=a:=by rw [zBc,zAj];omega
 show List.set ((b.take a).map Value.bool++(Value.bool false::List.replicate (c -(a+1)) (Value.bool false))) a _=_;rw [zEs _ _ oM,g,zDK,zAz,zCo];rfl
abbrev w1N (a:List Bool):Nat:=w1 a
def aFW (b:World) (a:List Bool) (e:Ending) (d:World):Prop:=∃c,e=.returned (.slice c a.length a.length)/\Made d b.heap.size 4 1 c a.length a.length (a.map Value.bool)/\Below b.heap.size b d
def jA {gb l w} (f:Bk w gb 250 (dL l)) (r:l.length<=128):
 Calls prog 273 #[gb] w (aFW w l):=by
 obtain ⟨b,c⟩:=eqx l.length;have z:w.cell? gb=some (.int .i64 b):=by rw [<-c];exact (f.cell 0).trans rfl
 have L:=f.lt;have E:=aCa b oM;have y:=r;rw [c] at r;unfold aFW;go_enter func273,ntmps273;go_wp2_with fail;have p:Bk (w.alloc (.cells (Array.replicate b (.bool false)) 4)) w.heap.size 4 (qF l b 0):=by rw [aGR];exact kd _ _ _
 have t:Below w.heap.size w (w.alloc (.cells (Array.replicate b (.bool false)) 4)):=bR.alloc nL _;go_loopw [14] (λo wr=>∃a:Nat,a<=b/\o=.int .i64 a/\Bk wr w.heap.size 4 (qF l b a)/\Below w.heap.size w wr) (λo _=>b -(intOf o).toNat)
 case atStart=>exact ⟨0,zAp _,rfl,p,t⟩
 case round=>
  obtain ⟨a,K,rfl,i,g⟩:=hrel;clear p t E z;have F:=g.size;by_cases k:a < b
  .obtain ⟨e,s⟩:∃e,l[a]?=some e:=⟨_,zAa (by rw [c];exact k)⟩;have C:l.getD a false=e:=(by rw [zAb,s];rfl);go_wp2_with fail;refine (vV a (f.below g f.lt) y (by rw [c];exact k)).mono ?_;rintro H x ⟨rfl,m⟩;rw [C];have d:=i.below m i.lt;have u:=g.trans (zDV m F);have J:=d.lt;have I:=d.frozen a;have q:=d.set a (.bool e);rw [aJb c s] at q;have A:∃v,x.cell? ⟨w.heap.size,a,none⟩=some v:=⟨_,(d.cell a).trans (zAq (by rw [aGS a c oM];exact k))⟩;obtain ⟨v,M⟩:=A;have G:Below w.heap.size w (x.setCell ⟨w.heap.size,a,none⟩ (.bool e)):=u.setCell nL _;clear d m u;go_wp2_with fail;go_roundw
   case rel=>exact ⟨a+1,by omega,by go_num,q,G⟩
   case measure=>exact zr
  .obtain rfl:a=b:=oM;have j:=i;rw [aJc c] at j;have D:=aAp (B:=w.heap.size) (n:=a) j nL (by rw [zBc];exact c) zx;clear j;go_wp2_with fail;go_ret;exact ⟨_,by rw [c];rfl,by rw [c];exact D,g⟩
def oY {gb A m} (o) {B l0 l w} (g:Bk w gb 250 (dL l0)) (x:Rd w B 1 A m (l.map Value.bool)) (hB:B<=w.heap.size) (v:m<=128):
 Calls prog 274 #[gb,.slice A m o] w λq r=>q=.returned (.tuple #[])/\Bk r gb 250 (dL l)/\Keep (λa=>a=gb) w r:=by
 have L:=g.lt;go_enter func274,ntmps274;go_wp2_with fail;refine (gQ o x hB v).mono ?_;rintro q w1 ⟨rfl,f,i⟩;have b:=g.below i g.lt;have M:gb≠w.heap.size:=oM;obtain ⟨c,j⟩:∃c:Nat,l.length=c:=⟨_,rfl⟩;obtain ⟨d,k⟩:∃d:Nat,w0 l=d:=⟨_,rfl⟩;obtain ⟨e,n⟩:∃e:Nat,w1N l=e:=⟨_,rfl⟩;have y:w1.cell? w.heap.size=some (.int .i64 c):=by rw [<-j];exact (f.cell 0).trans rfl
 have z:w1.cell? ⟨w.heap.size,1,none⟩=some (.int .u64 d):=by rw [<-k];exact (f.cell 1).trans rfl
 have C:w1.cell? ⟨w.heap.size,2,none⟩=some (.int .u64 e):=by rw [<-n];exact (f.cell 2).trans rfl
 have D:w1.cell? gb=some (.int .i64 l0.length):=(b.cell 0).trans rfl;have E:w1.cell? ⟨gb,1,none⟩=some (.int .u64 (w0 l0:Nat)):=(b.cell 1).trans rfl;have G:w1.cell? ⟨gb,2,none⟩=some (.int .u64 (w1N l0:Nat)):=(b.cell 2).trans rfl;have H:=b.frozen 0;have I:=b.frozen 1;have J:=b.frozen 2;have K:=b.lt;have N:=f.lt;have t:=((b.set 0 (.int .i64 c)).set 1 (.int .u64 d)).set 2 (.int .u64 e);have u:Keep (λa=>a=gb) w (((w1.setCell gb (.int .i64 c)).setCell ⟨gb,1,none⟩ (.int .u64 d)).setCell ⟨gb,2,none⟩ (.int .u64 e)):=
  ka (F:=λa=>a=gb) (ka (F:=λa=>a=gb) (ka (F:=λa=>a=gb) (kF i) (p:=gb) (.inl rfl) _) (p:=⟨gb,1,none⟩) (.inl rfl) _) (p:=⟨gb,2,none⟩) (.inl rfl) _
 have s:dL l=#[Value.int .i64 c,.int .u64 d,.int .u64 e]:=by show #[Value.int .i64 l.length,Value.int .u64 (w0 l:Nat),Value.int .u64 (w1N l:Nat)]=_;rw [j,k,n]
 clear i b f j k n;go_wp2_with fail;refine bodyPost_end (results_none rfl _ _ _) rfl ?_;rw [s];exact ⟨rfl,t,u⟩
def aBu {gb l w} (n:Bk w gb 250 (dL l)) (F:l.length=128):
 Calls prog 261 #[gb] w λa x=>∃c,a=.returned (.pointer (some ⟨c,0,none⟩))/\w.heap.size<=c/\Bk x c 250 (dL (l.drop 64))/\Bk x gb 250 (dL (l.take 64))/\Keep (λe=>e=gb) w x:=by
 have V:=n.lt;obtain ⟨g,m⟩:=hqq2 n F;clear n F;go_enter func261,ntmps261;go_wp2_with fail;refine (jA g (by rw [m.out];omega)).mono ?_;rintro a w1 ⟨y,rfl,s,o⟩;rw [m.out] at s⊢;have f:=g.below o g.lt;have B:w1.cell? gb=some (.int .i64 128):=by have:=(f.cell 0).trans (b:=some (Value.int .i64 l.length)) rfl;rw [m.out] at this;exact this
 have O:=f.lt;have X:=iC (P:=prog) 131 4 1 underlying131 Tryz.sizeOf4 y 128 128 64 oM;have Y:=jH (P:=prog) 131 4 1 underlying131 Tryz.sizeOf4 y 128 128 64 oM;obtain ⟨A,i,z⟩:=hqq3 s o f;clear s o f;go_wp2_with fail;have u:=A.rd.cut (k:=64) (cap:=128) oM oM;rw [zBl,<-zEb] at u;refine (gQ 64 u nL oM).mono ?_;rintro a S ⟨rfl,t,d⟩;obtain ⟨c,q⟩:=eqx w1.heap.size;rw [q] at t;have p:=z.below d z.lt;have U:S.cell? gb=some (.int .i64 128):=(d.cell (by exact O)).trans B;have W:=p.lt;have v:=(((A.rd.cut_hi (k:=64) oM).below d).mono d.size);rw [zBl,<-zDw] at v;obtain ⟨L,J,K,M,j⟩:=hqq5 t d p v q;clear t d p B u v q;go_wp2_with fail;refine (oY _ K M nL oM).mono ?_;rintro a T ⟨rfl,C,r⟩;have R:c≠gb:=zj j.out
 have G:=r.d L (λa=>R a);have E:Keep (λe=>e=gb) w T:=(kF (i.trans (zDV J i.size))).trans r;have D:w.heap.size<=c:=zk j.out i.size
 obtain ⟨I,N3,N⟩:=hqq3 C G E;clear C G r E;go_wp2_with fail;go_ret;have H:=N3.out;rw [<-j.out] at H D;exact ⟨_,rfl,D,H,I,N⟩
def sI (c:List Bool):∀a∈c.map Value.bool,a.oneCell'=true:=λa b=>by
 obtain ⟨d,_,rfl⟩:=zAy.1 b;rfl
def aLX:(prog.info? 250).map (·.size)=some 3:=by kernel_rfl
def aLY {b c d e a} (g:Bk a b 250 d) (l:Bk a c 250 e) (k:c≠b):
 (binOp .eql 234 (.pointer (some c)) (.pointer (some b))).run prog a=.ok (.bool false) a:=by
 obtain ⟨m,i,j⟩:=zEF.1 aLX;exact run_eql_ptr_other a underlying234 i (by rw [j];decide) (λf=>k (by injection f)) l g
def aBY {c d f g e} (j:Bk e c 250 (dL f)) (o:Bk e d 250 (dL g)) (E:d≠c) (V:f.length+g.length<=128):
 Calls prog 276 #[c,d] e λb a3=>b=.returned (.int .i64 0)/\Bk a3 c 250 (dL (f++g))/\Keep (λa=>a=c∨a=d) e a3:=by
 obtain ⟨ay,aq,av,aw,ax⟩:=info_parts nE;obtain ⟨i,r⟩:=eqx f.length;obtain ⟨a,t⟩:=eqx g.length;have ap:=aLY j o E;have al:e.cell? c=some (.int .i64 i):=by rw [<-r];exact (j.cell 0).trans rfl
 have an:e.cell? d=some (.int .i64 a):=by rw [<-t];exact (o.cell 0).trans rfl
 rw [r,t] at V;have aD:=zn ((i:Int)+a > 128);have aE:=j.lt;have aF:=o.lt;obtain ⟨a7,ai,K,I⟩:=hqq4 j o r t;clear j o r t;go_enter func276,ntmps276;go_wp2_with fail;clear ap;go_quiet (fail);go_wp2_with fail;have s:=a7.drewN nq;have F:=ai.drewN nq;have C:Keep (λa=>a=c∨a=d) e (e.drewN nq):=(ke _ _).drewN nq;generalize e.drewN nq=W at*
 refine (jA (gb:=c) (l:=f) (w:=W) s (by rw [K.out];omega)).mono ?_;rintro b w1 ⟨H,rfl,X,n⟩;have au:=C.size;have aG:=n.size;obtain ⟨L,v,ab,N⟩:=hqq4 (s.below n s.lt) (F.below n F.lt) (C.trans (kF n)) X;clear s F C X n al an;go_wp2_with fail;refine (jA (gb:=d) (l:=g) (w:=w1) v (by rw [I.out];omega)).mono ?_;rintro b aJ ⟨aC,rfl,D,k⟩;rw [K.out] at N⊢;rw [I.out] at D⊢;obtain ⟨M,R,ac,p,ag⟩:=hqq5 (L.out.below k L.out.lt) (v.out.below k v.out.lt) (ab.out.trans (kF k)) (N.out.below k) D;have a1:=p.own;have aH:=k.size;have O:∀q,(Value.slice H i i).ownBlock=some q->q≠c/\q≠d:=λq b=>⟨λx=>absurd (by have:=bC p.own M dC;rw [b,x] at this;exact this rfl) id,λx=>absurd (by have:=bC p.own R dC;rw [b,x] at this;exact this rfl) id⟩;obtain ⟨J,a6⟩:=hqq2 O (λa j=>(a1.lt a j).1);clear D k a1 O
 rename_i a2
 refine a2 _ _<|bE _ rfl (.tmp 29) (.tmp 31) _ rfl W.heap.size 4 ay (.bool false) 1 1 underlying131 aq av aw ax rfl dC (.slice H i i) i _ rfl p.own _ _ _ _ _ rfl ag.rd (sI _) zx oM oM ?_;intro aI a4 a0 u ao;obtain ⟨a5,am,rfl,Y⟩:=aR a0;have S:=M.grown u (λb=>(J c b.symm).1 rfl);have Z:=R.grown u (λb=>(J d b.symm).2 rfl);have U:Keep (λa=>a=c∨a=d) e a4:=ac.grown u (λaz ar=>.inr (zAk au (a6 az ar)));obtain ⟨ah,a8,aj,ad⟩:=hqq4 Y S Z U;clear a0 u ao Y S Z U a2;go_wp2_with fail;refine (oY (gb:=c) (A:=a5) (m:=(i+a)) (l0:=f) (l:=(f++g)) (w:=a4) am a8 (by rw [zAz];exact ah.rd) nL V).mono ?_;rintro b aA ⟨rfl,T,y⟩;obtain ⟨a9,ak⟩:=hqq2 T (y.d aj.out (λb=>E b));have ae:=lhd (ad.out.trans (y.mono (G:=λa=>a=c∨a=d) λaB _ b=>.inl b));clear T y;go_wp2_with fail;refine (oY (gb:=d) (A:=none) (m:=0) (B:=0) (l0:=g) (l:=[]) (w:=aA) 0 ak (Rd.nil _ _ _ _) (zAp _) oM).mono ?_;rintro b aK ⟨rfl,_,z⟩;have aa:=lhd (z.d a9.out (λb=>E (show c=d from b).symm));have af:=lhd (ae.out.trans (z.mono (G:=λa=>a=c∨a=d) λaB _ b=>.inr b));clear z;go_wp2_with fail;go_ret;exact ⟨rfl,aa,af⟩
def aD7 {b c i j a} (e:Bk a b 250 (dL i)) (g:Bk a c 250 (dL j)) (r:c≠b) (q:128 < i.length+j.length) (n:i.length<=128) (o:j.length<=128):
 Calls prog 276 #[b,c] a λm s=>m=.returned (.int .i64 3)/\Below a.heap.size a s:=by
 obtain ⟨k,d⟩:=eqx i.length;obtain ⟨l,f⟩:=eqx j.length;have p:=aLY e g r;have t:a.cell? b=some (.int .i64 k):=by rw [<-d];exact (e.cell 0).trans rfl
 have u:a.cell? c=some (.int .i64 l):=by rw [<-f];exact (g.cell 0).trans rfl
 rw [d,f] at q;rw [d] at n;rw [f] at o;have v:=zy ((k:Int)+l > 128);have w:=e.lt;have x:=g.lt;clear e g d f;go_enter func276,ntmps276;go_wp2_with fail;clear p;go_quiet (fail);go_wp2_with fail;go_ret;exact ⟨rfl,km bR _⟩
end
section
def uF (b a:Nat) (c:Bool):Nat:=(b % 2 ^ a|||(if c then 2 ^ a else 0))|||(b&&&(18446744073709551615 - b % 2 ^ a))*2 % 18446744073709551616
def qG (a b:Nat) (c:Bool):Nat:=(a % 2 ^ b|||(a / 2&&&(18446744073709551615 - a / 2 % 2 ^ b)))|||(if c then 9223372036854775808 else 0)
def aHQ {b} (a) (c:b < 18446744073709551616):(18446744073709551615 - b).testBit a=(decide (a < 64)&& !b.testBit a):=by
 have:=zFm (n:=64) (x:=b) oM a;rw [<-this];congr 1;omega
def aLk (c b a):(c % 2 ^ b).testBit a=(decide (a < b)&&c.testBit a):=zEZ _ _ _
def aHL (b a):(2 ^ b).testBit a=decide (b=a):=Nat.testBit_two_pow
def aNl (b a):(b*2 % 18446744073709551616).testBit a=(decide (a < 64)&&(decide (0 < a)&&b.testBit (a - 1))):=by
 have c:(18446744073709551616:Nat)=2 ^ 64:=dC;rw [c,aLk];congr 1;rcases a with _ | a
 .simp
 .rw [zEt,Nat.mul_div_cancel _ (by decide:0 < 2)];simp
def aAr {a} (c) (b:a < 18446744073709551616):a % 2 ^ c < 18446744073709551616:=zDF (Nat.mod_le _ _) b
def aOp {b} (a) (d:b < 18446744073709551616) (c:64<=a):b.testBit a=false:=zEp (zAl d (zBp (n:=2) dC c))
def aC0 {c} (b a d) (o:c < 18446744073709551616) (q:b < 64):(uF c b d).testBit a=if a < b then c.testBit a else if a=b then d else (decide (a < 64)&&c.testBit (a - 1)):=by
 unfold uF;rw [zGj,zGj,aNl,zEW,aHQ _ (aAr b o),aLk,aLk];have n:(if d then 2 ^ b else 0:Nat).testBit a=(decide (b=a)&&d):=by
  cases d
  .simp
  .simp [aHL]
 rw [n];by_cases f:a < b
 .have e:=zy (a - 1 < b);have g:=zn (b=a);rw [zBx f,zBz f,e,g];cases r:c.testBit a <;> cases p:c.testBit (a - 1)<;> simp
 .rw [zBw f,zBy f];by_cases i:a=b
  .subst i;rw [zBx rfl];by_cases j:a=0
   .subst j;simp
   .have e:=zy (a - 1 < a);rw [e];cases p:c.testBit (a - 1)<;> simp
  .have e:=zn (a - 1 < b);have g:=zn (b=a);have k:=zy (0 < a);rw [zBw i,e,g,k];by_cases l:a < 64
   .have m:=zy (a - 1 < 64);rw [m];simp
   .simp [l]
def aDh {b} (d a c) (j:b < 18446744073709551616) (o:d < 64):(qG b d c).testBit a=if a < d then b.testBit a else if a < 63 then b.testBit (a+1) else (decide (a=63)&&c):=by
 unfold qG;have m:b / 2 < 18446744073709551616:=zDF (zDZ _ _) j;have n:∀g,(b / 2).testBit g=b.testBit (g+1):=λg=>by rw [zEt]
 rw [zGj,zGj,zEW,aHQ _ (aAr d m),aLk,aLk,n];have l:(if c then 9223372036854775808 else 0:Nat).testBit a=(decide (a=63)&&c):=by
  cases c
  .simp
  rw [zBx rfl,show (9223372036854775808:Nat)=2 ^ 63 by decide,aHL,Bool.and_true];congr 1;exact propext eq_comm
 rw [l];by_cases e:a < d
 .have f:=zn (a=63);rw [zBx e,zBz e,f];cases p:b.testBit a <;> cases q:b.testBit (a+1)<;> simp
 .rw [zBw e,zBy e];by_cases i:a < 63
  .have f:=zn (a=63);have k:=zy (a < 64);rw [zBx i,f,k];simp
  .rw [zBw i,aOp (a+1) j oM];simp
def kI (b a):(w0 b).testBit a=(decide (a < 64)&&b.getD a false):=by unfold w0;rw [lN,aIl]
def iU (b a):(w1 b).testBit a=b.getD (64+a) false:=by unfold w1;rw [lN,aJh]
def zJ (b:List Bool) (a:Nat) (c:b.length<=a):b.getD a false=false:=by
 rw [zAb,zBg c];rfl
def aN5 {l k} (c) (f:k<=l.length) (i:l.length<=127) (g:k < 64):w0 (aT l k c)=uF (w0 l) k c/\w1 (aT l k c)=uF (w1 l) 0 (l.getD 63 false):=by
 constructor
 .refine zDj λa=>?_;rw [aC0 _ _ _ (pG l) g,kI,kI,kI,rN c f];by_cases e:a < k
  .rw [zBx e,zBx e]
  .rw [zBw e,zBw e];by_cases b:a=k
   .rw [zBx b,zBx b,zBz oM,zDO]
   .rw [zBw b,zBw b];by_cases d:a < 64
    .rw [zBz d,zBz (show a - 1 < 64 by omega),zDO,zDO]
    .rw [zBy d,zDX,zDX]
 .refine zDj λa=>?_;rw [aC0 _ _ _ (pA (l:=l) oM) dC,iU,iU,rN c f,zBw oM,zBw oM,zBw oM];by_cases b:a=0
  .subst b;rw [zBx rfl]
  .rw [zBw b,show 64+a - 1=64+(a - 1) by omega,iU];by_cases d:a < 64
   .rw [zBz d,zDO]
   rw [zBy d,zDX];exact zJ l _ oM
def aN6 {l k} (b) (f:k<=l.length) (i:l.length<=127) (g:64<=k):w0 (aT l k b)=w0 l/\w1 (aT l k b)=uF (w1 l) (k - 64) b:=by
 constructor
 .refine zDj λa=>?_;rw [kI,kI,rN b f];by_cases c:a < 64
  .rw [zBz c,zBx oM]
  .rw [zBy c,zDX,zDX]
 .refine zDj λa=>?_;rw [aC0 _ _ _ (pA (l:=l) oM) oM,iU,iU,iU,rN b f];by_cases d:a < k - 64
  .rw [zBx oM,zBx d]
  .rw [zBw oM,zBw d];by_cases e:a=k - 64
   .rw [zBx oM,zBx e]
   .rw [zBw oM,zBw e,show 64+a - 1=64+(a - 1) by omega];by_cases c:a < 64
    .rw [zBz c,zDO]
    rw [zBy c,zDX];exact zJ l _ oM
def aOv {l k} (e:k < l.length) (g:l.length<=128) (f:k < 64):w0 (aK l k)=qG (w0 l) k (l.getD 64 false)/\w1 (aK l k)=qG (w1 l) 0 false:=by
 constructor
 .refine zDj λa=>?_;rw [aDh _ _ _ (pG l) f,kI,kI,kI,rU e];by_cases c:a < k
  .rw [zBx c,zBx c]
  .rw [zBw c,zBw c];by_cases b:a < 63
   .rw [zBx b,zBz (show a < 64 by omega),zBz (show a+1 < 64 by omega)]
   .rw [zBw b];by_cases d:a=63;subst d;rfl
    .rw [zBy d,zBy (show ¬a < 64 by omega),zDX,zDX]
 .refine zDj λa=>?_;rw [aDh _ _ _ (pA g) dC,iU,iU,rU e,zBw oM,zBw oM,Bool.and_false];by_cases b:a < 63
  .rw [zBx b,show 64+a+1=64+(a+1) by omega,iU]
  rw [zBw b];exact zJ l _ oM
def cut_hi {l k} (e:k < l.length) (f:l.length<=128) (g:64<=k):w0 (aK l k)=w0 l/\w1 (aK l k)=qG (w1 l) (k - 64) false:=by
 constructor
 .refine zDj λa=>?_;rw [kI,kI,rU e];by_cases d:a < 64
  .rw [zBz d,zBx oM]
  .rw [zBy d,zDX,zDX]
 .refine zDj λa=>?_;rw [aDh _ _ _ (pA f) oM,iU,iU,iU,rU e,Bool.and_false];by_cases b:a < k - 64
  .rw [zBx oM,zBx b]
  .rw [zBw oM,zBw b,show 64+a+1=64+(a+1) by omega];by_cases c:a < 63
   .rw [zBx c]
   rw [zBw c];exact zJ l _ oM
def aMt {a} (b:a < 18446744073709551616):decide (a / 9223372036854775808=1)=a.testBit 63:=by
 rw [zES];have:a / 2 ^ 63 % 2=a / 9223372036854775808:=by rw [show (2:Nat)^ 63=9223372036854775808 by decide];omega
 rw [this]
end
section
open Go.RowKit
def aFa {b a:Nat} (e:b < 18446744073709551616) (f:a < 18446744073709551616):bits .andNot .u64 (b:Int) (a:Int)=((b&&&(18446744073709551615 - a):Nat):Int):=by
 have c:b % 2 ^ 64=b:=zBu oM;have d:a % 2 ^ 64=a:=zBu oM;have g:b&&&(18446744073709551615 - a) < 2 ^ 64:=Nat.and_lt_two_pow _ oM;show IntKind.u64.wrap ((BitVec.ofInt 64 (b:Int)&&& ~~~ BitVec.ofInt 64 (a:Int)).toNat:Nat)=_;rw [zDQ,zDQ,zGt,BitVec.toNat_not,zDG,zDG,c,d,kn,show 2 ^ 64 - 1 - a=18446744073709551615 - a by omega];omega
def aHN {a b} (c:a < 18446744073709551616) (d:b < 18446744073709551616):a||| b < 18446744073709551616:=Nat.or_lt_two_pow (n:=64) c d
def aFb (a) {b} (c:b < 18446744073709551616):a&&& b < 18446744073709551616:=Nat.and_lt_two_pow (n:=64) a c
def aGK (b:Nat) {a:Nat} (c:a < 64):aDa b (a:Int)=b % 2 ^ a:=by
 unfold aDa;rw [show min ((a:Int)).toNat 64=a by omega]
def aMr {x k:Nat} (d) (l:x < 18446744073709551616) (v:k < 64) (A):
 Calls prog 275 #[.int .u64 x,(k:Int),.bool d] A λr G=>r=.returned (.tuple #[.int .u64 (uF x k d:Nat),.bool (x.testBit 63)])/\A=G:=by
 have w:=aGK x v;obtain ⟨b,f⟩:=eqx (x % 2 ^ k);have n:b < 18446744073709551616:=by rw [<-f];exact aAr k l
 obtain ⟨e,j⟩:=eqx (2 ^ k);have O:e < 18446744073709551616:=by rw [<-j];exact zET (a:=2) dC (show k < 64 from v)
 have N:(2:Int)^ k=e:=by rw [<-j];push_cast;rfl
 obtain ⟨q,c⟩:=eqx ((if d then e else 0:Nat));have t:q < 18446744073709551616:=by rw [<-c];split <;> omega
 have H:IntKind.u64.wrap e=(e:Int):=zv
 have s:=aIS b n t;obtain ⟨m,g⟩:=eqx (b||| q);have E:m < 18446744073709551616:=by rw [<-g];exact aHN n t
 have C:=aFa l n;obtain ⟨o,i⟩:=eqx (x&&&(18446744073709551615 - b));have M:o < 18446744073709551616:=by rw [<-i];exact aFb _ oM
 obtain ⟨p,y⟩:=eqx (o*2 % 18446744073709551616);have F:p < 18446744073709551616:=oM;have J:IntKind.u64.wrap (o*2)=(p:Int):=zv
 have D:=aIS m E F;have u:uF x k d=m||| p:=by unfold uF;rw [f,j,c,g,i,y]
 have z:((x:Int)/ 9223372036854775808==1)=x.testBit 63:=by rw [<-aMt l,zEd,zCr,zCa];omega
 rw [g] at s;rw [i] at C;rw [u,<-z];have K:decide ((k:Int) < 0)=false:=zs
 have L:¬((k:Int)>=64):=oM;have B:=(w.trans f);clear u z w f j g i y;go_enter func275,ntmps275;go_wp2_with fail;refine (uR (k:Int) l oM _).mono ?_;rintro r w1 ⟨rfl,rfl⟩;rw [B];cases d with
 | true=>
  rw [zBx rfl] at c;subst c;go_wp2_with fail;go_ret2;exact ⟨rfl,rfl⟩
 | false=>
  rw [zBw zs] at c;subst c;have I:bits .or .u64 (b:Int) 0=(m:Int):=s;go_wp2_with fail;go_ret2;exact ⟨by rw [<-D];rfl,rfl⟩
def aFV {x:Nat} (a:Nat) (f) (q:x < 18446744073709551616) (B:a < 64) (F):
 Calls prog 266 #[.int .u64 x,(a:Int),.bool f] F λg R=>g=.returned (.tuple #[.int .u64 (qG x a f:Nat),.bool (x.testBit a)])/\F=R:=by
 have C:=aGK x B;have o:=aGK (x / 2) B;obtain ⟨n,i⟩:=eqx (x % 2 ^ a);have y:n < 18446744073709551616:=by rw [<-i];exact aAr a q
 have O:x / 2 < 18446744073709551616:=oM;obtain ⟨u,d⟩:=eqx (x / 2 % 2 ^ a);have L:u < 18446744073709551616:=by rw [<-d];exact aAr a O
 obtain ⟨s,m⟩:=eqx (x / 2);have Z:(x:Int)/ 2=s:=oM;have r:s < 18446744073709551616:=oM;obtain ⟨v,e⟩:=eqx ((if f then 9223372036854775808 else 0:Nat));have M:v < 18446744073709551616:=by rw [<-e];split <;> omega
 have I:=aFa r L;obtain ⟨E,l⟩:=eqx (s&&&(18446744073709551615 - u));have D:E < 18446744073709551616:=by rw [<-l];exact aFb _ oM
 have H:=aIS n y D;obtain ⟨c,k⟩:=eqx (n||| E);have N:c < 18446744073709551616:=by rw [<-k];exact aHN y D
 have w:=aIS c N M;have A:qG x a f=c||| v:=by unfold qG;rw [i,m,e];rw [m] at d;rw [d,l,k]
 obtain ⟨b,j⟩:=eqx (x / 2 ^ a);have V:(x:Int)/ 2 ^ a=b:=by rw [<-j];push_cast;rfl
 have W:b < 18446744073709551616:=by rw [<-j];exact zDF (zDZ _ _) q
 have K:bits .and .u64 (b:Int) 1=((b&&& 1:Nat):Int):=(bits_nat .u64 64 dC (λa0 T U=>by rw [kn];omega) b 1 oM dC).1;have p:(((b&&& 1:Nat):Int)==1)=x.testBit a:=by rw [zES,j,zEN,zEd,zCr,zCa];omega
 obtain ⟨S,z⟩:=eqx (b&&& 1);rw [z] at K p;rw [k] at H;rw [l] at I;rw [A,<-p];have X:decide ((a:Int) < 0)=false:=zs
 have Y:¬((a:Int)>=64):=oM;rw [m] at o d;have G:=(C.trans i);have t:=(o.trans d);clear A p C o i d m k l j z;go_enter func266,ntmps266;go_wp2_with fail;refine (uR (a:Int) q oM _).mono ?_;rintro g w1 ⟨rfl,rfl⟩;rw [G];cases f with
 | true=>
  rw [zBx rfl] at e;subst e;have J:bits .or .u64 (c:Int) 9223372036854775808=((c||| 9223372036854775808:Nat):Int):=w;go_wp2_with fail;refine (uR (a:Int) r oM _).mono ?_;rintro g w1 ⟨rfl,rfl⟩;rw [t];go_wp2_with fail;go_ret2;exact ⟨rfl,rfl⟩
 | false=>
  rw [zBw zs] at e;subst e;have J:bits .or .u64 (c:Int) 0=((c||| 0:Nat):Int):=w;go_wp2_with fail;refine (uR (a:Int) r oM _).mono ?_;rintro g w1 ⟨rfl,rfl⟩;rw [t];go_wp2_with fail;go_ret2;exact ⟨by rw [Nat.or_zero];rfl,rfl⟩
end
section
open Go.RowKit Go
section
variable {P : Program} {ops : Array Oper} {Q : Exit -> Act -> World -> Prop} {md : Region.Mode}
def aCK {ds} {C:(Operand->Value)->World->Prop} (m:Nat->Value->World->World->Prop) (o:Nat->World->Prop) (k:Nat->(Operand->Value)->Value->World->Prop) {a0 W0} (A:ops.toList.filterMap (·.dst)=ds) (D:kL md ops a0.tmps.size=true) (w:C a0.eval W0) (y:∀c,o c W0) (v:∀a e d i f b g,ops[a]?=some e->(∀l,e.dst=some l->i (.tmp l)=f)->(∀j,e.dst≠some j->i (.tmp j)=d (.tmp j))->C d b->m a f b g->C i g) (x:∀c a f b g,c≠a->upB md ops ops.size a c=false->o c b->m a f b g->o c g) (F:∀a e d i f b,ops[a]?=some e->(∀j,e.dst≠some j->i (.tmp j)=d (.tmp j))->k a d f b->k a i f b) (G:∀c a e d i f q b g,ops[a]?=some e->(∀j,e.dst≠some j->i (.tmp j)=d (.tmp j))->c≠a->upB md ops ops.size c a=false->k c d f b->C d b->m a q b g->k c i f g) (H:∀a e,ops[a]?=some e->zM P ops Q md C m o k a0 a e) (B:∀(d:Operand->Value) b,C d b->(∀c l,((ops[c]?).bind (·.dst))=some l->k c d (d (.tmp l)) b)->(∀c,c < ops.size->∃f,k c d f b)->Q .normal (dJ d ds a0) b):
 wpAny P md ops Q ops.size (Array.replicate ops.size false) a0 W0:=by
 exact mP (n:=ops.size) (by rw [zR];exact A) nL D (λL c r p=>absurd p oM) w y (λa e d i f b g _=>v a e d i f b g) (λc a _ f b g _ r p t _ u=>x c a f b g r p t u) F (λc a e d i f q b g _ _=>G c a e d i f q b g) (λa e _ E=>H a e E) λd b K z I J=>qD rfl (B d b z (λc l s=>I c l (aGX s) s) J)
end
def blk?:Value->Option Nat
 | .pointer (some a)=>some a.block
 | .slice (some a) _ _=>some a.block
 | _=>none
def aFX (d:List Nat) (c:Operand->Value) (f:World):Prop:=
 (∀b∈d,∀a,blk? (c (.tmp b))=some a->a < f.heap.size)/\∀b∈d,∀e∈d,b≠e->∀a,blk? (c (.tmp b))=some a->blk? (c (.tmp e))≠some a
def aAQ {d c j} (g:(d.all λa=>(blk? (c (.tmp a))).isNone)=true):aFX d c j:=by
 have i:∀a∈d,blk? (c (.tmp a))=none:=λa b=>by simpa using zBf.1 g a b
 refine ⟨λa b f e=>?_,λa b _ _ _ f e=>?_⟩<;>(rw [i a b] at e;cases e)
def aMm (b:Value) (c d:World):Prop:=∀a,blk? b=some a->c.heap.size<=a/\a < d.heap.size
def aCG (g:List Nat) (ops:Array Oper) (e:World->World->Prop) (d c:Nat) (i:Value) (a b:World):Prop:=a.heap.size<=b.heap.size/\(c=d->e a b)/\(c≠d->Grow a b)/\∀f∈g,((ops[c]?).bind (·.dst))=some f->aMm i a b
def dX {d ops} {i:World->World->Prop} {c b o f g} (e:Grow f g) (n:(b==c)=false) (m:(d.all λa=>((ops[b]?).bind (·.dst))!= some a)=true):aCG d ops i c b o f g:=
 ⟨e.size,λj=>by simp [j] at n,λ_=>e,λa k l=>by have:=zBf.1 m a k;simp [l] at this⟩
def kY {j ops} {g:World->World->Prop} {c e f a b} (d:Grow a b) (l:(e==c)=false) (k:aMm f a b):aCG j ops g c e f a b:=
 ⟨d.size,λi=>by simp [i] at l,λ_=>d,λ_ _ _=>k⟩
def aLj {f ops} {e:World->World->Prop} {a n c d} (i:e c d) (m:c.heap.size<=d.heap.size) (l:(f.all λb=>((ops[a]?).bind (·.dst))!= some b)=true):aCG f ops e a a n c d:=
 ⟨m,λ_=>i,λg=>absurd rfl g,λb j k=>by have:=zBf.1 l b j;simp [k] at this⟩
abbrev KP:=List Nat×((Operand->Value)->Value->World->Prop)
def k0 (a:Value->World->Prop):KP:=([],λ_ b c=>a b c)
def kEq (a:Nat):KP:=([a],λb c _=>c=b (.tmp a))
def kLk (b c:Nat) (d:Value->Value->World->Prop):KP:=([b,c],λa _ e=>d (a (.tmp b)) (a (.tmp c)) e)
def aFR (a:KP):Prop:=∀b c:Operand->Value,(∀d∈a.1,c (.tmp d)=b (.tmp d))->∀e f,a.2 b e f->a.2 c e f
def aGY (b):aFR (k0 b):=λ_ _ _ _ _ a=>a
def aH7 (a):aFR (kEq a):=λf b d e g c=>by
 show e=b (.tmp a);rw [d a (by simp [kEq])];exact c
def aNi (a b) (e:Value->Value->World->Prop):aFR (kLk a b e):=λi c d j g f=>by
 show e (c (.tmp a)) (c (.tmp b)) g;rw [d a (by simp [kLk]),d b (by simp [kLk])];exact f
def aHj (f:World->World->Prop) (b:KP):Prop:=∀a c d e,b.2 a c d->f d e->b.2 a c e
def kM {e:World->World->Prop} {d} (f:∀a b c,d a b->e b c->d a c):aHj e (k0 d):=λ_ a b c g i=>f a b c g i
def yZ (a:World->World->Prop) (b):aHj a (k0 (is b)):=λ_ _ _ _ c _=>c
def aEm (a:World->World->Prop):aHj a (k0 cO):=λ_ _ _ _ _ _=>trivial
def tZ (a:World->World->Prop) (c):aHj a (kEq c):=λ_ _ _ _ b _=>b
def tY {d:World->World->Prop} {k l} {c:Value->Value->World->Prop} (g:∀e f a b,c e f a->d a b->c e f b):aHj d (kLk k l c):=λ_ _ a b i j=>g _ _ a b i j
def VsQ (c:List KP) (b:Nat) (a:Operand->Value) (d:Value) (e:World):Prop:=(c.getD b (k0 cO)).2 a d e
def aHF (a:List KP) (b):a.getD b (k0 cO)∈a∨a.getD b (k0 cO)=k0 cO:=by
 rw [zAb];cases c:a[b]? with
 | none=>exact .inr rfl
 | some d=>exact .inl (zAd c)
def zQ {P:Program} {ops:Array Oper} {Q:Exit->Act->World->Prop} {md:Region.Mode} (I:List Nat) {fs:List Nat} (A:Nat) (B:World->World->Prop) {C:World->Prop} (g:List KP) {w:Act} {G:World} (r:ops.toList.filterMap (·.dst)=I) (S:kL md ops w.tmps.size=true) (ae:((List.range ops.size).all λb=>(List.range ops.size).all λc=>match ops[c]? with
 | some e=>upB md ops ops.size b c||(g.getD b (k0 cO)).1.all λj=>e.dst != some j
 | none=>true)=true) (a3:C G) (a1:aFX fs w.eval G) (a2:∀a k,C a->(Grow a k∨B a k)->C k) (a9:∀F∈g,aFR F) (L:∀F∈g,aHj Grow F) (ah:∀F∈g.eraseIdx A,aHj B F) (ai:∀c e,ops[c]?=some e->zM P ops Q md (λd a=>C a/\aFX fs d a) (aCG fs ops B A) (λ_ _=>True) (VsQ g) w c e) (ab:∀(d:Operand->Value) a,C a->aFX fs d a->(∀b D,((ops[b]?).bind (·.dst))=some D->VsQ g b d (d (.tmp D)) a)->(∀b,b < ops.size->∃f,VsQ g b d f a)->Q .normal (dJ d I w) a):
 wpAny P md ops Q ops.size (Array.replicate ops.size false) w G:=by
 have a7:∀ {c f a k},aCG fs ops B A c f a k->Grow a k∨B a k:=λ{c f a k} p=>by by_cases u:c=A;exact .inr (p.2.1 u);exact .inl (p.2.2.1 u)
 have ag:∀c,upB md ops ops.size c c=false:=by
  intro c;cases O:upB md ops ops.size c c with
  | false=>rfl
  | true=>exact (aF3 S nL O).elim
 have aa:∀b,aFR (g.getD b (k0 cO)):=λb=>by rcases aHF g b with p | p;exact a9 _ p;rw [p];exact aGY _
 have R:∀b c e (d o:Operand->Value) f a,b < ops.size->ops[c]?=some e->(∀j,e.dst≠some j->o (.tmp j)=d (.tmp j))->upB md ops ops.size b c=false->VsQ g b d f a->VsQ g b o f a:=by intro b c e d o f a y n q N z;have l:=zBf.1 (zBf.1 ae b (by simpa using y)) c (by simpa using (zAh.1 n).1);simp only [n,N,zGm] at l;exact aa b d o (λj ht=>q j (by have:=zBf.1 l j ht;simpa using this)) f a z
 refine aCK (ds:=I) (C:=(λd a=>C a/\aFX fs d a)) (a0:=w) (W0:=G) (aCG fs ops B A) (λ_ _=>True) (λb d f a=>b < ops.size->VsQ g b d f a) r S ⟨a3,a1⟩ (λ_=>trivial) (λc e d o f a k n x q p E=>⟨a2 a k p.1 (a7 E),?_⟩) (λ_ _ _ _ _ _ _ _ _=>trivial) (λc e d o f a n q z u=>R c c e d o f a u n q (ag c) (z u)) (λb c e d o f al a k n q ac N z O E y=>?_) (λc e n V a l m W X Y Z U a4=>ai c e n V a l m W X Y (λJ q a8 aj D T x=>Z J q a8 aj D T x (zAh.1 T).1) U (λf k a5 a6=>a4 f k a5 λ_=>a6)) (λd a p l m=>ab d a p.1 p.2 (λb D x=>l b D x (by
  cases n:ops[b]? with
  | none=>rw [n] at x;cases x
  | some e=>exact (zAh.1 n).1)) (λb y=>(m b y).imp λf z=>z y))
 .have ak:=E.1;obtain ⟨l,m⟩:=p.2;have M:∀i∈fs,e.dst=some i->aMm (o (.tmp i)) a k:=λi v r=>by rw [x i r];exact E.2.2.2 i v (by rw [n];exact r)
  refine ⟨λi v s t=>?_,λi v j ht L s t H=>?_⟩;by_cases r:e.dst=some i;exact (M i v r s t).2;rw [q i r] at t;have:=l i v s t;omega;by_cases r:e.dst=some i;have K:e.dst≠some j:=λJ=>L (by rw [r] at J;injection J);rw [q j K] at H;have:=(M i v r s t).1;have:=l j ht s H;omega;rw [q i r] at t;by_cases K:e.dst=some j;have:=(M j ht K s H).1;have:=l i v s t;omega;rw [q j K] at H;exact m i v j ht L s t H
 .have l:=R b c e d o f a y n q N (z y);unfold VsQ at l⊢;by_cases u:c=A
  .subst u
   have af:g.getD b (k0 cO)∈g.eraseIdx c∨g.getD b (k0 cO)=k0 cO:=by
    rw [zAb];cases ad:g[b]? with
    | none=>exact .inr rfl
    | some F=>exact .inl (List.mem_eraseIdx_iff_getElem?.2 ⟨b,ac,ad⟩)
   rcases af with m | m;exact ah _ m o f a k l (E.2.1 rfl)
   .rw [m];trivial
  .rcases aHF g b with m | m;exact L _ m o f a k l (E.2.2.1 u)
   .rw [m];trivial
end
end Go.Proofs.YtknjfpcdhdmghaaGreatDoor
