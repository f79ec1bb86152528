/- Lemmas of the walk. Conditions: each its own. -/
import Derived.Test.YthldmddkfbijhaaGreatDoorPst1
import Derived.Test.YthldmddkfbijhaaGreatDoorPst2
import Derived.Test.YthldmddkfbijhaaGreatDoorProg
set_option linter.all false
set_option maxRecDepth 100000
set_option maxHeartbeats 4000000
namespace Go.Proofs.YthldmddkfbijhaaGreatDoor
open Tryz
section
theorem lF (c:Nat) {b a:Nat} (f:b<=a):bK c b<=bK c a:=by
 induction a with
 | zero=>obtain rfl:b=0:=oM
         exact zAs _
 | succ a e=>
   rw [dM];by_cases d:b<=a;have:=e d;omega;obtain rfl:b=a+1:=oM;rw [dM];exact zAs _
theorem aFv (b:Nat) {e:Nat}:∀ {a:Nat},e < bK b a->∃c,c < a/\b.testBit c=true/\bK b c=e
 | 0,h=>by rw [oO] at h;omega
 | a+1,h=>by
   by_cases f:e < bK b a;obtain ⟨c,j,g,i⟩:=aFv b f;exact ⟨c,by omega,g,i⟩
   · rw [dM] at h;cases d:b.testBit a with
     | false=>rw [d] at h;simp at h;omega
     | true=>
       rw [d] at h;simp at h;exact ⟨a,by omega,d,by omega⟩
theorem aIb (c:Nat) {a b:Nat} (e:c.testBit a=true) (f:c.testBit b=true) (g:bK c a=bK c b):a=b:=by
 rcases Nat.lt_trichotomy a b with d | d | d;have:=lF c (show a+1<=b from d);rw [dM,e] at this;simp at this;omega;exact d;have:=lF c (show b+1<=a from d);rw [dM,f] at this;simp at this;omega
theorem aFE {a:Nat} (e:0 < a) (d:a < 2 ^ 64):∃b,a=2 ^ Lib.ctz 64 a*(2*b+1)/\Lib.ctz 64 a < 64:=by
 obtain ⟨b,f,g⟩:=Lib.ctzFrom_spec 64 a e d;have c:Lib.ctz 64 a=Lib.ctzFrom 64 a:=by unfold Lib.ctz;rw [zBw oM]
 exact ⟨b,by rw [c];exact f,by rw [c];exact g⟩
theorem aBh (a c b:Nat):(2 ^ a*(2*c+1)).testBit b=if b < a then false else if b=a then true else c.testBit (b - a - 1):=by
 rw [Nat.mul_comm,Nat.testBit_mul_two_pow];by_cases f:b < a;rw [zBx f,zBy oM];rfl
 · rw [zBw f,zBz oM,Bool.true_and];by_cases d:b=a
   · rw [zBx d];subst d;rw [Nat.sub_self];simp [Nat.testBit_zero]
   · rw [zBw d];obtain ⟨e,g⟩:∃e,b - a=e+1:=⟨b - a - 1,by omega⟩;rw [g,Nat.testBit_succ];have:(2*c+1)/ 2=c:=oM;rw [this];congr 1
theorem aH2 (a c b:Nat):(2 ^ a*(2*c+1) - 1).testBit b=if b < a then true else if b=a then false else c.testBit (b - a - 1):=by
 have j:0 < 2 ^ a:=Nat.two_pow_pos a;have g:2 ^ a*(2*c+1) - 1=2 ^ a*(2*c)+(2 ^ a - 1):=by rw [Nat.mul_add,zBl];omega
 rw [g,Nat.testBit_two_pow_mul_add _ oM];by_cases d:b < a
 · rw [zBx d,zBx d,Nat.testBit_two_pow_sub_one,zBz d]
 · rw [zBw d,zBw d];by_cases e:b=a
   · rw [zBx e];subst e;rw [Nat.sub_self];simp [Nat.testBit_zero]
   · rw [zBw e];obtain ⟨f,i⟩:∃f,b - a=f+1:=⟨b - a - 1,by omega⟩;rw [i,Nat.testBit_succ];have:2*c / 2=c:=oM;rw [this];congr 1
theorem aGP {a:Nat} (g:0 < a) (f:a < 2 ^ 64) (b:Nat):(a&&&(a - 1)).testBit b=(a.testBit b&&decide (b≠Lib.ctz 64 a)):=by
 obtain ⟨j,e,i⟩:=aFE g f;generalize Lib.ctz 64 a=k at e i;subst e;rw [Nat.testBit_and,aBh,aH2];by_cases c:b < k
 · simp [c]
 · by_cases d:b=k
   · simp [d]
   · simp [c,d]
theorem aFL {a:Nat} (e:0 < a) (d:a < 2 ^ 64):a.testBit (Lib.ctz 64 a)=true/\∀b,b < Lib.ctz 64 a->a.testBit b=false:=by
 obtain ⟨i,c,f⟩:=aFE e d;generalize Lib.ctz 64 a=k at c f⊢;subst c;refine ⟨?_,fun b g=>?_⟩
 · rw [aBh,zBw oM,zBx rfl]
 · rw [aBh,zBx g]
def clr (a:Nat):Nat->Nat
 | 0=>a
 | i+1=>clr a i&&&(clr a i - 1)
theorem aET (b a:Nat):clr b a<=b:=by
 induction a with
 | zero=>exact zAs _
 | succ a c=>exact zAk Nat.and_le_left c
theorem aBw {a:Nat} (o:a < 2 ^ 64) {i:Nat} (m:a.testBit i=true):∀b,b<=bK a i->∀c,(clr a b).testBit c=(a.testBit c&&decide (b<=bK a c))
 | 0,_,c=>by simp [clr]
 | b+1,hi,c=>by
   have e:=aBw o m b oM;have n:(clr a b).testBit i=true:=(by rw [e,m,zBz oM];rfl);have j:0 < clr a b:=by
    rcases zBa (clr a b) with f | f
    · rw [f] at n;simp at n
    exact f
   have l:clr a b < 2 ^ 64:=Nat.lt_of_le_of_lt (aET a b) o;obtain ⟨d,p⟩:=aFL j l;show (clr a b&&&(clr a b - 1)).testBit c=_;rw [aGP j l];generalize Lib.ctz 64 (clr a b)=k at d p;rw [e,zBd,zCa] at d;obtain ⟨d,y⟩:=d;have x:bK a k=b:=by
    by_cases g:b < bK a k
    · obtain ⟨v,q,r,s⟩:=aFv a g;have:=p v q;rw [e,r,s] at this;simp at this
    omega
   rw [e];cases u:a.testBit c with
   | false=>rfl
   | true=>
     rw [Bool.true_and,Bool.true_and,Bool.eq_iff_iff,zBd,zCa,zCa,zCa];constructor;rintro ⟨g,t⟩;by_cases w:bK a c=b;exact absurd (aIb a u d oM) t;omega;intro g;refine ⟨by omega,?_⟩;rintro rfl;omega
theorem aFN {x:Nat} (e:x < 2 ^ 64) {b i:Nat} (d:x.testBit b=true) (c:i<=bK x b):0 < clr x i:=by
 have:=aBw e d i c b;rw [d,zBz c] at this;rcases zBa (clr x i) with a | a
 · rw [a] at this;simp at this
 exact a
theorem aJV {x:Nat} (e:x < 2 ^ 64) {b a:Nat} (d:x.testBit b=true) (m:bK x b=a):Lib.ctz 64 (clr x a)=b:=by
 have j:=aFN e d (i:=a) oM;have k:clr x a < 2 ^ 64:=Nat.lt_of_le_of_lt (aET x a) e;obtain ⟨g,l⟩:=aFL j k;have f:=aBw e d a oM;rcases Nat.lt_trichotomy (Lib.ctz 64 (clr x a)) b with c | c | c;rw [f,zBd,zCa] at g;have:=lF x (show Lib.ctz 64 (clr x a)+1<=b from c);rw [dM,g.1] at this;simp at this;omega;exact c
 · have:=l b c;rw [f,d,zBz oM] at this;simp at this
def fE (a:Nat) (b:Bool):Nat:=if b then a else 18446744073709551615 - a
theorem aCe (a:Nat) (b:Bool) (c:a < 18446744073709551616):fE a b < 18446744073709551616:=by
 unfold fE;split <;> omega
theorem kW (a:Nat) (c:Bool) (f:a < 18446744073709551616) {b:Nat} (e:b < 64):(fE a c).testBit b=(a.testBit b==c):=by
 unfold fE;cases c with
 | true=>simp
 | false=>
   have d:18446744073709551615 - a=2 ^ 64 -(a+1):=oM;simp only [Bool.false_eq_true,if_false];rw [d,Nat.testBit_two_pow_sub_succ oM,zBz e];cases a.testBit b <;> rfl
theorem lZ (e:Nat) (b:List Bool) (d:Bool):∀a,a<=b.length->(∀c,c < a->∀f,b[c]?=some f->e.testBit c=(f==d))->bK e a=(b.take a).count d
 | 0,_,_=>by simp [oO]
 | a+1,hn,h=>by have g:b[a]?=some (b[a]' oM):=zAa oM;rw [dM,lZ e b d a oM (fun c i=>h c oM),zAv,g,zCc,h a oM _ g];simp [List.count_cons]
theorem aDX (c:List Bool) {a:Nat} (e:a < 64) {b:Bool} (d:c[a]?=some b):(w0 c).testBit a=b:=by
 unfold w0;rw [jV,zAb,zBs,zBx e,d];rfl
theorem aHf (b:List Bool) {q:Nat} {a:Bool} (c:b[64+q]?=some a):(w1 b).testBit q=a:=by
 unfold w1;rw [jV,zAb,zBt,c];rfl
theorem aKp {a:List Bool} {b:Bool} {c d:Nat} (n:a.length<=128) (j:a[c]?=some b) (l:(a.take c).count b=d) (e:c < 64):
 (fE (w0 a) b).testBit c=true/\bK (fE (w0 a) b) c=d/\d < bK (fE (w0 a) b) 64:=by
 have i:=nD a;have o:=(zAc.1 j).1;have f:(fE (w0 a) b).testBit c=true:=by rw [kW _ _ i e,aDX a e j];simp
 have g:bK (fE (w0 a) b) c=d:=by rw [<-l];exact lZ _ a b c oM fun q p m k=>by rw [kW _ _ i oM,aDX a oM k]
 refine ⟨f,g,?_⟩;have:=lF (fE (w0 a) b) (show c+1<=64 by omega);rw [dM,f,g] at this;simp at this;omega
theorem aKq {a:List Bool} {b:Bool} {c f:Nat} (r:a.length<=128) (m:a[c]?=some b) (u:(a.take c).count b=f) (t:64<=c):
 ∃i g,bK (fE (w0 a) b) 64=i/\i<=f/\f - i=g/\(fE (w1 a) b).testBit (c - 64)=true/\bK (fE (w1 a) b) (c - 64)=g/\g < bK (fE (w1 a) b) 64:=by
 have s:=nD a;have l:=mX a r;have v:=(zAc.1 m).1;have p:bK (fE (w0 a) b) 64=(a.take 64).count b:=lZ _ a b 64 oM fun n e o d=>by rw [kW _ _ s e,aDX a e d]
 have w:(a.take c).count b=(a.take 64).count b+((a.drop 64).take (c - 64)).count b:=by
  have:a.take c=a.take 64++(a.drop 64).take (c - 64):=by rw [<-List.take_add];congr 1;omega
  rw [this,zCc]
 have j:(fE (w1 a) b).testBit (c - 64)=true:=by rw [kW _ _ l oM,aHf a (q:=c - 64) (by rw [show 64+(c - 64)=c by omega];exact m)];simp
 have k:bK (fE (w1 a) b) (c - 64)=((a.drop 64).take (c - 64)).count b:=
  lZ _ (a.drop 64) b (c - 64) (by rw [zAw];omega) fun n e o d=>by rw [zBt] at d;rw [kW _ _ l oM,aHf a d]
 refine ⟨_,_,p,by omega,rfl,j,by rw [k];omega,?_⟩;have:=lF (fE (w1 a) b) (show c - 64+1<=64 by omega);rw [dM,j,k] at this;simp at this;omega
def rG (b a:Nat) (c:Bool):Nat:=(b % 2 ^ a|||(if c then 2 ^ a else 0))|||(b&&&(18446744073709551615 - b % 2 ^ a))*2 % 18446744073709551616
def nS (a b:Nat) (c:Bool):Nat:=(a % 2 ^ b|||(a / 2&&&(18446744073709551615 - a / 2 % 2 ^ b)))|||(if c then 9223372036854775808 else 0)
theorem aFx (b a:Nat) (c:b < 18446744073709551616):(18446744073709551615 - b).testBit a=(decide (a < 64)&& !b.testBit a):=by
 have:=Nat.testBit_two_pow_sub_succ (n:=64) (x:=b) oM a;rw [<-this];congr 1;omega
theorem aIp (c b a:Nat):(c % 2 ^ b).testBit a=(decide (a < b)&&c.testBit a):=Nat.testBit_mod_two_pow _ _ _
theorem aFt (b a:Nat):(2 ^ b).testBit a=decide (b=a):=Nat.testBit_two_pow
theorem aJU (b a:Nat):(b*2 % 18446744073709551616).testBit a=(decide (a < 64)&&(decide (0 < a)&&b.testBit (a - 1))):=by
 have c:(18446744073709551616:Nat)=2 ^ 64:=dC;rw [c,aIp];congr 1;rcases a with _ | a
 · simp
 · rw [Nat.testBit_succ,Nat.mul_div_cancel _ (by decide:0 < 2)];simp
theorem wV (a c:Nat) (b:a < 18446744073709551616):a % 2 ^ c < 18446744073709551616:=Nat.lt_of_le_of_lt (Nat.mod_le _ _) b
theorem aKH (b a:Nat) (d:b < 18446744073709551616) (c:64<=a):b.testBit a=false:=Nat.testBit_lt_two_pow (zAl d (zBp (n:=2) dC c))
theorem aBa (c b a:Nat) (d:Bool) (o:c < 18446744073709551616) (q:b < 64):(rG c b d).testBit a=if a < b then c.testBit a else if a=b then d else (decide (a < 64)&&c.testBit (a - 1)):=by
 unfold rG;rw [Nat.testBit_or,Nat.testBit_or,aJU,Nat.testBit_and,aFx _ _ (wV c b o),aIp,aIp];have n:(if d then 2 ^ b else 0:Nat).testBit a=(decide (b=a)&&d):=by
  cases d
  · simp
  · simp [aFt]
 rw [n];by_cases f:a < b
 · have e:decide (a - 1 < b)=true:=zBz oM;have g:decide (b=a)=false:=zBy oM;rw [zBx f,zBz f,e,g];cases r:c.testBit a <;> cases p:c.testBit (a - 1)<;> simp
 · rw [zBw f,zBy f];by_cases i:a=b
   · subst i;rw [zBx rfl];by_cases j:a=0
     · subst j;simp
     · have e:decide (a - 1 < a)=true:=zBz oM;rw [e];cases p:c.testBit (a - 1)<;> simp
   · have e:decide (a - 1 < b)=false:=zBy oM;have g:decide (b=a)=false:=zBy oM;have k:decide (0 < a)=true:=zBz oM;rw [zBw i,e,g,k];by_cases l:a < 64
     · have m:decide (a - 1 < 64)=true:=zBz oM;rw [m];simp
     · simp [l]
theorem aBr (b d a:Nat) (c:Bool) (j:b < 18446744073709551616) (o:d < 64):(nS b d c).testBit a=if a < d then b.testBit a else if a < 63 then b.testBit (a+1) else (decide (a=63)&&c):=by
 unfold nS;have m:b / 2 < 18446744073709551616:=Nat.lt_of_le_of_lt (Nat.div_le_self _ _) j;have n:∀g,(b / 2).testBit g=b.testBit (g+1):=fun g=>by rw [Nat.testBit_succ]
 rw [Nat.testBit_or,Nat.testBit_or,Nat.testBit_and,aFx _ _ (wV _ d m),aIp,aIp,n];have l:(if c then 9223372036854775808 else 0:Nat).testBit a=(decide (a=63)&&c):=by
  cases c
  · simp
  rw [zBx rfl,show (9223372036854775808:Nat)=2 ^ 63 by decide,aFt,Bool.and_true];congr 1;exact propext eq_comm
 rw [l];by_cases e:a < d
 · have f:decide (a=63)=false:=zBy oM;rw [zBx e,zBz e,f];cases p:b.testBit a <;> cases q:b.testBit (a+1)<;> simp
 · rw [zBw e,zBy e];by_cases i:a < 63
   · have f:decide (a=63)=false:=zBy oM;have k:decide (a < 64)=true:=zBz oM;rw [zBx i,f,k];simp
   · rw [zBw i,aKH b (a+1) j oM];simp
theorem jA (b:List Bool) (a:Nat):(w0 b).testBit a=(decide (a < 64)&&b.getD a false):=by unfold w0;rw [jV,aFW]
theorem gS (b:List Bool) (a:Nat):(w1 b).testBit a=b.getD (64+a) false:=by unfold w1;rw [jV,aGM]
theorem vF (b:List Bool) (a:Nat) (c:b.length<=a):b.getD a false=false:=by
 rw [zAb,zBg c];rfl
theorem aKv (a:List Bool) (d:Nat) (e:Bool) (i:d<=a.length) (k:a.length<=127) (j:d < 64):w0 (aP a d e)=rG (w0 a) d e/\w1 (aP a d e)=rG (w1 a) 0 (a.getD 63 false):=by
 constructor
 · refine Nat.eq_of_testBit_eq fun b=>?_;rw [aBa _ _ _ _ (nD a) j,jA,jA,jA,oS a e i];by_cases g:b < d
   · rw [zBx g,zBx g]
   · rw [zBw g,zBw g];by_cases c:b=d
     · rw [zBx c,zBx c,zBz oM,Bool.true_and]
     · rw [zBw c,zBw c];by_cases f:b < 64
       · rw [zBz f,zBz (show b - 1 < 64 by omega),Bool.true_and,Bool.true_and]
       · rw [zBy f,Bool.false_and,Bool.false_and]
 · refine Nat.eq_of_testBit_eq fun b=>?_;rw [aBa _ _ _ _ (mX a oM) dC,gS,gS,oS a e i,zBw oM,zBw oM,zBw oM];by_cases c:b=0
   · subst c;rw [zBx rfl]
   · rw [zBw c,show 64+b - 1=64+(b - 1) by omega,gS];by_cases f:b < 64
     · rw [zBz f,Bool.true_and]
     rw [zBy f,Bool.false_and];exact vF a _ oM
theorem aKw (a:List Bool) (c:Nat) (d:Bool) (i:c<=a.length) (k:a.length<=127) (j:64<=c):w0 (aP a c d)=w0 a/\w1 (aP a c d)=rG (w1 a) (c - 64) d:=by
 constructor
 · refine Nat.eq_of_testBit_eq fun b=>?_;rw [jA,jA,oS a d i];by_cases e:b < 64
   · rw [zBz e,zBx oM]
   · rw [zBy e,Bool.false_and,Bool.false_and]
 · refine Nat.eq_of_testBit_eq fun b=>?_;rw [aBa _ _ _ _ (mX a oM) oM,gS,gS,gS,oS a d i];by_cases f:b < c - 64
   · rw [zBx oM,zBx f]
   · rw [zBw oM,zBw f];by_cases g:b=c - 64
     · rw [zBx oM,zBx g]
     · rw [zBw oM,zBw g,show 64+b - 1=64+(b - 1) by omega];by_cases e:b < 64
       · rw [zBz e,Bool.true_and]
       rw [zBy e,Bool.false_and];exact vF a _ oM
theorem aKN (a:List Bool) (c:Nat) (g:c < a.length) (j:a.length<=128) (i:c < 64):w0 (aG a c)=nS (w0 a) c (a.getD 64 false)/\w1 (aG a c)=nS (w1 a) 0 false:=by
 constructor
 · refine Nat.eq_of_testBit_eq fun b=>?_;rw [aBr _ _ _ _ (nD a) i,jA,jA,jA,oX a g];by_cases e:b < c
   · rw [zBx e,zBx e]
   · rw [zBw e,zBw e];by_cases d:b < 63
     · rw [zBx d,zBz (show b < 64 by omega),zBz (show b+1 < 64 by omega)]
     · rw [zBw d];by_cases f:b=63;subst f;rfl
       · rw [zBy f,zBy (show ¬b < 64 by omega),Bool.false_and,Bool.false_and]
 · refine Nat.eq_of_testBit_eq fun b=>?_;rw [aBr _ _ _ _ (mX a j) dC,gS,gS,oX a g,zBw oM,zBw oM,Bool.and_false];by_cases d:b < 63
   · rw [zBx d,show 64+b+1=64+(b+1) by omega,gS]
   rw [zBw d];exact vF a _ oM
theorem cut_hi (a:List Bool) (k:Nat) (f:k < a.length) (g:a.length<=128) (i:64<=k):w0 (aG a k)=w0 a/\w1 (aG a k)=nS (w1 a) (k - 64) false:=by
 constructor
 · refine Nat.eq_of_testBit_eq fun b=>?_;rw [jA,jA,oX a f];by_cases e:b < 64
   · rw [zBz e,zBx oM]
   · rw [zBy e,Bool.false_and,Bool.false_and]
 · refine Nat.eq_of_testBit_eq fun b=>?_;rw [aBr _ _ _ _ (mX a g) oM,gS,gS,gS,oX a f,Bool.and_false];by_cases c:b < k - 64
   · rw [zBx oM,zBx c]
   · rw [zBw oM,zBw c,show 64+b+1=64+(b+1) by omega];by_cases d:b < 63
     · rw [zBx d]
     rw [zBw d];exact vF a _ oM
theorem aJi (a:Nat) (b:a < 18446744073709551616):decide (a / 9223372036854775808=1)=a.testBit 63:=by
 rw [Nat.testBit_eq_decide_div_mod_eq];have:a / 2 ^ 63 % 2=a / 9223372036854775808:=by rw [show (2:Nat)^ 63=9223372036854775808 by decide];omega
 rw [this]
end
section
open Go.RowKit
theorem aC7 (b a:Nat) (e:b < 18446744073709551616) (f:a < 18446744073709551616):bits .andNot .u64 (b:Int) (a:Int)=((b&&&(18446744073709551615 - a):Nat):Int):=by
 have c:b % 2 ^ 64=b:=zBu oM;have d:a % 2 ^ 64=a:=zBu oM;have g:b&&&(18446744073709551615 - a) < 2 ^ 64:=Nat.and_lt_two_pow _ oM;show IntKind.u64.wrap (((BitVec.ofInt 64 (b:Int)&&& ~~~ BitVec.ofInt 64 (a:Int)).toNat:Nat):Int)=_;rw [BitVec.ofInt_natCast,BitVec.ofInt_natCast,BitVec.toNat_and,BitVec.toNat_not,BitVec.toNat_ofNat,BitVec.toNat_ofNat,c,d,IntKind.wrap_u64,show 2 ^ 64 - 1 - a=18446744073709551615 - a by omega];omega
theorem aFu {a b:Nat} (c:a < 18446744073709551616) (d:b < 18446744073709551616):a||| b < 18446744073709551616:=Nat.or_lt_two_pow (n:=64) c d
theorem aC8 (a:Nat) {b:Nat} (c:b < 18446744073709551616):a&&& b < 18446744073709551616:=Nat.and_lt_two_pow (n:=64) a c
theorem aEA (b a:Nat) (c:a < 64):aBi b (a:Int)=b % 2 ^ a:=by
 unfold aBi;rw [show min ((a:Int)).toNat 64=a by omega]
theorem aJf (b c:Nat) (f:Bool) (m:b < 18446744073709551616) (w:c < 64) (A:World):
 Calls prog 270 #[.int .u64 (b:Int),(c:Int),.bool f] A fun s G=>s=.returned (.tuple #[.int .u64 ((rG b c f:Nat):Int),.bool (b.testBit 63)])/\A=G:=by
 have x:=aEA b c w;obtain ⟨d,i⟩:=eqx (b % 2 ^ c);have q:d < 18446744073709551616:=by rw [<-i];exact wV b c m
 obtain ⟨g,l⟩:=eqx (2 ^ c);have O:g < 18446744073709551616:=by rw [<-l];exact Nat.pow_lt_pow_right (a:=2) dC (show c < 64 from w)
 have N:(2:Int)^ c=(g:Int):=by rw [<-l];push_cast;rfl
 obtain ⟨p,e⟩:=eqx ((if f then g else 0:Nat));have u:p < 18446744073709551616:=by rw [<-e];split <;> omega
 have H:IntKind.u64.wrap (g:Int)=(g:Int):=by rw [IntKind.wrap_u64];omega
 have t:=aGs d p q u;obtain ⟨n,j⟩:=eqx (d||| p);have E:n < 18446744073709551616:=by rw [<-j];exact aFu q u
 have C:=aC7 b d m q;obtain ⟨r,k⟩:=eqx (b&&&(18446744073709551615 - d));have M:r < 18446744073709551616:=by rw [<-k];exact aC8 _ oM
 obtain ⟨o,y⟩:=eqx (r*2 % 18446744073709551616);have F:o < 18446744073709551616:=oM;have J:IntKind.u64.wrap ((r:Int)*2)=(o:Int):=by rw [IntKind.wrap_u64];omega
 have D:=aGs n o E F;have v:rG b c f=n||| o:=by unfold rG;rw [i,l,e,j,k,y]
 have z:((b:Int)/ 9223372036854775808==1)=b.testBit 63:=by rw [<-aJi b m,Bool.eq_iff_iff,zCq,zCa];omega
 rw [j] at t;rw [k] at C;rw [v,<-z];have K:decide ((c:Int) < 0)=false:=by simp
 have L:¬((c:Int)>=64):=oM;have B:=lhd (x.trans i);clear v z x i l j k y;go_enter func270,ntmps270;go_wp2_with fail;refine (rQ b (c:Int) m oM _).mono ?_;rintro s w1 ⟨rfl,rfl⟩;rw [B.out];cases f with
 | true=>
   rw [zBx rfl] at e;subst e;go_wp2_with fail;go_ret2;exact ⟨rfl,rfl⟩
 | false=>
   rw [zBw (by simp)] at e;subst e;have I:bits .or .u64 (d:Int) 0=(n:Int):=t;go_wp2_with fail;go_ret2;exact ⟨by rw [<-D];rfl,rfl⟩
theorem aDS (b a:Nat) (i:Bool) (u:b < 18446744073709551616) (C:a < 64) (F:World):
 Calls prog 279 #[.int .u64 (b:Int),(a:Int),.bool i] F fun j P=>j=.returned (.tuple #[.int .u64 ((nS b a i:Nat):Int),.bool (b.testBit a)])/\F=P:=by
 have D:=aEA b a C;have s:=aEA (b / 2) a C;obtain ⟨p,k⟩:=eqx (b % 2 ^ a);have z:p < 18446744073709551616:=by rw [<-k];exact wV b a u
 have O:b / 2 < 18446744073709551616:=oM;obtain ⟨q,e⟩:=eqx (b / 2 % 2 ^ a);have L:q < 18446744073709551616:=by rw [<-e];exact wV _ a O
 obtain ⟨g,o⟩:=eqx (b / 2);have X:(b:Int)/ 2=(g:Int):=oM;have v:g < 18446744073709551616:=oM;obtain ⟨r,f⟩:=eqx ((if i then 9223372036854775808 else 0:Nat));have M:r < 18446744073709551616:=by rw [<-f];split <;> omega
 have I:=aC7 g q v L;obtain ⟨w,n⟩:=eqx (g&&&(18446744073709551615 - q));have E:w < 18446744073709551616:=by rw [<-n];exact aC8 _ oM
 have H:=aGs p w z E;obtain ⟨d,m⟩:=eqx (p||| w);have N:d < 18446744073709551616:=by rw [<-m];exact aFu z E
 have y:=aGs d r N M;have B:nS b a i=d||| r:=by unfold nS;rw [k,o,f];rw [o] at e;rw [e,n,m]
 obtain ⟨c,l⟩:=eqx (b / 2 ^ a);have T:(b:Int)/ 2 ^ a=(c:Int):=by rw [<-l];push_cast;rfl
 have U:c < 18446744073709551616:=by rw [<-l];exact Nat.lt_of_le_of_lt (Nat.div_le_self _ _) u
 have K:bits .and .u64 (c:Int) 1=((c&&& 1:Nat):Int):=(bits_nat .u64 64 dC (fun Y R S=>by rw [IntKind.wrap_u64];omega) c 1 oM dC).1;have t:(((c&&& 1:Nat):Int)==1)=b.testBit a:=by rw [Nat.testBit_eq_decide_div_mod_eq,l,Nat.and_one_is_mod,Bool.eq_iff_iff,zCq,zCa];omega
 obtain ⟨Q,A⟩:=eqx (c&&& 1);rw [A] at K t;rw [m] at H;rw [n] at I;rw [B,<-t];have V:decide ((a:Int) < 0)=false:=by simp
 have W:¬((a:Int)>=64):=oM;rw [o] at s e;obtain ⟨G,x⟩:=hqq2 (D.trans k) (s.trans e);clear B t D s k e o m n l A;go_enter func279,ntmps279;go_wp2_with fail;refine (rQ b (a:Int) u oM _).mono ?_;rintro j w1 ⟨rfl,rfl⟩;rw [G.out];cases i with
 | true=>
   rw [zBx rfl] at f;subst f;have J:bits .or .u64 (d:Int) 9223372036854775808=((d||| 9223372036854775808:Nat):Int):=y;go_wp2_with fail;refine (rQ g (a:Int) v oM _).mono ?_;rintro j w1 ⟨rfl,rfl⟩;rw [x.out];go_wp2_with fail;go_ret2;exact ⟨rfl,rfl⟩
 | false=>
   rw [zBw (by simp)] at f;subst f;have J:bits .or .u64 (d:Int) 0=((d||| 0:Nat):Int):=y;go_wp2_with fail;refine (rQ g (a:Int) v oM _).mono ?_;rintro j w1 ⟨rfl,rfl⟩;rw [x.out];go_wp2_with fail;go_ret2;exact ⟨by rw [Nat.or_zero];rfl,rfl⟩
end
section
def fU (a:List (Int×Nat)):List UInt8:=a.flatMap cO
theorem rT (b:Int×Nat) (a:List (Int×Nat)):fU (b::a)=cO b++fU a:=by simp [fU]
theorem tY (a:Int×Nat) (b:List (Int×Nat)):eI (a::b)=List.replicate a.2 a.1++eI b:=by simp [eI]
def aFR:Nat->List (Int×Nat)->Prop
 | _, []=>True
 | last,x::q=>(jR x.1/\x.1.toNat≠last/\1<=x.2/\x.2 < 18446744073709551616)/\aFR x.1.toNat q
theorem aGk (d:List UInt8) (b:Nat) (a:Int×Nat) (c:List UInt8) (i:jR a.1) (j:a.2 < 18446744073709551616) (e:d.drop b=cO a++c):pF d b=some (a.1.toNat,a.2,b+(cO a).length):=by
 have f:=oT a.1.toNat (by have:=i.2;omega) (cB a.2++c) b;rw [cO,zCo] at e;rw [<-e] at f;have k:d.drop (b+(cB a.1.toNat).length)=cB a.2++c:=by rw [<-List.drop_drop,e,List.drop_left]
 have g:=oT a.2 j c (b+(cB a.1.toNat).length);rw [<-k] at g;rw [wI _ _ _ _ _ _ f g,cO,zAi,Nat.add_assoc]
theorem aHS (e:List UInt8) (k i:Nat) (l:List UInt8):∀(a:List (Int×Nat)) (c f:Nat) (d:List Int),e.drop c=fU a++l->aFR f a->d.length+(eI a).length<=k->
 ∃x,rgo e k (a.length+i) c f d=rgo e k i (c+(fU a).length) x (d++eI a):=by
 intro a
 induction a with
 | nil=>intro c f d _ _ _;exact ⟨f,by simp [fU,eI]⟩
 | cons b a v=>
   intro c f d j p s;obtain ⟨⟨g,y,z,m⟩,n⟩:=p;rw [rT,zCo] at j;have t:=aGk e c b _ g m j;rw [tY,zAi,zCn] at s;have o:(b::a).length+i=(a.length+i)+1:=(by simp;omega);rw [o,aCA _ _ _ _ _ _ _ _ _ t,zBw (by have:=g.1;have:=g.2;omega),zBw oM];have u:((b.1.toNat:Nat):Int)=b.1:=(by have:=g.1;omega);rw [u];have q:e.drop (c+(cO b).length)=fU a++l:=(by rw [<-List.drop_drop,j,List.drop_left]);obtain ⟨w,r⟩:=v (c+(cO b).length) b.1.toNat (d++List.replicate b.2 b.1) q n (by rw [zAi,zCn];omega);refine ⟨w,?_⟩;rw [r,rT,tY,zAi,zCo,Nat.add_assoc]
theorem aIO (c:List (Int×Nat)) (l:tN c) (e:∀a∈c,jR a.1/\a.2 < 18446744073709551616) (f:Nat) (o:∀a,c[0]?=some a->a.1.toNat≠f):aFR f c:=by
 induction c generalizing f with
 | nil=>trivial
 | cons a c s=>
   obtain ⟨g,_,i⟩:=l;refine ⟨⟨(e a (List.mem_cons_self ..)).1,o a rfl,g a (List.mem_cons_self ..),(e a (List.mem_cons_self ..)).2⟩,?_⟩;refine s ⟨fun d b=>g d (List.mem_cons_of_mem _ b),List.pairwise_of_forall (by intros;trivial),fun r j k m n=>i (r+1) j k (by simpa using m) (by simpa using n)⟩ (fun d b=>e d (List.mem_cons_of_mem _ b)) _ ?_;intro d b;have:=i 0 a d rfl (by simpa using b);have p:=(e a (List.mem_cons_self ..)).1;have q:=(e d (List.mem_cons_of_mem _ (zAd b))).1;have:=p.1;have:=q.1;omega
theorem aEU (c:List Int) (d:∀a∈bN c,jR a.1) (e:c.length < 18446744073709551616):aFR 257 (bN c):=
 aIO _ (aAu c) (fun a b=>⟨d a b,by have:=pY c a b;omega⟩) 257 fun a b=>by have:=(d a (zAd b)).2;have:=(d a (zAd b)).1;omega
theorem aA4 (a:List Int) (b:a.length < 18446744073709551616):(bN a).length < 18446744073709551616:=by have:=lT a;omega
theorem aBn (a:List Int) (l:∀m∈bN a,jR m.1) (f:a.length < 18446744073709551616) (d:Int) (n:(a.length:Int)<=d) (b:List UInt8):
 mF (eV (bN a)++b) d=if b= [] then (a,0) else ([],4):=by
 have i:=oT (bN a).length (aA4 a f) (fU (bN a)++b) 0;have j:eV (bN a)++b=cB (bN a).length++(fU (bN a)++b):=by simp [eV,fU]
 rw [j,mF,i];simp only [zBi];have k:(cB (bN a).length++(fU (bN a)++b)).drop (cB (bN a).length).length=fU (bN a)++b:=List.drop_left;have e:=nR a;obtain ⟨o,g⟩:=aHS _ d.toNat 0 b (bN a) _ 257 [] k (aEU a l f) (by rw [e];simp;omega);rw [zBq] at g;rw [g,e,List.nil_append,rgo];by_cases c:b= []
 · subst c;rw [zBx (by simp),zBx rfl]
 · have:0 < b.length:=List.length_pos_iff.2 c;rw [zBw (by simp;omega),zBw c]
end
section
open Go.RowKit
theorem aJp (a:World):(sizeOf 5).run prog a=.ok 1 a:=by kernel_rfl
theorem sD (b a:Nat) (f:b<=144115188075855871) (e:a < 256):bits .or .u64 ((b:Int)*128) (IntKind.u64.wrap (bits .and .u8 (a:Int) 127))=((b*128+a % 128:Nat):Int):=by
 have c:bits .and .u8 (a:Int) 127=((a % 128:Nat):Int):=by have:=u8_and_nat a 127 e oM;rw [nat_mask7] at this;exact this
 have d:IntKind.u64.wrap ((a % 128:Nat):Int)=((a % 128:Nat):Int):=by rw [IntKind.wrap_u64];omega
 rw [c,d,show ((b:Int)*128)=((b*128:Nat):Int) by push_cast;rfl,u64_or_nat _ _ oM oM,nat_join 7 (b*128) (a % 128) oM oM]
theorem oH {b:Nat} {c d:Int} {a:Nat×Int×Int} (e:a=(b,c,d)):Ending.returned (.tuple #[.int .u64 (b:Int),.int .i64 c,.int .i64 d])=Ending.returned (.tuple #[uv a.1,iv a.2.1,iv a.2.2]):=by subst e;rfl
theorem aCC {c:Nat} {f b d e:Int} {a:Nat×Int×Int} (j:f=(c:Int)) (i:d=b) (g:a=(c,b,e)):Ending.returned (.tuple #[.int .u64 f,.int .i64 d,.int .i64 e])=Ending.returned (.tuple #[uv a.1,iv a.2.1,iv a.2.2]):=by subst g;subst j;subst i;rfl
theorem aJ8 (r:Option Addr) (g p:Nat) (d:List UInt8) (j:Int) (K:Nat) (B:World) (y:Rd B K 1 r g (d.map bv)) (V:g<=p) (R:p<=maxLen):
 Calls prog 104 #[.slice r g p,.int .i64 j] B fun O X=>O=.returned (.tuple #[uv (eG d j).1,iv (eG d j).2.1,iv (eG d j).2.2])/\B=X:=by
 unfold maxLen at R;have I:d.length=g:=by simpa using y.1
 obtain ⟨o,N⟩:=hqq2 I y;clear I y;by_cases x:j < 0
 · have m:eG d j=(0,j,2):=(by rw [eG,zBx (.inl x)]);have i:=lhd m;clear m;go_enter func104,ntmps104;go_wp2;go_ret3;exact ⟨oH i.out,rfl⟩
 by_cases F:(g:Int) < j
 · have m:eG d j=(0,j,2):=(by rw [eG,zBx (.inr (by rw [o.out];exact F))]);have i:=lhd m;clear m;go_enter func104,ntmps104;go_wp2;go_ret3;exact ⟨oH i.out,rfl⟩
 obtain ⟨a,rfl⟩:=Int.eq_ofNat_of_zero_le (Int.not_lt.1 x);have H:a<=g:=oM;have m:eG d (a:Int)=match eH (d.drop a) true 0 a with | some (A,W)=>(A,(W:Int),0)| none=>(0,(a:Int),4):=by rw [eG,zBw (by rw [o.out];omega)];rfl
 have i:=lhd m;have w:=N.out.cut (k:=a) (cap:=p) H V;have hcut:=pZ (P:=prog) 26 5 1 underlying26 aJp r g p a H;generalize eZ r p a 1=A' at w hcut;have L:=lhd w;have a0:decide ((a:Int) < 0)=false:=by simp
 have a1:decide (g < a)=false:=by simp;omega
 clear m x w F;go_enter func104,ntmps104;go_wp2
 go_loop [7,23] (fun A z=>∃c f:Nat,c<=g - a/\z=.int .i64 c/\A=.int .u64 f/\eH (d.drop (a+c)) (c==0) f (a+c)=eH (d.drop a) true 0 a) (fun _ z=>g -(intOf z).toNat)
 case atStart=>exact ⟨0,0,zAp _,rfl,rfl,rfl⟩
 case round=>
  obtain ⟨c,f,a2,rfl,rfl,E⟩:=hrel;have l:=lhd E;clear E;by_cases U:c < g - a
  · obtain ⟨C,a3,a4,rfl,Z,J,Q⟩:=L.out.get U;have q:∃e,d[a+c]?=some e:=⟨d[a+c]'(by have:=o.out;omega),zAa (by have:=o.out;omega)⟩;obtain ⟨e,q⟩:=q;simp only [zBl,zBt,zAf,q,Option.map_some,Option.some.injEq] at J;subst J;unfold bv at Q;have D:d.drop (a+c)=e::d.drop (a+c+1):=(by have T:a+c < d.length:=(by have:=o.out;omega);rw [zAx T];have:d[a+c]=e:=(zAc.1 q).2;rw [this]);have t:e.toNat < 256:=e.toNat_lt;rw [D,mG] at l;clear q D;go_wp2
    · have Y:(e.toNat:Int)=128:=(by assumption);have n:c=0:=(by assumption);go_ret3;refine ⟨oH ?_,rfl⟩;rw [i.out,<-l.out,zBx (by simp;left;omega)]
    · have n:c=0:=(by assumption);have s:((e.toNat:Int)==128)=true∨(144115188075855871:Int) < (f:Int):=(by assumption);go_ret3;refine ⟨oH ?_,rfl⟩;rw [i.out,<-l.out,zBx (by simp at s⊢;omega)]
    · have n:c=0:=(by assumption);have s:¬(e.toNat:Int)=128:=(by assumption);have u:((e.toNat:Int)==128)=false/\(f:Int)<=144115188075855871:=(by assumption);have v:(e.toNat:Int) < 128:=(by assumption);subst n;go_ret3;refine ⟨aCC (sD f _ oM t) ?_ (b:=((a+0+1:Nat):Int)) ?_,rfl⟩;push_cast;rfl
      · rw [i.out,<-l.out,zBw (by simp;omega),zBx oM]
    have n:c=0:=(by assumption);have s:¬(e.toNat:Int)=128:=(by assumption);have u:((e.toNat:Int)==128)=false/\(f:Int)<=144115188075855871:=(by assumption);have v:(128:Int)<=(e.toNat:Int):=(by assumption);subst n;refine ⟨⟨0+1,f*128+e.toNat % 128,by omega,rfl,jU (sD f _ oM t),?_⟩,by simp [intOf];omega⟩;rw [<-l.out,zBw (by simp;omega),zBw oM];rfl
    · have n:¬c=0:=(by assumption);have s:(144115188075855871:Int) < (f:Int):=(by assumption);go_ret3;refine ⟨oH ?_,rfl⟩;rw [i.out,<-l.out,zBx (by simp;omega)]
    · have n:¬c=0:=(by assumption);have u:(f:Int)<=144115188075855871:=(by assumption);have v:(e.toNat:Int) < 128:=(by assumption);go_ret3;refine ⟨aCC (sD f _ oM t) ?_ (b:=((a+c+1:Nat):Int)) ?_,rfl⟩;push_cast;rfl
      · rw [i.out,<-l.out,zBw (by simp;omega),zBx oM]
    · have n:¬c=0:=(by assumption);have u:(f:Int)<=144115188075855871:=(by assumption);have v:(128:Int)<=(e.toNat:Int):=(by assumption);refine ⟨⟨c+1,f*128+e.toNat % 128,by omega,by go_num,jU (sD f _ oM t),?_⟩,by simp [intOf];omega⟩;rw [<-l.out,zBw (by simp;omega),zBw oM];rfl
  · have G:c=g - a:=oM;have M:=lhd G;clear G;go_wp2;go_ret3;refine ⟨oH ?_,rfl⟩;have S:d.drop (a+c)= []:=List.drop_eq_nil_of_le (by rw [o.out];have:=M.out;omega);rw [i.out,<-l.out,S,eH]
theorem fA (d:Option Addr) (b a:Nat) (f:List UInt8) (e:Int) (g:Nat) (c:World) (k:Nat) (l j:Int) (n:eG f e=(k,l,j)) (r:Rd c g 1 d b (f.map bv)) (q:b<=a) (o:a<=maxLen):
 Calls prog 104 #[.slice d b a,.int .i64 e] c fun i m=>i=.returned (.tuple #[.int .u64 (k:Int),.int .i64 l,.int .i64 j])/\c=m:=
 (aJ8 d b a f e g c r q o).mono fun i m ⟨p,s⟩=>⟨by rw [p,n];rfl,s⟩
theorem aGC (c b a:Nat) (g:c < 256 ^ a) (m:b < 256) (l:a < 4):bits .or .u32 (c:Int) ((b:Int)*2 ^(8*a)% 4294967296)=((c+b*256 ^ a:Nat):Int):=by
 have d:(256:Nat)^ a=2 ^(8*a):=by rw [Nat.pow_mul]
 have e:b*256 ^ a < 4294967296:=by have k:b*256 ^ a<=255*256 ^ a:=Nat.mul_le_mul_right _ oM;have i:256 ^ a<=256 ^ 3:=zBp oM oM;omega
 have j:c < 4294967296:=by have i:256 ^ a<=256 ^ 3:=zBp oM oM;omega
 have f:((b:Int)*2 ^(8*a)% 4294967296)=((b*256 ^ a:Nat):Int):=by
  rw [d] at e⊢;have:(b:Int)*2 ^(8*a)=((b*2 ^(8*a):Nat):Int):=by push_cast;rfl
  rw [this];omega
 rw [f,u32_or_nat _ _ j e,Nat.or_comm,nat_join (8*a) (b*256 ^ a) c (by rw [d];exact Nat.mul_mod_left _ _) (by rw [<-d];exact g),zCs]
theorem aHc (c:Nat) (b:World):
 Calls prog 43 #[.int .u32 (c:Int)] b fun o n=>∃d,o=.returned d/\n.ownsRow b.heap.size 5 1 d 4 ((rW c).map bv)/\Below b.heap.size b n:=by
 obtain ⟨x,s,u,v,w⟩:=info_parts kL;go_enter func43,ntmps43;go_wp2;go_loopw [0,3,4] (fun y d g wr=>∃a:Nat,a<=4/\g=.int .i64 a/\y=.int .u32 ((c / 256 ^ a:Nat):Int)/\wr.ownsRow b.heap.size 5 1 d a ((aBo a c).map bv)/\Below b.heap.size b wr) (fun _ _ g _=>4 -(intOf g).toNat)
 case atStart=>exact ⟨0,zAp _,rfl,by simp,World.ownsRow_nil _ _ _ _,Below.refl _ _⟩
 case round=>
  obtain ⟨a,A,rfl,rfl,f,e⟩:=hrel;have j:=e.size;by_cases B:a < 4
  · generalize k:c / 256 ^ a=m;have i:=lhd k;clear k;go_wp2_with (at_builtin;refine bF _ rfl (.tmp 6) (.tmp 9) _ rfl b.heap.size 5 x (.int .u8 0) 1 1 underlying26 s u v w rfl dC u3 a _ rfl f rfl rfl (by simp [Value.oneCell']) (by unfold maxLen;omega) oM j ?_;intro D E l r C z);have q:=aX e f r j;refine ⟨⟨a+1,by omega,by go_num,jU ?_,?_,q⟩,by simp [intOf];omega⟩;rw [Nat.pow_succ,<-Nat.div_div_eq_div_mul,i.out];push_cast;rfl;have t:Value.int .u8 ((m:Int)% 256)=bv (UInt8.ofNat (m % 256)):=(by unfold bv;congr 1;simp [UInt8.toNat_ofNat']);rw [t] at l;rw [aBo,i.out];simpa using l
  · have p:a=4:=oM;subst p;go_wp2;go_ret;exact ⟨u3,rfl,f,e⟩
theorem aAS (d:Nat) (a:World):
 Calls prog 43 #[.int .u32 (d:Int)] a fun f e=>∃b c,f=.returned (.slice b 4 c)/\Made e a.heap.size 5 1 b 4 c ((rW d).map bv)/\Below a.heap.size a e:=by
 refine (aHc d a).mono fun f e ⟨l,i,k,g⟩=>?_;obtain ⟨b,c,rfl,j⟩:=aU k;exact ⟨b,c,i,j,g⟩
theorem aA7 {b:Nat} {d c:Int} {a:Nat×Int} (f:d=(b:Int)) (e:a=(b,c)):Ending.returned (.tuple #[.int .u32 d,.int .i64 c])=Ending.returned (.tuple #[.int .u32 (a.1:Int),iv a.2]):=by subst e;subst f;rfl
theorem aKX (q:Option Addr) (f A:Nat) (b:List UInt8) (e:Int) (w:Nat) (p:World) (n:Rd p w 1 q f (b.map bv)) (E:f<=maxLen):
 Calls prog 45 #[.slice q f A,.int .i64 e] p fun B J=>B=.returned (.tuple #[.int .u32 ((ofB b e).1:Int),iv (ofB b e).2])/\p=J:=by
 unfold maxLen at E;have s:b.length=f:=by simpa using n.1
 obtain ⟨i,y⟩:=hqq2 s n;clear s n;by_cases m:e < 0
 · have d:ofB b e=(0,2):=(by rw [ofB,zBx (.inl m)]);have g:=lhd d;clear d;go_enter func45,ntmps45;go_wp2;go_ret2;exact ⟨aA7 rfl g.out,rfl⟩
 by_cases r:(f:Int) < e
 · have d:ofB b e=(0,2):=(by rw [ofB,zBx (.inr (by rw [i.out];exact r))]);have g:=lhd d;clear d;go_enter func45,ntmps45;go_wp2;go_ret2;exact ⟨aA7 rfl g.out,rfl⟩
 by_cases G:(f:Int) - e < 4
 · have d:ofB b e=(0,4):=(by rw [ofB,zBw (by rw [i.out];omega),zBx (by rw [i.out];omega)]);have g:=lhd d;clear d;go_enter func45,ntmps45;go_wp2;go_ret2;exact ⟨aA7 rfl g.out,rfl⟩
 obtain ⟨c,rfl⟩:=Int.eq_ofNat_of_zero_le (Int.not_lt.1 m);have d:ofB b (c:Int)=(ofN b c 4,0):=by rw [ofB,zBw (by rw [i.out];omega),zBw (by rw [i.out];omega)];rfl
 have g:=lhd d;have L:c+4<=f:=oM;have N:decide ((c:Int) < 0)=false:=by simp
 have O:decide (f < c)=false:=by simp;omega
 have P:decide ((f:Int) -(c:Int) < 4)=false:=by simp;omega
 clear d m r G;go_enter func45,ntmps45;go_wp2
 go_loop [6,23] (fun I o=>∃a:Nat,a<=4/\o=.int .i64 a/\I=.int .u32 (ofN b c a:Int)) (fun _ o=>4 -(intOf o).toNat)
 case atStart=>exact ⟨0,zAp _,rfl,rfl⟩
 case round=>
  obtain ⟨a,Q,rfl,rfl⟩:=hrel;by_cases F:a < 4
  · obtain ⟨K,R,S,rfl,M,v,D⟩:=y.out.get (k:=c+a) oM;have l:∃j,b[c+a]?=some j:=⟨b[c+a]'(by have:=i.out;omega),zAa (by have:=i.out;omega)⟩;obtain ⟨j,l⟩:=l;simp only [zAf,l,Option.map_some,Option.some.injEq] at v;subst v;unfold bv at D;have u:ofN b c (a+1)=ofN b c a+j.toNat*256 ^ a:=(by rw [ofN,l];rfl);have t:=aKy b c a;obtain ⟨z,x⟩:=hqq2 u t;generalize ofN b c a=acc at*
    have H:j.toNat < 256:=j.toNat_lt;clear l u t;go_wp2;refine ⟨⟨a+1,by omega,by go_num,jU ?_⟩,by simp [intOf];omega⟩;rw [z.out];exact aGC acc j.toNat a x.out H F
  · have C:a=4:=oM;subst C;go_wp2;go_ret2;exact ⟨aA7 rfl g.out,rfl⟩
theorem aKg (c:Option Addr) (a g:Nat) (e:List UInt8) (d:Int) (f:Nat) (b:World) (k:Nat) (j:Int) (m:ofB e d=(k,j)) (p:Rd b f 1 c a (e.map bv)) (n:a<=maxLen):
 Calls prog 45 #[.slice c a g,.int .i64 d] b fun i l=>i=.returned (.tuple #[.int .u32 (k:Int),.int .i64 j])/\b=l:=
 (aKX c a g e d f b p n).mono fun i l ⟨o,q⟩=>⟨by rw [o,m];rfl,q⟩
def kH (a:Int×Nat):List Value:= [iv a.1,iv (a.2:Int)]
def cF (a:List (Int×Nat)):List Value:=a.flatMap kH
theorem rE (a:List (Int×Nat)):(cF a).length=a.length*2:=by
 induction a with
 | nil=>rfl
 | cons b a d=>
   have c:cF (b::a)=kH b++cF a:=(by simp [cF]);rw [c,zAi,d,zCg];simp [kH];omega
theorem iY (a b:List (Int×Nat)):cF (a++b)=cF a++cF b:=by simp [cF,List.flatMap_append]
theorem jE (b:List (Int×Nat)) (a d:Nat) (g:Int×Nat) (c:b[a]?=some g) (k:d < 2):(cF b)[a*2+d]?=(kH g)[d]?:=by
 induction b generalizing a with
 | nil=>simp at c
 | cons e b j=>
   have f:cF (e::b)=kH e++cF b:=(by simp [cF]);have i:(kH e).length=2:=rfl;rcases a with _ | a
   · simp at c;subst c;rw [f,Nat.zero_mul,zBi,zAn oM]
   simp only [zCf] at c;rw [f,zAo oM,i,show (a+1)*2+d - 2=a*2+d by omega];exact j a c
theorem aHM:(prog.info? 139).map (fun a=>(a.zero,a.size,a.bytes))=some (some (.agg #[.int .i64 0,.int .i64 0]),2,16):=by kernel_rfl
theorem aKW (J:Option Addr) (j a0 K:Nat) (e:List Int) (g:World) (F:Rd g K 1 J j (e.map iv)) (a9:K<=g.heap.size) (az:j<=1099511627776):
 Calls prog 97 #[.slice J j a0] g fun a2 X=>∃w,a2=.returned w/\X.ownsRow g.heap.size 139 2 w (bN e).length (cF (bN e))/\Below g.heap.size g X:=by
 obtain ⟨W,L,T,U,V⟩:=info_parts aHM;have O:e.length=j:=by simpa using F.1
 obtain ⟨x,Z⟩:=hqq2 O (F.mono a9);clear F O;go_enter func97,ntmps97;go_wp2;go_loopw [3,9] (fun w I wr=>∃c:Nat,c<=j/\I=.int .i64 c/\wr.ownsRow g.heap.size 139 2 w (bN (e.take c)).length (cF (bN (e.take c)))/\Below g.heap.size g wr) (fun _ I _=>j -(intOf I).toNat)
 case atStart=>exact ⟨0,zAp _,rfl,World.ownsRow_nil _ _ _ _,Below.refl _ _⟩
 case round=>
  obtain ⟨c,ay,rfl,f,n⟩:=hrel;have v:=n.size;by_cases af:c < j
  · obtain ⟨m,G⟩:∃m,e[c]?=some m:=⟨e[c]'(by have:=x.out;omega),zAa (by have:=x.out;omega)⟩;obtain ⟨an,aD,aE,rfl,au,H,aa⟩:=(Z.out.below n).get af;rw [zAf,G] at H;simp at H;subst H;unfold iv at aa;have P:=aCo e c m G;have N:=lT (e.take c);rw [zAj] at N;have D:∀b∈bN (e.take c),b.2<=j:=fun b aj=>by have:=pY _ b aj;rw [zAj] at this;omega
    generalize bN (e.take c)=r at*
    have y:=lhd P;clear P G;rcases List.eq_nil_or_concat r with rfl |⟨k,⟨b,d⟩,rfl⟩
    · obtain ⟨Y,a1,rfl,ag⟩:=aU f;have ae:([]:List (Int×Nat)).length=0:=rfl;rw [ae] at*
      clear ag D;go_wp2_with (at_builtin;refine bF _ rfl (.tmp 36) (.tmp 39) _ rfl g.heap.size 139 W _ 2 16 underlying136 L T U V rfl dC (.slice Y 0 a1) 0 _ rfl f rfl rfl (by simp [Value.oneCell']) (by unfold maxLen;omega) oM v ?_;intro al am E q ah B);have C:=aX n f q v;clear q B;go_roundw
      case rel=>refine ⟨c+1,by omega,by go_num,?_,C⟩;rw [y.out,aCq];exact E
      case measure=>simp [intOf];omega
    · rw [List.concat_eq_append] at*
      obtain ⟨a,s⟩:=eqx k.length;have M:(k++ [(b,d)]).length=a+1:=(by simp [s]);rw [M] at f N;obtain ⟨i,l,u,rfl,ab,ac,aB,av,_⟩:∃i l u,u3=.slice (some ⟨i,0,none⟩) (a+1) l/\g.heap.size<=i/\wr.heap[i]?=some (.cells u 139 (0,0))/\a+1<=l/\l<=maxLen/\True:=(by rcases f.2 with ⟨_,ar⟩|⟨i,l,u,a4,a5,a6,a7,a8,_⟩;omega;exact ⟨i,l,u,a4,a5,a6,a7,a8,trivial⟩);have R:(cF (k++ [(b,d)]))[a*2]?=some (iv b):=(by have:=jE (k++ [(b,d)]) a 0 (b,d) (by rw [zAo oM,s];simp) oM;simpa [kH] using this);have S:(cF (k++ [(b,d)]))[a*2+1]?=some (iv d):=(by have:=jE (k++ [(b,d)]) a 1 (b,d) (by rw [zAo oM,s];simp) oM;simpa [kH] using this);have ap:wr.cell? ⟨i,a*2,none⟩=some (.int .i64 b):=(f.cellAt (a*2) oM).trans R;have aq:wr.cell? ⟨i,a*2+1,none⟩=some (.int .i64 (d:Int)):=(f.cellAt (a*2+1) oM).trans S;have ao:=f.frozenAt (a*2+1);have aA:(d:Int)<=1099511627776:=(by have:=D (b,d) (by simp);simp only at this;omega);have aC:((a+1:Nat):Int) - 1=(a:Int):=oM;have t:=lhd s;clear R S s M ac D;by_cases o:b=m
      · have ak:(b==m)=true:=(by rw [zCq];exact o);have z:=lhd o;clear o;go_wp2;obtain ⟨ai,ax⟩:=f.stored (a*2+1) (.int .i64 ((d:Int)+1));refine ⟨⟨c+1,by omega,by go_num,?_,n.setCell (p:=⟨i,a*2+1,none⟩) ab _⟩,by simp [intOf];omega⟩;rw [y.out,<-z.out,gN];have A:(k++ [(b,d+1)]).length=a+1:=(by simp [t.out]);have a3:(cF (k++ [(b,d)])).set (a*2+1) (.int .i64 ((d:Int)+1))=cF (k++ [(b,d+1)]):=(by rw [iY,iY,List.set_append_right _ _ (by rw [rE,t.out];omega),rE,t.out];congr 1;rw [show a*2+1 - a*2=1 by omega];rfl);rw [A,<-a3];exact ai
      · have ak:(b==m)=false:=(by rw [zCb];exact o);have z:=lhd o;clear o;go_wp2_with (at_builtin;refine bF _ rfl (.tmp 36) (.tmp 39) _ rfl g.heap.size 139 W _ 2 16 underlying136 L T U V rfl dC (.slice (some ⟨i,0,none⟩) (a+1) l) (a+1) _ rfl f rfl rfl (by simp [Value.oneCell']) (by unfold maxLen;omega) oM v ?_;intro al am E q ah B);have C:=aX n f q v;clear q B;go_roundw
        case rel=>refine ⟨c+1,by omega,by go_num,?_,C⟩;rw [y.out,fQ _ _ _ _ z.out,iY];have A:(k++ [(b,d)]++ [(m,1)]).length=a+1+1:=(by simp [t.out]);rw [A];exact E
        case measure=>simp [intOf];omega
  · have ad:c=j:=oM;have Q:e.take c=e:=zAg (by have:=x.out;omega);have aw:j<=c:=oM;rw [Q] at f;clear ad Q;go_wp2;go_ret;exact ⟨u3,rfl,f,n⟩
theorem aI5 (e:Option Addr) (d m f:Nat) (i:List Int) (a:World) (k:List (Int×Nat)) (j:Nat) (o:bN i=k) (s:k.length=j) (u:Rd a f 1 e d (i.map iv)) (p:f<=a.heap.size) (g:d<=1099511627776):
 Calls prog 97 #[.slice e d m] a fun n l=>∃b c,n=.returned (.slice b j c)/\Made l a.heap.size 139 2 b j c (cF k)/\Below a.heap.size a l:=by
 subst o;subst s;refine (aKW e d m f i a u p g).mono fun n l ⟨v,r,t,q⟩=>?_;obtain ⟨b,c,rfl,g⟩:=aU t;exact ⟨b,c,r,g,q⟩
end
section
theorem aA5:(prog.info? 3).map (fun a=>(a.zero,a.size,a.bytes))=some (some (.int .i64 0),1,8):=by kernel_rfl
theorem aF8 (b:List Int) (a:Int×Nat) (c:a∈bN b):a.1∈b:=by
 have e:=(aAu b).1 a c;have d:a.1∈eI (bN b):=List.mem_flatMap.2 ⟨a,c,List.mem_replicate.2 ⟨by omega,rfl⟩⟩;rwa [nR] at d
theorem aCh {b:List Nat} (c:∀a∈b,a < 257):∀a∈bN (jB b),jR a.1:=by
 intro a d;obtain ⟨f,e,g⟩:=zAy.1 (aF8 _ a d);have:=c f e;unfold jR;omega
theorem oD (a:List Nat):(jB a).length=a.length:=by simp [jB]
theorem aEE {a:List Nat} (b:∀c∈a,c < 257):rF (jB a)=some (fW a):=by
 unfold rF;rw [zBx (aCh b)];rfl
theorem qF (a:List Nat):(fW a).length<=11+22*a.length:=by
 unfold fW;have d:=tW (bN (jB a));have c:=lT (jB a);have e:=dH (bN (jB a)).length;rw [oD] at c;have b:eV (bN (jB a))=cB (bN (jB a)).length++(bN (jB a)).flatMap cO:=by simp [eV]
 rw [b,zAi];omega
def aA3 (c:List Nat) (b a:Nat):List UInt8:=(List.range a).flatMap fun a=>cB (c.idxOf (a*b))
theorem tA (c:List Nat) (b a:Nat):aA3 c b (a+1)=aA3 c b a++cB (c.idxOf (a*b)):=by
 unfold aA3;rw [List.range_succ,List.flatMap_append];simp
theorem rA (c:List Nat) (b a:Nat):(aA3 c b a).length<=11*a:=by
 induction a with
 | zero=>simp [aA3]
 | succ a d=>
   rw [tA,zAi];have:=dH (c.idxOf (a*b));omega
theorem uX (c:List Nat) (a b:Nat):vZ c a b=aA3 c a (b / a+1):=rfl
theorem aJv (c:List Nat) (b a:Nat):a<=(aA3 c b a).length:=by
 induction a with
 | zero=>simp
 | succ a d=>
   rw [tA,zAi];have:=aID (c.idxOf (a*b));omega
theorem aKC {c a b:Nat} (g:1<=a) (f:c<=b / a+1) (d:¬c*a<=b):c=b / a+1:=by
 have e:b / a < c:=(Nat.div_lt_iff_lt_mul oM).2 oM;omega
theorem aKz {c a b:Nat} (e:1<=a) (d:c*a<=b):c+1<=b / a+1:=by
 have:=(Nat.le_div_iff_mul_le oM).2 d;omega
end
section
open Go.RowKit
theorem aF2 (a:Int) (b:World) (d:jR a):Calls prog 98 #[.int .i64 a] b fun c e=>c=.returned (.bool true)/\b=e:=by
 obtain ⟨f,g⟩:=d;go_enter func98,ntmps98;go_wp2;go_ret;exact ⟨cK (by simp <;> omega),rfl⟩
theorem aHx (a:Int) (b:World) (d:¬jR a):Calls prog 98 #[.int .i64 a] b fun c g=>c=.returned (.bool false)/\b=g:=by
 have e:a < 0∨(0<=a/\257<=a):=by unfold jR at d;omega
 rcases e with f |⟨f,i⟩
 · go_enter func98,ntmps98;go_wp2;go_ret;exact ⟨cK (by simp <;> omega),rfl⟩
 · go_enter func98,ntmps98;go_wp2;go_ret;exact ⟨cK (by simp <;> omega),rfl⟩
def aJ6 (f g:World) (e:Option (List UInt8)) (d:Ending):Prop:=
 (∃a b c,e=some a/\d=.returned (.tuple #[.slice b a.length c,.int .i64 0])/\Made g f.heap.size 5 1 b a.length c (a.map bv))∨
 (e=none/\d=.returned (.tuple #[.slice none 0 0,.int .i64 1]))
theorem aE6 (N:Option Addr) (y au O:Nat) (k:List Int) (e:World) (I:Rd e O 1 N y (k.map iv)) (aC:O<=e.heap.size) (b8:y<=1000000):
 Calls prog 38 #[.slice N y au] e fun o ab=>aJ6 e ab (rF k) o/\Below e.heap.size e ab:=by
 obtain ⟨aW,aG,aR,aT,aV⟩:=info_parts kL;have aJ:k.length=y:=by simpa using I.1
 obtain ⟨b,s⟩:=eqx (bN k);obtain ⟨c,a2⟩:=eqx b.length;have b9:c<=1000000:=by have:=lT k;rw [s] at this;omega
 have T:∀d∈b,d.2<=1000000:=fun d f=>by have:=pY k d (by rw [s];exact f);omega
 have ag:=lhd T;have a5:rF k=if ∀d∈b,jR d.1 then some (eV b) else none:=by unfold rF;rw [s]
 obtain ⟨P,ar,n,ap⟩:=hqq4 a5 s a2 I;have b2:=Below.refl e.heap.size e;clear I aJ s a2 a5 T;go_enter func38,ntmps38;go_wp2_with fail;refine (aI5 _ _ _ _ k _ b c ar.out n.out ap.out aC oM).mono ?_;rintro o w1 ⟨z,B,rfl,X,E⟩;have aN:=E.size;have an:=lhd X.own;clear X;obtain ⟨k0,G⟩:=eqx ((cB c).length);have b6:k0<=11:=by rw [<-G];exact dH c
 have aj:=lhd G;clear G;go_wp2_with fail;refine (yR _ _ _ _ [c] _ (cB c) k0 (qG c) aj.out (Rd.made _ _ 1 1 _ rfl) nL (by simp;omega) oM).mono ?_;rintro o L ⟨ae,aw,rfl,Y,u⟩;have R:=(E.alloc aN _).trans (u.mono (by simp;omega));have bc:=R.size;have bb:w1.heap.size < L.heap.size:=by have:=u.size;simp at this;omega
 have aK:L.ownsRow e.heap.size 5 1 (.slice ae k0 aw) k0 ((cB c).map bv):=bZ Y.own (by simp;omega);have j:L.ownsRow e.heap.size 139 2 (.slice z c B) c (cF b):=aS (an.out.alloc _) u;clear Y u E;go_wp2_with fail;go_loopw [5,17] (fun aZ K wr=>∃a l:Nat,a<=c/\K=.int .i64 a/\wr.ownsRow e.heap.size 5 1 aZ l ((cB c++(b.take a).flatMap cO).map bv)/\wr.ownsRow e.heap.size 139 2 (.slice z c B) c (cF b)/\Below e.heap.size e wr/\∀d∈b.take a,jR d.1) (fun _ K _=>c -(intOf K).toNat)
 case atStart=>exact ⟨0,k0,zAp _,rfl,by simpa using aK,j,R,by simp⟩
 case round=>
  obtain ⟨a,l,b5,rfl,r,j,t,a4⟩:=hrel;have A:=lhd a4;have a8:=t.size;have ba:l<=22000011:=by have D:=r.1;have Q:=tW (b.take a);have aA:=dH c;rw [zAj] at Q;simp only [zBc,zAi] at D;omega
  clear a4;by_cases W:a < c
  · obtain ⟨d,f⟩:∃d,b[a]?=some d:=⟨b[a]'(by have:=n.out;omega),zAa (by have:=n.out;omega)⟩;obtain ⟨i,aB,b4⟩:∃i,z=some ⟨i,0,none⟩/\i < wr.heap.size:=(by obtain ⟨i,b1,aO,_,W⟩:=j.form oM;injection aO with D Q aA;exact ⟨i,D,W⟩);subst aB;have ay:wr.cell? ⟨i,a*2,none⟩=some (.int .i64 d.1):=(j.cellAt (a*2) oM).trans ((jE b a 0 d f oM).trans rfl);have az:wr.cell? ⟨i,a*2+1,none⟩=some (.int .i64 (d.2:Int)):=(j.cellAt (a*2+1) oM).trans ((jE b a 1 d f oM).trans rfl);have a3:=zE b a d f;have aP:=ag.out d (zAd f);have V:∀g∈b.take (a+1),g∈b.take a∨g=d:=(by intro g aa;have aH:a < b.length:=(zAc.1 f).1;rw [List.take_succ_eq_append_getElem aH,(zAc.1 f).2] at aa;simpa using aa);have a1:=zAd f;obtain ⟨aY,g⟩:=d;simp only at ay az aP;obtain ⟨am,ai,al⟩:=hqq3 a3 V a1;clear a3 f V a1;by_cases p:jR aY
    · obtain ⟨m,rfl⟩:=Int.eq_ofNat_of_zero_le p.1;have bd:(m:Int) < 257:=p.2;have q:=lhd p;clear p;obtain ⟨x,H⟩:=eqx ((cO ((m:Int),g)).length);have b7:x<=22:=(by rw [<-H];exact tT _);have ak:=lhd H;have U:dP [m,g]=cO ((m:Int),g):=(by simp [dP,cO]);have ah:=lhd U;clear H U;go_wp2_with (go_at_call 98;refine (aF2 _ _ q.out).mono ?_;rintro o b0 ⟨rfl,rfl⟩);refine (yR _ _ _ _ [m,g] _ (cO ((m:Int),g)) x ah.out ak.out (Rd.made' _ _ 1 2 _ _ rfl (by simp)) nL (by simp;omega) oM).mono ?_;rintro o M ⟨af,ax,rfl,a0,v⟩;have S:=((t.alloc a8 _).alloc (by simp;omega) _).trans (v.mono (by simp;omega));have a7:=S.size;have w:M.ownsRow e.heap.size 5 1 u5 l ((cB c++(b.take a).flatMap cO).map bv):=aS ((r.alloc _).alloc _) v;have J:M.ownsRow e.heap.size 139 2 (.slice (some ⟨i,0,none⟩) c B) c (cF b):=aS ((j.alloc _).alloc _) v;have aq:=lhd a0.rd;have ao:=lhd (mB (cO ((m:Int),g)));clear a0 v r j;go_wp2_with (at_builtin;refine bY _ rfl (.tmp 25) (.tmp 33) _ rfl e.heap.size 5 aW (.int .u8 0) 1 1 underlying26 aG aR aT aV rfl dC u5 l _ rfl w M.heap.size af x ax _ rfl aq.out ao.out (by unfold maxLen;omega) oM a7 ?_;intro be bf aL F aF);have aD:=aX S w F a7;have aM:=J.kept F (aEr J w dC);clear F aF J w;go_roundw
      case rel=>refine ⟨a+1,l+x,by omega,by go_num,?_,aM,aD,?_⟩;rw [am.out,<-zCo,zAz];exact aL;intro ac aQ;rcases ai.out ac aQ with C | C;exact A.out ac C;rw [C];exact q.out
      case measure=>simp [intOf];omega
    · have q:=lhd p;clear p;go_wp2_with (go_at_call 98;refine (aHx _ _ q.out).mono ?_;rintro o b0 ⟨rfl,rfl⟩);go_ret2;refine ⟨.inr ⟨?_,rfl⟩,t.alloc a8 _⟩;rw [P.out,zBw];intro aE;exact q.out (aE _ al.out)
  · have aI:a=c:=oM;have b3:c<=a:=oM;have a9:b.take a=b:=zAg (by have:=n.out;omega);rw [a9] at r A;clear aI a9 j;obtain ⟨ad,av,rfl,Z⟩:=aU r;go_wp2;go_ret2;have a6:(eV b).length=l:=(by have:=Z.len;rw [zBc] at this;rw [<-this,eV,n.out]);refine ⟨.inl ⟨eV b,ad,av,?_,?_,?_⟩,t⟩
    · rw [P.out,zBx A.out]
    rw [a6];rfl;rw [a6,eV,n.out];exact Z
def aB5 (e f:World) (a:List Int×Int) (d:Ending):Prop:=
 ∃b c,d=.returned (.tuple #[.slice b a.1.length c,.int .i64 a.2])/\Made f e.heap.size 3 1 b a.1.length c (a.1.map iv)
theorem gI {d e:World} {b:List Int×Int} {a:Int} (c:([],a)=b):aB5 d e b (.returned (.tuple #[.slice none 0 0,.int .i64 a])):=by
 subst c;exact ⟨none,0,rfl,⟨World.ownsRow_nil _ _ _ _,Rd.nil _ _ _ _,zAs _,zAp _⟩⟩
theorem uI (a0:Option Addr) (s S:Nat) (e:List UInt8) (Q:Int) (k:World) (E:TypeInfo) (az:prog.info? 3=some E) (aE:E.zero=some (.int .i64 0)) (aF:E.size=1) (aG:E.bytes=8)
 (B:Hid (e.length=s)) (a4:Hid (Rd k k.heap.size 1 a0 s (e.map bv))) (ap:Below k.heap.size k k) (j:s<=S) (i:S<=maxLen) (t:List Int×Int) (R F:Nat) (ar:F<=s)
 (aj:Hid (eG e 0=(R,(F:Int),0))) (am:Hid (R < 18446744073709551616)) (f:Nat) (ak:Hid (rgo e f R F 257 []=t)) (aT:f<=1099511627776) (a8:Q=(f:Int)∨(Q < 0/\f<=0)):
 Calls prog 48 #[.slice a0 s S,.int .i64 Q] k fun a ah=>aB5 k ah t a/\Below k.heap.size k ah:=by
 have a2:=lhd a8;clear a8;go_enter func48,ntmps48;go_wp2_with (go_at_call 104;refine (fA _ _ _ _ _ _ _ _ _ _ aj.out a4.out j i).mono ?_;rintro a n ⟨rfl,rfl⟩);go_loopw [6,7,9,10] (fun Z aI Y aJ wr=>∃(q o r:Nat) (m:List Int),Z=.int .u64 (q:Int)/\aI=.int .i64 (o:Int)/\aJ=.int .u64 (r:Int)/\wr.ownsRow k.heap.size 3 1 Y m.length (m.map iv)/\m.length<=f/\o<=s/\q < 18446744073709551616/\rgo e f q o r m=t/\Below k.heap.size k wr) (fun Z _ _ _ _=>(intOf Z).toNat)
 case atStart=>exact ⟨R,F,257, [],rfl,rfl,rfl,World.ownsRow_nil _ _ _ _,zAp _,ar,am.out,ak.out,ap⟩
 case round=>
  obtain ⟨q,o,r,m,rfl,rfl,rfl,C,au,aq,ac,a9,p⟩:=hrel;obtain ⟨x,al⟩:=hqq2 a9 ac;have aW:=p.size;have ad:=a4.out.below p;have l:=lhd ad;clear a9 ac ad;rcases q with _ | q
  · have aP:((0:Nat):Int)=0:=rfl;by_cases K:o=s
    · have c:(m,0)=t:=(by rw [<-x.out,rgo,zBx (by rw [B.out];exact K)]);have g:=lhd c;have W:((o:Int)==(s:Int))=true:=(by rw [zCq];omega);obtain ⟨a1,a7,rfl,V⟩:=aU C;clear K c C;go_wp2;go_ret2;refine ⟨?_,p⟩;rw [<-g.out];exact ⟨a1,a7,rfl,V⟩
    · have c:([],4)=t:=(by rw [<-x.out,rgo,zBw (by rw [B.out];exact K)]);have g:=lhd c;have W:((o:Int)==(s:Int))=false:=(by rw [zCb];omega);clear K c;go_wp2;go_ret2;exact ⟨gI g.out,p⟩
  · have D:o<=e.length:=(by rw [B.out];exact aq);rcases h1:eH (e.drop o) true 0 o with _ |⟨b,A⟩
    · have c:([],4)=t:=(by rw [<-x.out,aCB _ _ _ _ _ _ (aCt _ _ h1)]);obtain ⟨g,v⟩:=hqq2 c (qE e o D h1);clear c D h1;go_wp2_with (go_at_call 104;refine (fA _ _ _ _ _ _ _ _ _ _ v.out l.out j i).mono ?_;rintro a n ⟨rfl,rfl⟩);go_ret2;exact ⟨gI g.out,p⟩
    · have M:=xE _ _ _ _ _ _ h1;have y:=qD e o b A D h1;have aD:A<=s:=(by rw [zAw,B.out] at M;omega);have P:A<=e.length:=(by rw [B.out];exact aD);obtain ⟨v,aL⟩:=hqq2 y M.2.2;rcases h2:eH (e.drop A) true 0 A with _ |⟨d,a⟩
      · have c:([],4)=t:=(by rw [<-x.out,aCB _ _ _ _ _ _ (aCs _ _ _ _ h1 h2)]);obtain ⟨g,w⟩:=hqq2 c (qE e A P h2);clear c D h1 h2 y M P;go_wp2_with fail;refine (fA _ _ _ _ _ _ _ _ _ _ v.out l.out j i).mono ?_;rintro a n ⟨rfl,rfl⟩;go_wp2_with fail;refine (fA _ _ _ _ _ _ _ _ _ _ w.out l.out j i).mono ?_;rintro a n ⟨rfl,rfl⟩;go_wp2;go_ret2;exact ⟨gI g.out,p⟩
      · have U:=xE _ _ _ _ _ _ h2;have H:=qD e A d a P h2;have ax:a<=s:=(by rw [zAw,B.out] at U;omega);have w:=lhd H;have ae:rgo e f (q+1) o r m=if 257<=b∨b=r∨d=0 then ([],4) else if f - m.length < d then ([],3) else rgo e f q a b (m++List.replicate d (b:Int)):=aCA _ _ _ _ _ _ _ _ _ (wI _ _ _ _ _ _ h1 h2);obtain ⟨a5,aK⟩:=hqq2 ae U.2.2;clear D h1 h2 y M P H U ae;by_cases I:257<=b∨b=r∨d=0
        · have c:([],4)=t:=(by rw [<-x.out,a5.out,zBx I]);have g:=lhd c;have aw:257<=b∨(b < 257/\b=r)∨(b < 257/\b≠r/\d=0):=oM;clear c I;rcases aw with G |⟨G,T⟩|⟨G,T,ao⟩
          · go_wp2_with fail;refine (fA _ _ _ _ _ _ _ _ _ _ v.out l.out j i).mono ?_;rintro a n ⟨rfl,rfl⟩;go_wp2_with fail;refine (fA _ _ _ _ _ _ _ _ _ _ w.out l.out j i).mono ?_;rintro a n ⟨rfl,rfl⟩;go_wp2;go_ret2;exact ⟨gI g.out,p⟩
          · subst T;go_wp2_with fail;refine (fA _ _ _ _ _ _ _ _ _ _ v.out l.out j i).mono ?_;rintro a n ⟨rfl,rfl⟩;go_wp2_with fail;refine (fA _ _ _ _ _ _ _ _ _ _ w.out l.out j i).mono ?_;rintro a n ⟨rfl,rfl⟩;go_wp2;go_ret2;exact ⟨gI g.out,p⟩
          · subst ao;have W:((b:Int)==(r:Int))=false:=(by rw [zCb];omega);clear T;go_wp2_with fail;refine (fA _ _ _ _ _ _ _ _ _ _ v.out l.out j i).mono ?_;rintro a n ⟨rfl,rfl⟩;go_wp2_with fail;refine (fA _ _ _ _ _ _ _ _ _ _ w.out l.out j i).mono ?_;rintro a n ⟨rfl,rfl⟩;go_wp2;go_ret2;exact ⟨gI g.out,p⟩
        · have aM:b < 257:=oM;have aS:0 < d:=oM;have aY:((d:Int)==0)=false:=(by rw [zCb];omega);have aZ:decide ((257:Int)<=(b:Int))=false:=(by simp;omega);have W:((b:Int)==(r:Int))=false:=(by rw [zCb];omega);obtain ⟨z,O⟩:=eqx m.length;have af:rgo e f (q+1) o r m=if f - z < d then ([],3) else rgo e f q a b (m++List.replicate d (b:Int)):=(by rw [a5.out,zBw I,O]);obtain ⟨a6,a3⟩:=hqq2 af O;rw [O] at C au;obtain ⟨a1,a7,rfl,V⟩:=aU C;have an:=lhd C;have aB:=al.out;have aA:∃aH:Int,aH=(f:Int) -(z:Int):=⟨_,rfl⟩;clear I af O V C aA;by_cases L:f - z < d
          · have c:([],3)=t:=(by rw [<-x.out,a6.out,zBx L]);have g:=lhd c;have ay:(f:Int) -(z:Int) < (d:Int):=oM;clear c L aB;rcases a2.out with J |⟨J,aN⟩
            · subst J;go_wp2_with fail;refine (fA _ _ _ _ _ _ _ _ _ _ v.out l.out j i).mono ?_;rintro a n ⟨rfl,rfl⟩;go_wp2_with fail;refine (fA _ _ _ _ _ _ _ _ _ _ w.out l.out j i).mono ?_;rintro a n ⟨rfl,rfl⟩;go_wp2;go_ret2;exact ⟨gI g.out,p⟩
            · go_wp2_with fail;refine (fA _ _ _ _ _ _ _ _ _ _ v.out l.out j i).mono ?_;rintro a n ⟨rfl,rfl⟩;go_wp2_with fail;refine (fA _ _ _ _ _ _ _ _ _ _ w.out l.out j i).mono ?_;rintro a n ⟨rfl,rfl⟩;go_wp2;go_ret2;exact ⟨gI g.out,p⟩
          · have c:rgo e f q a b (m++List.replicate d (b:Int))=t:=(by rw [<-x.out,a6.out,zBw L]);have g:=lhd c;have ay:(d:Int)<=(f:Int) -(z:Int):=oM;have J:Q=(f:Int):=(by rcases a2.out with G |⟨_,G⟩<;> omega);subst J;clear c L;go_wp2_with fail;refine (fA _ _ _ _ _ _ _ _ _ _ v.out l.out j i).mono ?_;rintro a n ⟨rfl,rfl⟩;go_wp2_with fail;refine (fA _ _ _ _ _ _ _ _ _ _ w.out l.out j i).mono ?_;rintro a n ⟨rfl,rfl⟩;go_wp2;go_loopw [9,73] (fun Y X ai=>∃u:Nat,u<=d/\X=.int .u64 (u:Int)/\ai.ownsRow k.heap.size 3 1 Y (z+u) ((m++List.replicate u (b:Int)).map iv)/\Below k.heap.size k ai) (fun _ X _=>d -(intOf X).toNat)
            case atStart=>exact ⟨0,zAp _,rfl,by simpa using an.out,p⟩
            case round=>
             obtain ⟨u,aQ,rfl,N,y⟩:=hrel;have ag:=y.size;by_cases aR:u < d
             · go_wp2_with (at_builtin;refine bF _ rfl (.tmp 75) (.tmp 78) _ rfl k.heap.size 3 E (.int .i64 0) 1 8 underlying22 az aE aF aG rfl dC u9 (z+u) _ rfl N rfl rfl (by simp [Value.oneCell']) (by unfold maxLen;omega) oM ag ?_;intro b0 b1 aC aa aV av);have H:=aX y N aa ag;clear aa av;go_roundw
               case rel=>refine ⟨u+1,by omega,by go_num,?_,H⟩;rw [List.replicate_succ',<-zCo,zAz];exact aC
               case measure=>simp [intOf];omega
             · have ab:u=d:=oM;have aO:d<=u:=oM;rw [ab] at N;clear ab;go_wp2;refine ⟨⟨q,a,b,m++List.replicate d (b:Int),jU oM,rfl,rfl,?_,?_,ax,by omega,g.out,y⟩,by simp [intOf]⟩;rw [zAi,zCn,a3.out];exact N;rw [zAi,zCn,a3.out];omega
theorem aE7 (n:Option Addr) (e i x:Nat) (a:List UInt8) (b:Int) (c:World) (q:Rd c x 1 n e (a.map bv)) (L:x<=c.heap.size) (w:e<=i) (u:i<=maxLen) (N:b<=1099511627776) (O:-9223372036854775808<=b):
 Calls prog 48 #[.slice n e i,.int .i64 b] c fun A K=>aB5 c K (mF a b) A/\Below c.heap.size c K:=by
 obtain ⟨J,C,G,H,I⟩:=info_parts aA5;have v:a.length=e:=by simpa using q.1
 obtain ⟨y,r⟩:=hqq2 v (q.mono L);have s:=Below.refl c.heap.size c;obtain ⟨p,l⟩:=eqx (mF a b);rw [l];rcases hfirst:eH a true 0 0 with _ |⟨m,f⟩
 · have j:eG a 0=(0,0,4):=qE a 0 (zAp _) (by simpa using hfirst);have k:([],4)=p:=(by rw [<-l,mF,hfirst]);obtain ⟨o,g⟩:=hqq2 j k;clear q v l j k hfirst;go_enter func48,ntmps48;go_wp2_with (go_at_call 104;refine (fA _ _ _ _ _ _ _ _ _ _ o.out r.out w u).mono ?_;rintro A R ⟨rfl,rfl⟩)
   go_loop [6] (fun Q=>Q=.int .u64 0) (fun _=>0)
   case atStart=>rfl
   case round=>subst hrel;go_wp2;go_ret2;exact ⟨gI g.out,s⟩
 have D:=xE _ _ _ _ _ _ hfirst;have j:eG a 0=(m,(f:Int),0):=qD a 0 m f (zAp _) (by simpa using hfirst);have k:rgo a b.toNat m f 257 []=p:=(by rw [<-l,mF,hfirst]);have B:f<=e:=oM;obtain ⟨o,g,z⟩:=hqq3 j k D.2.2;obtain ⟨d,F⟩:∃d:Nat,b.toNat=d:=⟨_,rfl⟩;rw [F] at g;have E:d<=1099511627776:=oM;have t:b=(d:Int)∨(b < 0/\d<=0):=oM;clear q v l j k hfirst D F N O;rcases t with t |⟨P,M⟩;subst t;exact uI n e i a (d:Int) c J C G H I y r s w u p m f B o z d g E (.inl rfl);exact uI n e i a b c J C G H I y r s w u p m f B o z d g E (.inr ⟨P,M⟩)
theorem aG3 (g:Option Addr) (f d i:Nat) (j:List UInt8) (b:Int) (a:World) (k:List Int) (l:Nat) (q:Int) (r:mF j b=(k,q)) (y:k.length=l) (z:Rd a i 1 g f (j.map bv)) (s:i<=a.heap.size) (v:f<=d) (u:d<=maxLen) (w:b<=1099511627776) (x:-9223372036854775808<=b):
 Calls prog 48 #[.slice g f d,.int .i64 b] a fun n m=>∃c e,n=.returned (.tuple #[.slice c l e,.int .i64 q])/\Made m a.heap.size 3 1 c l e (k.map iv)/\Below a.heap.size a m:=by
 subst y;refine (aE7 g f d i j b a z s v u w x).mono fun n m ⟨⟨c,e,o,p⟩,t⟩=>?_;rw [r] at o p;exact ⟨c,e,o,p,t⟩
end
end Go.Proofs.YthldmddkfbijhaaGreatDoor
