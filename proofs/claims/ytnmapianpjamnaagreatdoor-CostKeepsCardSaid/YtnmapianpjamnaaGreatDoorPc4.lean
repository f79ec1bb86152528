/- Lemmas of the walk. Conditions: each its own. -/
import Derived.Test.YtnmapianpjamnaaGreatDoorPc1
import Derived.Test.YtnmapianpjamnaaGreatDoorPc2
import Derived.Test.YtnmapianpjamnaaGreatDoorProg
import Derived.Test.YtnmapianpjamnaaGreatDoorSht
import Derived.Test.YtnmapianpjamnaaGreatDoorRows
import Derived.Test.YtnmapianpjamnaaGreatDoorShl
set_option linter.all false
set_option maxRecDepth 100000
set_option maxHeartbeats 2000000
open Go.Proofs.Tryz
namespace Go.Proofs.YtnmapianpjamnaaGreatDoor
section
open Go.ChangeShapes Go.WideShapes Go.ChangeAt Go.RowKit
def vD:laidOutB prog=true:=by kernel_rfl
def own:ownKnob prog.godebug=none:=by kernel_rfl
def aDX {k:IntKind} {c:World} {d:Addr} {len f:Nat} {b:List Int} (t:len<=f) (u:b.length=f) (m:0 < len->d.block < c.heap.size)
 (g:∀e,e < b.length->c.cell? (d.add e)=some (.int k (b.getD e 0))):Rd c c.heap.size 1 (some d) len ((b.take len).map (Value.int k)):=by
 refine ⟨by simp;omega,fun o=>?_⟩;have n:=g 0 oM;obtain ⟨l,q,r⟩:=d;have p:r=none:=by simpa [Addr.add] using World.cell?_spot n
 subst p;refine ⟨l,q,rfl,m o,fun j v a=>?_⟩;simp only [zAf,zBs] at a;split at a
 · rename_i s
   have:=g j oM;rw [mY] at this;rw [this];have i:j < b.length:=oM;rw [zAa i] at a;simp only [Option.map_some,Option.some.injEq] at a;rw [<-a,zAb,zAa i];rfl
 · simp at a
def yI {i:Type} {p:TypeId×Value->i} {n e:TypeId} {f:IntKind} {d:World} {j:Option Addr} {len c:Nat} {o:DataW i} {y:List MemPlace}
 (ht:prog.underlying n=some (.slice e)) (s:prog.underlying e=some (.int f)) (r:prog.cellsOf e=1)
 (q:DataW.Trod p prog d 0 (fun _=>true) true n (.slice j len c) o y):
 ∃b:List Int,Rd d d.heap.size 1 j len (b.map (Value.int f))/\(∀g∈b,(Lit.int f g).wf=true)/\len<=c/\c<=maxLen:=by
 obtain ⟨B,t⟩:=q;rcases open_ints ht s r t with ⟨a,_⟩|⟨z,D,A,b,a,_,l,u,w,C,k,v⟩;simp [Value.cells] at a;obtain ⟨rfl,rfl,rfl⟩:=a;exact ⟨[],Rd.nil _ _ _ _,by simp,zAs _,zAp _⟩;simp [Value.cells] at a;obtain ⟨rfl,rfl,rfl⟩:=a;have x:b.length=c:=(by simpa using w);refine ⟨b.take len,aDX l x (fun m=>?_) k,fun g m=>v g (List.mem_of_mem_take m),l,u⟩;have:=World.block_lt_of_cell? d (z.add 0) (k 0 oM);simpa [Addr.add] using this
end
section
def iL (c:Nat) {b a:Nat} (f:b<=a):aV c b<=aV c a:=by
 induction a with
 | zero=>obtain rfl:b=0:=oM
         exact zAs _
 | succ a e=>
   rw [cM];by_cases d:b<=a;have:=e d;omega;obtain rfl:b=a+1:=oM;rw [cM];exact zAs _
def aBb (b:Nat) {e:Nat}:∀ {a:Nat},e < aV b a->∃c,c < a/\b.testBit c=true/\aV b c=e
 | 0,h=>by rw [kV] at h;omega
 | a+1,h=>by
   by_cases f:e < aV b a;obtain ⟨c,j,g,i⟩:=aBb b f;exact ⟨c,by omega,g,i⟩
   · rw [cM] at h;cases d:b.testBit a with
     | false=>rw [d] at h;simp at h;omega
     | true=>
       rw [d] at h;simp at h;exact ⟨a,by omega,d,by omega⟩
def aC3 (c:Nat) {a b:Nat} (e:c.testBit a=true) (f:c.testBit b=true) (g:aV c a=aV c b):a=b:=by
 rcases Nat.lt_trichotomy a b with d | d | d;have:=iL c (show a+1<=b from d);rw [cM,e] at this;simp at this;omega;exact d;have:=iL c (show b+1<=a from d);rw [cM,f] at this;simp at this;omega
def aBh {a:Nat} (e:0 < a) (d:a < 2 ^ 64):∃b,a=2 ^ Lib.ctz 64 a*(2*b+1)/\Lib.ctz 64 a < 64:=by
 obtain ⟨b,f,g⟩:=Lib.ctzFrom_spec 64 a e d;have c:Lib.ctz 64 a=Lib.ctzFrom 64 a:=by unfold Lib.ctz;rw [zBw oM]
 exact ⟨b,by rw [c];exact f,by rw [c];exact g⟩
def vB (a c b:Nat):(2 ^ a*(2*c+1)).testBit b=if b < a then false else if b=a then true else c.testBit (b - a - 1):=by
 rw [Nat.mul_comm,Nat.testBit_mul_two_pow];by_cases f:b < a;rw [zBx f,zBy oM];rfl
 · rw [zBw f,zBz oM,Bool.true_and];by_cases d:b=a
   · rw [zBx d];subst d;rw [Nat.sub_self];simp [Nat.testBit_zero]
   · rw [zBw d];obtain ⟨e,g⟩:∃e,b - a=e+1:=⟨b - a - 1,by omega⟩;rw [g,Nat.testBit_succ];have:(2*c+1)/ 2=c:=oM;rw [this];congr 1
def aCW (a c b:Nat):(2 ^ a*(2*c+1) - 1).testBit b=if b < a then true else if b=a then false else c.testBit (b - a - 1):=by
 have j:0 < 2 ^ a:=Nat.two_pow_pos a;have g:2 ^ a*(2*c+1) - 1=2 ^ a*(2*c)+(2 ^ a - 1):=by rw [Nat.mul_add,zBl];omega
 rw [g,Nat.testBit_two_pow_mul_add _ oM];by_cases d:b < a
 · rw [zBx d,zBx d,Nat.testBit_two_pow_sub_one,zBz d]
 · rw [zBw d,zBw d];by_cases e:b=a
   · rw [zBx e];subst e;rw [Nat.sub_self];simp [Nat.testBit_zero]
   · rw [zBw e];obtain ⟨f,i⟩:∃f,b - a=f+1:=⟨b - a - 1,by omega⟩;rw [i,Nat.testBit_succ];have:2*c / 2=c:=oM;rw [this];congr 1
def aB3 {a:Nat} (g:0 < a) (f:a < 2 ^ 64) (b:Nat):(a&&&(a - 1)).testBit b=(a.testBit b&&decide (b≠Lib.ctz 64 a)):=by
 obtain ⟨j,e,i⟩:=aBh g f;generalize Lib.ctz 64 a=k at e i;subst e;rw [Nat.testBit_and,vB,aCW];by_cases c:b < k
 · simp [c]
 · by_cases d:b=k
   · simp [d]
   · simp [c,d]
def aBo {a:Nat} (e:0 < a) (d:a < 2 ^ 64):a.testBit (Lib.ctz 64 a)=true/\∀b,b < Lib.ctz 64 a->a.testBit b=false:=by
 obtain ⟨i,c,f⟩:=aBh e d;generalize Lib.ctz 64 a=k at c f⊢;subst c;refine ⟨?_,fun b g=>?_⟩
 · rw [vB,zBw oM,zBx rfl]
 · rw [vB,zBx g]
def clr (a:Nat):Nat->Nat
 | 0=>a
 | i+1=>clr a i&&&(clr a i - 1)
def aAL (b a:Nat):clr b a<=b:=by
 induction a with
 | zero=>exact zAs _
 | succ a c=>exact zAk Nat.and_le_left c
def vM {a:Nat} (o:a < 2 ^ 64) {i:Nat} (m:a.testBit i=true):∀b,b<=aV a i->∀c,(clr a b).testBit c=(a.testBit c&&decide (b<=aV a c))
 | 0,_,c=>by simp [clr]
 | b+1,hi,c=>by
   have e:=vM o m b oM;have n:(clr a b).testBit i=true:=(by rw [e,m,zBz oM];rfl);have j:0 < clr a b:=by
    rcases zBa (clr a b) with f | f
    · rw [f] at n;simp at n
    exact f
   have l:clr a b < 2 ^ 64:=Nat.lt_of_le_of_lt (aAL a b) o;obtain ⟨d,p⟩:=aBo j l;show (clr a b&&&(clr a b - 1)).testBit c=_;rw [aB3 j l];generalize Lib.ctz 64 (clr a b)=k at d p;rw [e,zBd,zCa] at d;obtain ⟨d,y⟩:=d;have x:aV a k=b:=by
    by_cases g:b < aV a k
    · obtain ⟨v,q,r,s⟩:=aBb a g;have:=p v q;rw [e,r,s] at this;simp at this
    omega
   rw [e];cases u:a.testBit c with
   | false=>rfl
   | true=>
     rw [Bool.true_and,Bool.true_and,Bool.eq_iff_iff,zBd,zCa,zCa,zCa];constructor;rintro ⟨g,t⟩;by_cases w:aV a c=b;exact absurd (aC3 a u d oM) t;omega;intro g;refine ⟨by omega,?_⟩;rintro rfl;omega
def aBp {x:Nat} (e:x < 2 ^ 64) {b i:Nat} (d:x.testBit b=true) (c:i<=aV x b):0 < clr x i:=by
 have:=vM e d i c b;rw [d,zBz c] at this;rcases zBa (clr x i) with a | a
 · rw [a] at this;simp at this
 exact a
def aEp {x:Nat} (e:x < 2 ^ 64) {b a:Nat} (d:x.testBit b=true) (m:aV x b=a):Lib.ctz 64 (clr x a)=b:=by
 have j:=aBp e d (i:=a) oM;have k:clr x a < 2 ^ 64:=Nat.lt_of_le_of_lt (aAL x a) e;obtain ⟨g,l⟩:=aBo j k;have f:=vM e d a oM;rcases Nat.lt_trichotomy (Lib.ctz 64 (clr x a)) b with c | c | c;rw [f,zBd,zCa] at g;have:=iL x (show Lib.ctz 64 (clr x a)+1<=b from c);rw [cM,g.1] at this;simp at this;omega;exact c
 · have:=l b c;rw [f,d,zBz oM] at this;simp at this
def dU (a:Nat) (b:Bool):Nat:=if b then a else 18446744073709551615 - a
def xD (a:Nat) (b:Bool) (c:a < 18446744073709551616):dU a b < 18446744073709551616:=by
 unfold dU;split <;> omega
def iE (a:Nat) (c:Bool) (f:a < 18446744073709551616) {b:Nat} (e:b < 64):(dU a c).testBit b=(a.testBit b==c):=by
 unfold dU;cases c with
 | true=>simp
 | false=>
   have d:18446744073709551615 - a=2 ^ 64 -(a+1):=oM;simp only [Bool.false_eq_true,if_false];rw [d,Nat.testBit_two_pow_sub_succ oM,zBz e];cases a.testBit b <;> rfl
def jA (e:Nat) (b:List Bool) (d:Bool):∀a,a<=b.length->(∀c,c < a->∀f,b[c]?=some f->e.testBit c=(f==d))->aV e a=(b.take a).count d
 | 0,_,_=>by simp [kV]
 | a+1,hn,h=>by have g:b[a]?=some (b[a]' oM):=zAa oM;rw [cM,jA e b d a oM (fun c i=>h c oM),zAv,g,zCc,h a oM _ g];simp [List.count_cons]
def zW (c:List Bool) {a:Nat} (e:a < 64) {b:Bool} (d:c[a]?=some b):(w0 c).testBit a=b:=by
 unfold w0;rw [gR,zAb,zBs,zBx e,d];rfl
def aCq (b:List Bool) {q:Nat} {a:Bool} (c:b[64+q]?=some a):(w1 b).testBit q=a:=by
 unfold w1;rw [gR,zAb,zBt,c];rfl
def aEM {a:List Bool} {b:Bool} {c d:Nat} (n:a.length<=128) (j:a[c]?=some b) (l:(a.take c).count b=d) (e:c < 64):
 (dU (w0 a) b).testBit c=true/\aV (dU (w0 a) b) c=d/\d < aV (dU (w0 a) b) 64:=by
 have i:=jN a;have o:=(zAc.1 j).1;have f:(dU (w0 a) b).testBit c=true:=by rw [iE _ _ i e,zW a e j];simp
 have g:aV (dU (w0 a) b) c=d:=by rw [<-l];exact jA _ a b c oM fun q p m k=>by rw [iE _ _ i oM,zW a oM k]
 refine ⟨f,g,?_⟩;have:=iL (dU (w0 a) b) (show c+1<=64 by omega);rw [cM,f,g] at this;simp at this;omega
def aEN {a:List Bool} {b:Bool} {c f:Nat} (r:a.length<=128) (m:a[c]?=some b) (u:(a.take c).count b=f) (t:64<=c):
 ∃i g,aV (dU (w0 a) b) 64=i/\i<=f/\f - i=g/\(dU (w1 a) b).testBit (c - 64)=true/\aV (dU (w1 a) b) (c - 64)=g/\g < aV (dU (w1 a) b) 64:=by
 have s:=jN a;have l:=jK a r;have v:=(zAc.1 m).1;have p:aV (dU (w0 a) b) 64=(a.take 64).count b:=jA _ a b 64 oM fun n e o d=>by rw [iE _ _ s e,zW a e d]
 have w:(a.take c).count b=(a.take 64).count b+((a.drop 64).take (c - 64)).count b:=by
  have:a.take c=a.take 64++(a.drop 64).take (c - 64):=by rw [<-List.take_add];congr 1;omega
  rw [this,zCc]
 have j:(dU (w1 a) b).testBit (c - 64)=true:=by rw [iE _ _ l oM,aCq a (q:=c - 64) (by rw [show 64+(c - 64)=c by omega];exact m)];simp
 have k:aV (dU (w1 a) b) (c - 64)=((a.drop 64).take (c - 64)).count b:=
  jA _ (a.drop 64) b (c - 64) (by rw [zAw];omega) fun n e o d=>by rw [zBt] at d;rw [iE _ _ l oM,aCq a d]
 refine ⟨_,_,p,by omega,rfl,j,by rw [k];omega,?_⟩;have:=iL (dU (w1 a) b) (show c - 64+1<=64 by omega);rw [cM,j,k] at this;simp at this;omega
end
section
open Go.RowKit
def TabW (a:World):Prop:=TabAt 0 Lib.deBruijn64tab a
def TabW.below {B:Nat} {b c:World} (d:TabW b) (f:Below B b c) (hB:0 < B):TabW c:=fun a e=>(f.cell (p:=⟨0,a,none⟩) hB).trans (d a e)
def TabW.pos {a:World} (c:TabW a):0 < a.heap.size:=by
 have d:=c 0 dC;rcases zBe 0 a.heap.size with b | b;exact b
 · exfalso;have:a.heap[0]?=none:=Array.getElem?_eq_none b;simp [World.cell?,this] at d
def aFo (b c:Nat) (g:b < 18446744073709551616) (f:Lib.ctz 64 b=c) (a:World) (e:TabW a):
 Calls prog 291 #[.int .u64 (b:Int)] a fun d i=>d=.returned (.int .i64 (c:Int))/\i=a:=by
 have:=Any7.bits_TrailingZeros64 shTz b g a (fun _=>e);rw [f] at this;exact this
def eY (a m c:Nat) (s:a < 18446744073709551616) (q:a.testBit m=true) (p:aV a m=c) (B:c < aV a 64) (d:World) (j:TabW d) (N:0 < d.heap.size):
 Calls prog 284 #[.int .u64 (a:Int),(c:Int)] d fun n Q=>n=.returned (.int .i64 (m:Int))/\Below d.heap.size d Q:=by
 have A:=aEp (x:=a) s q p;have r:=fun e M=>aBp (x:=a) s q (i:=e) M;rw [p] at r;have C:=aAL a;have L:=kW a 64;obtain ⟨I,J,u,R,H⟩:=hqq5 A r C B j;clear A r C q p j;have U:decide ((c:Int) < 0)=false:=by simp
 go_enter func284,ntmps284;go_wp2_with fail;refine (fG _ 1 1 _ [a] _ (Rd.made _ _ 1 1 _ rfl) (by simpa using s) oM).mono ?_;rintro n v ⟨rfl,o⟩;have y:Below d.heap.size d v:=by first |(rw [o];exact bR.alloc nL _)|(rw [<-o];exact bR.alloc nL _)
 have E:(([a].map fun a=>aV a 64).sum)=aV a 64:=by simp
 rw [E];obtain ⟨O,D⟩:=eqx (aV a 64);rw [D] at B L⊢;have V:decide ((c:Int)>=(O:Int))=false:=by simp;omega
 clear E D;have t:=lhd y;clear o y;go_wp2_with fail;go_loopw [0,15] (fun P e wr=>∃b:Nat,b<=c/\e=.int .i64 (b:Int)/\P=.int .u64 ((clr a b:Nat):Int)/\wr=v) (fun _ e _=>c -(intOf e).toNat)
 case atStart=>exact ⟨0,zAp _,rfl,rfl,rfl⟩
 case round=>
  obtain ⟨b,X,rfl,rfl,rfl⟩:=hrel;by_cases W:b < c
  · have w:=J.out b oM;have k:=u.out b;have l:clr a (b+1)=clr a b&&&(clr a b - 1):=rfl;obtain ⟨g,f⟩:=eqx (clr a b);rw [f] at w k l⊢;obtain ⟨G,F⟩:=eqx (g - 1);rw [F] at l;have S:IntKind.u64.wrap ((g:Int) - 1)=(G:Int):=(by rw [IntKind.wrap_u64];omega);have T:=yM g G oM oM;have K:=lhd l;clear f F l w k;go_wp2_with fail;go_roundw
    case rel=>exact ⟨b+1,by omega,by go_num,by rw [K.out],by first | rfl | trivial⟩
    case measure=>simp [intOf];omega
  · obtain rfl:b=c:=oM;have k:=u.out b;have z:=I.out;obtain ⟨g,f⟩:=eqx (clr a b);rw [f] at k z⊢;have j:=H.out.below t.out N;clear f;go_wp2_with fail;refine (aFo g m oM z _ j).mono ?_;rintro n Y ⟨rfl,rfl⟩;go_wp2_with fail;go_ret;exact ⟨rfl,t.out⟩
def aDP (a:Nat) (c:a < 18446744073709551616):18446744073709551615 ^^^ a=18446744073709551615 - a:=by
 have e:18446744073709551615=2 ^ 64 - 1:=dC;have f:18446744073709551615 - a=2 ^ 64 -(a+1):=oM;rw [f,e];apply Nat.eq_of_testBit_eq;intro b;rw [Nat.testBit_xor,Nat.testBit_two_pow_sub_one,Nat.testBit_two_pow_sub_succ c];by_cases d:b < 64
 · simp [d]
 · have:a.testBit b=false:=Nat.testBit_lt_two_pow (zAl (show a < 2 ^ 64 from c) (zBp dC (show 64<=b by omega)));simp [d,this]
def aEz (a:Nat) (b:a < 18446744073709551616):bits .xor .u64 IntKind.u64.max (a:Int)=((dU a false:Nat):Int):=by
 have c:IntKind.u64.max=((18446744073709551615:Nat):Int):=dC;rw [c,bits_xor_u64_nat _ _ oM b];congr 1;unfold dU;simp only [Bool.false_eq_true,if_false];exact aDP a b
def oY (k:Nat) (n:List Bool) (m:Bool) (a f:Nat) (e:World) (W:Bk e k 240 (cC n)) (T:n.length<=128) (ah:n[a]?=some m) (ag:(n.take a).count m=f) (am:TabW e):
 Calls prog 262 #[k,(f:Int),.bool m] e fun w aQ=>w=.returned (.int .i64 (a:Int))/\Below e.heap.size e aQ:=by
 have au:=(zAc.1 ah).1;have B:0 < e.heap.size:=am.pos;have Y:=xD _ m (jN n);have Z:=xD _ m (jK n T);have aF:=jN n;have aG:=jK n T;have o:=W.cell 0;have O:=W.cell 1;have P:=W.cell 2;have aS:decide ((f:Int) < 0)=false:=by simp
 have aP:a < n.length:=au;have ai:∀a1:Nat,(([a1].map fun a1=>aV a1 64).sum)=aV a1 64:=fun a1=>by simp
 obtain ⟨N,Q⟩:=eqx (dU (w0 n) m);obtain ⟨z,R⟩:=eqx (dU (w1 n) m);unfold cC at o O P;obtain ⟨a2,ac⟩:=eqx (w0 n);obtain ⟨a3,ad⟩:=eqx (w1 n);obtain ⟨aM,ae⟩:=eqx n.length;have aI:=ix0 (a2:Int) (a3:Int);have aJ:=ix1 (a2:Int) (a3:Int);rw [Q] at Y;rw [R] at Z;rw [ac] at aF Q;rw [ad] at aG R;rw [ae,ac,ad] at o O P;rw [ae] at aP;have a5:=lhd am;replace o:e.cell? k=some (.int .i64 (aM:Int)):=o.trans rfl;have r:=W.lt;obtain ⟨A,a4⟩:=hqq2 o T;have aD:f<=a:=by rw [<-ag];exact zAk zBv (by rw [zAj];omega)
 have ax:=lhd aD;clear aD;have ap:=fun x=>aEM (b:=m) T ah ag x;have af:=fun x=>aEN (b:=m) T ah ag x;rw [ac,Q] at ap af;rw [ad,R] at af;obtain ⟨v,aq⟩:=eqx (aV N 64);obtain ⟨av,ar⟩:=eqx (aV z 64);obtain ⟨u,ao⟩:=eqx (f - v);have aC:64<=a->v<=f/\z.testBit (a - 64)=true/\aV z (a - 64)=u/\u < av:=fun x=>by obtain ⟨aU,aT,aA,aO,S,U,al,aB⟩:=af x;rw [aq] at aA;rw [ar] at aB;subst aA;rw [ao] at S;subst S;exact ⟨aO,U,al,aB⟩
 have aH:m=false->bits .xor .u64 IntKind.u64.max (a2:Int)=(N:Int)/\bits .xor .u64 IntKind.u64.max (a3:Int)=(z:Int):=fun an=>by rw [<-Q,<-R,an];exact ⟨aEz a2 aF,aEz a3 aG⟩
 have aE:m=true->N=a2/\z=a3:=fun an=>by rw [<-Q,<-R,an];simp [dU]
 obtain ⟨az,a6,a7,a8,ay,aR,a9⟩:=hqq7 ap aC aq ar ao ae au;clear ap af aC aq ar ao ae ah ag W T am Q R ac ad au;obtain ⟨ab,aa⟩:=hqq2 aH aE;clear aH aE;cases m with
 | true=>
   replace aa:=aa.out rfl;clear ab;go_enter func262,ntmps262;go_wp2_with fail;go_loopw [1,21] (fun a0 L wr=>∃y:Nat,L=.int .i64 (y:Int)/\((y=0/\a0=.int .i64 (f:Int))∨(y=1/\64<=a/\a0=.int .i64 (u:Int)))/\Below e.heap.size e wr) (fun _ L _=>2 -(intOf L).toNat)
   case atStart=>exact ⟨0,rfl,.inl ⟨rfl,rfl⟩,Below.refl _ _⟩
   case round=>
    obtain ⟨y,rfl,(⟨rfl,rfl⟩|⟨rfl,V,rfl⟩),g⟩:=hrel
    all_goals
        obtain ⟨aK,aL⟩:=aa;subst aK;subst aL
    · clear O P aJ;have t:=g.size;have G:=(g.cell (p:=k) r).trans o;clear o;go_wp2_with fail;refine (fG _ 1 1 _ [N] _ (Rd.made _ _ 1 1 _ rfl) (by simpa using Y) oM).mono ?_;rintro w F ⟨rfl,l⟩;have c:Below e.heap.size e F:=(by first |(rw [l];exact g.alloc t _)|(rw [<-l];exact g.alloc t _));rw [ai,a7.out];have H:=(c.cell (p:=k) r).trans A.out;clear l G;by_cases x:a < 64
      · obtain ⟨i,j,d⟩:=az.out x;have q:=d;rw [a7.out] at q;have J:f < v:=q;have I:IntKind.i64.wrap (a:Int)=(a:Int):=(by rw [IntKind.wrap_i64];omega);obtain ⟨C,D,E⟩:=hqq3 i j d;clear i j d q;go_wp2_with fail;refine (eY N a f Y C.out D.out E.out _ (a5.out.below c B) (zAl B c.size)).mono ?_;rintro w aj ⟨rfl,K⟩;have s:=c.trans (K.mono c.size);have ak:=(s.cell (p:=k) r).trans A.out;clear H;go_wp2_with fail;go_ret;exact ⟨rfl,s⟩
      · obtain ⟨M,i,j,d⟩:=a6.out oM;have J:¬f < v:=oM;have aN:decide (f < v)=false:=zBy J;have I:IntKind.i64.wrap ((f:Int) -(v:Int))=(u:Int):=(by have:=ay.out;have S:=a4.out;have U:=ax.out;have al:=a9.out;rw [IntKind.wrap_i64];omega);clear M i j d;go_wp2_with fail;go_roundw
        case rel=>exact ⟨1,by go_num,.inr ⟨by first | rfl | trivial,by omega,by go_num⟩,c⟩
        case measure=>simp [intOf]
    · clear O P aI;have t:=g.size;have G:=(g.cell (p:=k) r).trans o;clear o;go_wp2_with fail;refine (fG _ 1 1 _ [z] _ (Rd.made _ _ 1 1 _ rfl) (by simpa using Z) oM).mono ?_;rintro w F ⟨rfl,l⟩;have c:Below e.heap.size e F:=(by first |(rw [l];exact g.alloc t _)|(rw [<-l];exact g.alloc t _));rw [ai,a8.out];have H:=(c.cell (p:=k) r).trans A.out;clear l G;obtain ⟨M,i,j,d⟩:=a6.out V;have q:=d;rw [<-a8.out] at d;have J:u < av:=q;have I:IntKind.i64.wrap (64+((a - 64:Nat):Int))=(a:Int):=(by have S:=a4.out;have U:=a9.out;rw [IntKind.wrap_i64];omega);obtain ⟨aw,X⟩:=eqx (a - 64);rw [X] at I i j;obtain ⟨C,D,E⟩:=hqq3 i j d;clear M i j d q X V;go_wp2_with fail;refine (eY z aw u Z C.out D.out E.out _ (a5.out.below c B) (zAl B c.size)).mono ?_;rintro w aj ⟨rfl,K⟩;have s:=c.trans (K.mono c.size);have ak:=(s.cell (p:=k) r).trans A.out;clear H;go_wp2_with fail;go_ret;exact ⟨rfl,s⟩
 | false=>
   replace ab:=ab.out rfl;clear aa;go_enter func262,ntmps262;go_wp2_with fail;go_loopw [1,21] (fun a0 L wr=>∃y:Nat,L=.int .i64 (y:Int)/\((y=0/\a0=.int .i64 (f:Int))∨(y=1/\64<=a/\a0=.int .i64 (u:Int)))/\Below e.heap.size e wr) (fun _ L _=>2 -(intOf L).toNat)
   case atStart=>exact ⟨0,rfl,.inl ⟨rfl,rfl⟩,Below.refl _ _⟩
   case round=>
    obtain ⟨y,rfl,(⟨rfl,rfl⟩|⟨rfl,V,rfl⟩),g⟩:=hrel
    all_goals
        obtain ⟨aK,aL⟩:=ab
    · clear O P aJ;have t:=g.size;have G:=(g.cell (p:=k) r).trans o;clear o;go_wp2_with fail;refine (fG _ 1 1 _ [N] _ (Rd.made _ _ 1 1 _ rfl) (by simpa using Y) oM).mono ?_;rintro w F ⟨rfl,l⟩;have c:Below e.heap.size e F:=(by first |(rw [l];exact g.alloc t _)|(rw [<-l];exact g.alloc t _));rw [ai,a7.out];have H:=(c.cell (p:=k) r).trans A.out;clear l G;by_cases x:a < 64
      · obtain ⟨i,j,d⟩:=az.out x;have q:=d;rw [a7.out] at q;have J:f < v:=q;have I:IntKind.i64.wrap (a:Int)=(a:Int):=(by rw [IntKind.wrap_i64];omega);obtain ⟨C,D,E⟩:=hqq3 i j d;clear i j d q;go_wp2_with fail;refine (eY N a f Y C.out D.out E.out _ (a5.out.below c B) (zAl B c.size)).mono ?_;rintro w aj ⟨rfl,K⟩;have s:=c.trans (K.mono c.size);have ak:=(s.cell (p:=k) r).trans A.out;clear H;go_wp2_with fail;go_ret;exact ⟨rfl,s⟩
      · obtain ⟨M,i,j,d⟩:=a6.out oM;have J:¬f < v:=oM;have aN:decide (f < v)=false:=zBy J;have I:IntKind.i64.wrap ((f:Int) -(v:Int))=(u:Int):=(by have:=ay.out;have S:=a4.out;have U:=ax.out;have al:=a9.out;rw [IntKind.wrap_i64];omega);clear M i j d;go_wp2_with fail;go_roundw
        case rel=>exact ⟨1,by go_num,.inr ⟨by first | rfl | trivial,by omega,by go_num⟩,c⟩
        case measure=>simp [intOf]
    · clear O P aI;have t:=g.size;have G:=(g.cell (p:=k) r).trans o;clear o;go_wp2_with fail;refine (fG _ 1 1 _ [z] _ (Rd.made _ _ 1 1 _ rfl) (by simpa using Z) oM).mono ?_;rintro w F ⟨rfl,l⟩;have c:Below e.heap.size e F:=(by first |(rw [l];exact g.alloc t _)|(rw [<-l];exact g.alloc t _));rw [ai,a8.out];have H:=(c.cell (p:=k) r).trans A.out;clear l G;obtain ⟨M,i,j,d⟩:=a6.out V;have q:=d;rw [<-a8.out] at d;have J:u < av:=q;have I:IntKind.i64.wrap (64+((a - 64:Nat):Int))=(a:Int):=(by have S:=a4.out;have U:=a9.out;rw [IntKind.wrap_i64];omega);obtain ⟨aw,X⟩:=eqx (a - 64);rw [X] at I i j;obtain ⟨C,D,E⟩:=hqq3 i j d;clear M i j d q X V;go_wp2_with fail;refine (eY z aw u Z C.out D.out E.out _ (a5.out.below c B) (zAl B c.size)).mono ?_;rintro w aj ⟨rfl,K⟩;have s:=c.trans (K.mono c.size);have ak:=(s.cell (p:=k) r).trans A.out;clear H;go_wp2_with fail;go_ret;exact ⟨rfl,s⟩
def kN:List (String×DataW Unit):= [("math/bits.deBruijn64tab",Rows.laid_math_bits_deBruijn64tab)]
def aFz:prog.globalNamed "math/bits.deBruijn64tab" =some 0:=by kernel_rfl
def aFG:(prog.globals[0]?).map (·.type)=some 278:=by kernel_rfl
def aDp (b:Os) (a:Array Value):laidMetH prog kN ((World.doorLaid prog 14 b).forCall (fun _ _=>0) ⟨#[],a, []⟩).memory:=
 laidMetH_of_parts3 (fuel:=8) (laidMet_of_run' 8 kR kR) kR kR
def aBx:(Rows.laid_math_bits_deBruijn64tab:DataW Unit)=Lib.tabData .u8 (Lib.deBruijn64tab.map fun a:Nat=>(a:Int)):=rfl
def uH {b:World} (a:laidMetH prog kN b):TabW b:=by
 rw [MakeChecks.laidMetH_plain _ _ _ kR] at a;unfold kN at a;rw [aBx] at a;have d:=Lib.tabIs_of_head aFz aFG underlying278 underlying5 kR kR a;intro c e;have:=d.cell aFz c (by rw [zBc];exact e);rw [this,zAb,zAf,zAb];cases Lib.deBruijn64tab[c]? <;> rfl
def iD (d:Nat) (f:Option Addr) (i:Nat) (g:Option Addr) (j a b:Nat) (c:World) (e:Bk c d 228 #[.slice f a i,.slice g b j,.int .i64 268435456]) (q:a<=1048576) (p:b<=a):
 Calls prog 215 #[d] c fun k l=>k=.returned (.int .i64 ((a - b:Nat):Int))/\Below c.heap.size c l:=by
 have m:c.cell? d=some (.slice f a i):=(e.cell 0).trans rfl;have n:c.cell? ⟨d,1,none⟩=some (.slice g b j):=(e.cell 1).trans rfl;have o:IntKind.i64.wrap ((a:Int) -(b:Int))=((a - b:Nat):Int):=by rw [IntKind.wrap_i64];omega
 clear e;go_enter func215,ntmps215;go_wp2;go_quiet (fail);go_wp2;go_ret;exact ⟨cT oM,below_drewN bR _⟩
def jG (q a:Nat) (d:Option Addr) (f:Nat) (o:Option Addr) (r b:Nat) (O:List Bool) (g:World) (s:Bk g a 228 #[.slice d b f,.slice o 0 r,.int .i64 268435456]) (z:g.ownsRow q 4 1 (.slice d b f) b (O.map Value.bool)) (hB:q<=g.heap.size) (ah:b<=1000000):
 Calls prog 157 #[a] g fun I v=>I=.returned (.tuple #[(b:Int),.int .i64 0])/\Keep (fun e=>e=a∨(Value.slice d b f).ownBlock=some e) g v/\∃u,Bk v a 228 #[u,.slice o 0 r,.int .i64 268435456]/\v.ownsRow q 4 1 u (b+1) ((O++ [true]).map Value.bool)/\(u.ownBlock=(Value.slice d b f).ownBlock∨∃J,u.ownBlock=some J/\g.heap.size<=J):=by
 obtain ⟨a9,Z,a6,a7,a8⟩:=info_parts iO;have ai:=s.lt;obtain ⟨k,S,R⟩:=hqq3 s z (aR z s dC);clear s z;go_enter func157,ntmps157;go_wp2;refine wp_region_any kR ?_;refine cJ [10,11,12,13,14,15,16,9] (Grow) (Vs [is a,is (b:Int),is a,is a,is (.pointer (some ⟨a,2,none⟩)),is (.int .i64 268435456),is (.bool false),is (.bool false)]) _ _ rfl kR bR (fun _ _=>Grow.trans) (eE tA1) ?_ ?_
 · refine aZ ?_;refine pH 0 (.pointer (some a)) ?_;refine sC (fun _ i c _ _ _ j _ _ _ x=>?_) ?_
   · have ad:_=_:=j 0 10 kR rfl;replace c:(Grow) g i:=gD c;go_simp;refine (iD a d f o r b 0 i (k.out.below c k.out.lt) oM oM).mono ?_;rintro I an ⟨rfl,Y⟩;exact x _ _ Y rfl
   refine pH 0 (.pointer (some a)) ?_;refine pV 2 12 ?_;refine pV 3 13 ?_;refine pL 4 14 (fun i c=>have c:(Grow) g i:=gD c;(((k.out.below c k.out.lt).cell 2).trans rfl:i.cell? ⟨a,2,none⟩=some (.int .i64 268435456))) ?_;refine sC (fun _ _ _ _ _ _ j _ _ _ x=>?_) ?_
   · have ae:_=_:=j 1 11 kR rfl;have af:_=_:=j 5 15 kR rfl;have aj:((b:Int)==268435456)=false:=(by simp;omega);go_simp;exact x _ _ bR (by first | rfl | simp [is] |(simp [is];omega))
   refine pV 6 16 ?_;exact aH
 · intro W n c j;replace c:(Grow) g n:=gD c;have V:W (.tmp 9)=.bool false:=j 7 9 rfl;simp only [zqq];rw [V];clear j;have m:=k.out.below c k.out.lt;have a5:=Below.size c;have N:=aO S.out c;have U:n.cell? ⟨a,1,none⟩=some (.slice o 0 r):=(m.cell 1).trans rfl;have G:n.cell? a=some (.slice d b f):=(m.cell 0).trans rfl;have X:=m.frozen 0;have M:a < n.heap.size:=oM;obtain ⟨w,C,E⟩:=hqq3 c m N;clear c m N;generalize n=W2 at C a5 G U X w M E⊢;have aa:=(World.cell?_alloc_lt W2 (Obj.cells #[.bool true] 4) ⟨a,0,none⟩ M).trans G;go_wp2_with (at_builtin;refine cW _ rfl (.tmp 53) (.tmp 54) _ rfl q 4 a9 (.bool false) 1 1 underlying138 Z a6 a7 a8 rfl dC (.slice d b f) b _ rfl E.out rfl rfl (by simp [Value.oneCell']) (by unfold maxLen;omega) oM oM ?_;intro am i A y ak K;have t:=C.out.grown y R.out;obtain ⟨T,Q,P,D⟩:=hqq4 A y K t;have ac:i.cell? a=some (.slice d b f):=(t.cell 0).trans rfl;have ag:=t.frozen 0;obtain ⟨B,H,rfl,a3⟩:=bE A;clear A y K t a3);go_ret2;have a4:=Keep.setCell (F:=fun e=>e=a∨(Value.slice d b f).ownBlock=some e) (Keep.refl _ i) (p:=a) (.inl (.inl rfl)) (.slice B (b+1) H);have a1:Keep (fun e=>e=a∨(Value.slice d b f).ownBlock=some e) g W2:=Keep.of_below w.out;have a2:=a1.grown Q.out (fun al a0=>.inl (.inr a0));refine ⟨rfl,a2.trans' a4 (fun e _ l=>l),_,D.out.set 0 _,?_,?_⟩;have:=aA (w':=i.setCell a (.slice B (b+1) H)) T.out fun e ab _ L=>L.far (Bk.ne L D.out dC) _;simpa using this;rcases P.out with l | l;exact .inl l;exact .inr ⟨_,l,by have:=w.out.size;omega⟩
def OwnF (b:Nat->Prop) (c:Value):Prop:=∀a,c.ownBlock=some a->b a
def Gw (b:Nat->Prop) (c:Nat) (a:Nat):Prop:=b a∨c<=a
def Gw.keep {F:Nat->Prop} {b w1 c:World} (d:Keep F b w1) (e:Keep (Gw F b.heap.size) w1 c):Keep F b c:=d.trans' e fun f g a=>by
 rcases a with a | a;exact a;omega
def OwnF.mono {F G:Nat->Prop} {b:Value} (c:OwnF F b) (e:∀a,F a->G a):OwnF G b:=fun a d=>e a (c a d)
def OwnF.slice {b:Nat->Prop} {c g f d:Nat} (e:b c):OwnF b (.slice (some ⟨c,g,none⟩) f d):=fun i a=>by
 injection a with a;rw [<-a];exact e
def OwnF.at {b:Nat->Prop} {a f e c:Nat} (d:OwnF b (.slice (some ⟨a,f,none⟩) e c)):b a:=d a rfl
def ArenaE (i:World) (e:Nat->Prop) (j:Nat) (b:List Bool) (a:List Nat):Prop:=
 e j/\∃d g c f,Bk i j 228 #[.slice d b.length g,.slice c a.length f,.int .i64 268435456]/\i.ownsRow 0 4 1 (.slice d b.length g) b.length (b.map Value.bool)/\i.ownsRow 0 3 1 (.slice c a.length f) a.length (a.map sv)/\OwnF e (.slice d b.length g)/\OwnF e (.slice c a.length f)
def aD0 {k:World} {e a m b c:Nat} {f:TypeId} {d:Option Addr} {l:List Value} (g:k.ownsRow e f b (.slice d a c) a l) (t:m<=a) (x:0 < a):k.ownsRow e f b (.slice d m c) m (l.take (m*b)):=by
 rcases g.2 with ⟨i,j⟩|⟨o,v,n,i,j,p,w,q,r,s⟩;omega
 · injection i with h8 h9 h10;subst h8 h10;have u:m*b<=a*b:=Nat.mul_le_mul_right _ t;refine ⟨by rw [zAj,g.1];omega,.inr ⟨o,c,n,rfl,j,p,by omega,q,r,?_⟩⟩;rw [<-s,List.take_take,zCq u]
def aD1 {m:World} {f c l b:Nat} {g:TypeId} {e:Option Addr} {n:List Value} (i:m.ownsRow f g l (.slice e c b) c n):c<=b/\b<=maxLen:=by
 rcases i.2 with ⟨a,d⟩|⟨q,o,p,a,d,r,j,k,s,t⟩;injection a with _ _ a;subst a;subst d;exact ⟨zAs _,zAp _⟩;injection a with _ _ a;subst a;exact ⟨j,k⟩
def ArenaE.vis {f w':World} {b:Nat->Prop} {d:Nat} {e:List Bool} {c:List Nat} (l:ArenaE f b d e c) (a:Vis f w'):ArenaE w' b d e c:=by
 obtain ⟨m,i,k,g,j,n,o,p,q,r⟩:=l;exact ⟨m,i,k,g,j,a.bk n dC dC,a.own o dC dC,a.own p dC dC,q,r⟩
def ArenaE.mono {d:World} {F G:Nat->Prop} {f:Nat} {k:List Bool} {e:List Nat} (p:ArenaE d F f k e) (c:∀a,a < d.heap.size->F a->G a):ArenaE d G f k e:=by
 obtain ⟨q,m,o,l,n,g,i,j,r,s⟩:=p;exact ⟨c _ g.lt q,m,o,l,n,g,i,j,fun a b=>c a (i.lt a b).2 (r a b),fun a b=>c a (j.lt a b).2 (s a b)⟩
def ArenaE.keep {g w':World} {F G:Nat->Prop} {j:Nat} {p:List Bool} {i:List Nat} (u:ArenaE g F j p i) (f:Keep G g w') (e:∀a o c,o∈ [228,4,3]->Bk g a o c->F a->¬G a):ArenaE w' F j p i:=by
 obtain ⟨k,r,t,q,s,l,v,w,m,n⟩:=u;refine ⟨k,r,t,q,s,f.bk l (e _ _ _ dC l k),aA v fun a c d b=>f.bk b (e _ _ _ dC b (m a d)),aA w fun a c d b=>f.bk b (e _ _ _ dC b (n a d)),m,n⟩
def oS (g:Nat->Prop) (c b:Nat) (n:List Bool) (q:List Nat) (i:World) (aj:ArenaE i g c n (q++ [b])) (aq:b < n.length) (ht:n.length<=1000000) (a0:q.length < n.length):
 Calls prog 157 #[c] i fun o A=>o=.returned (.tuple #[(b:Int),.int .i64 0])/\ArenaE A g c (n.set b true) q/\Keep g i A:=by
 obtain ⟨X,ax,H,ay,k,s,v,u,O,N⟩:=aj;obtain ⟨z,L⟩:=eqx n.length;obtain ⟨a,t⟩:=eqx q.length;have a3:(q++ [b]).length=a+1:=by simp [t]
 rw [a3] at s u N;rw [L] at s v O ht aq a0;rw [t] at a0;obtain ⟨f,aF,I,_,ap⟩:=World.ownsRow.form v oM;injection I with I _ hcc;subst I hcc;obtain ⟨e,aC,J,_,a2⟩:=World.ownsRow.form u oM;injection J with J _ hcc2;subst J hcc2;have aQ:=aD1 u;have P:=aD0 (m:=a) u oM oM;have a1:((q++ [b]).map sv).take (a*1)=q.map sv:=by
  have:(q.map sv).length=a:=by rw [zBc,t]
  rw [zAz,zBl,<-this,List.take_left]
 rw [a1] at P;have U:i.cell? ⟨e,a,none⟩=some (.int .i64 (b:Int)):=by refine (World.ownsRow.cellAt u a oM).trans ?_;rw [zAz,zAo (by simp [t]),zBc,t,Nat.sub_self];rfl
 obtain ⟨E,a8⟩:∃E,n[b]?=some E:=⟨_,zAa oM⟩;have W:i.cell? ⟨f,b,none⟩=some (.bool E):=by refine (World.ownsRow.cellAt v b oM).trans ?_;rw [zAf,a8];rfl
 have a7:c≠f:=fun o=>aR v s dC (by rw [o];rfl);have aS:c≠e:=fun o=>aR u s dC (by rw [o];rfl);have ao:∃C,Bk i f 4 C:=by
  rcases v.2 with ⟨l,_⟩|⟨aP,aD,C,l,_,ak,_⟩
  · cases l
  injection l with l _ _;injection l with l;injection l with l _;subst l;exact ⟨C,ak⟩
 obtain ⟨C,Z⟩:=ao;have aV:=s.lt;obtain ⟨x,af,ad,ac,ab,R,Q,S⟩:=hqq8 s v P O N Z L t;clear s v u P O N a1 a3 a8 L t Z;go_enter func157,ntmps157;go_wp2;refine wp_region_any kR ?_;refine cJ [10,11,12,13,14,15,16,9] (Grow) (Vs [is c,is (.int .i64 ((z -(a+1):Nat):Int)),is c,is c,is (.pointer (some ⟨c,2,none⟩)),is (.int .i64 268435456),is (.bool false),is (.bool false)]) _ _ rfl kR bR (fun _ _=>Grow.trans) (eE tA1) ?_ ?_
 · refine aZ ?_;refine pH 0 (.pointer (some c)) ?_;refine sC (fun _ B d _ _ _ w _ _ _ K=>?_) ?_
   · have aJ:_=_:=w 0 10 kR rfl;replace d:(Grow) i B:=gD d;go_simp;refine (iD c (some ⟨f,0,none⟩) H (some ⟨e,0,none⟩) k z (a+1) B (x.out.below d x.out.lt) oM oM).mono ?_;rintro o b3 ⟨rfl,M⟩;exact K _ _ M rfl
   refine pH 0 (.pointer (some c)) ?_;refine pV 2 12 ?_;refine pV 3 13 ?_;refine pL 4 14 (fun B d=>have d:(Grow) i B:=gD d;(((x.out.below d x.out.lt).cell 2).trans rfl:B.cell? ⟨c,2,none⟩=some (.int .i64 268435456))) ?_;refine sC (fun _ _ _ _ _ _ w _ _ _ K=>?_) ?_
   · have aK:_=_:=w 1 11 kR rfl;have aL:_=_:=w 5 15 kR rfl;have aX:(((z -(a+1):Nat):Int)==268435456)=false:=(by rw [zCb];omega);go_simp;exact K _ _ bR (by first | rfl | simp [is] |(simp [is];omega))
   refine pV 6 16 ?_;exact aH
 · intro ai j d w;replace d:(Grow) i j:=gD d;have ah:ai (.tmp 9)=.bool false:=w 7 9 rfl;simp only [zqq];rw [ah];clear w;have y:=x.out.below d x.out.lt;have D:=R.out.below d R.out.lt;have az:j.cell? c=some (.slice (some f) z H):=(y.cell 0).trans rfl;have aB:j.cell? ⟨c,1,none⟩=some (.slice (some e) (a+1) k):=(y.cell 1).trans rfl;have aM:=y.frozen 1;have aN:=D.frozen b;have aE:j.cell? ⟨e,a,none⟩=some (.int .i64 (b:Int)):=(d.cell (p:=⟨e,a,none⟩) a2).trans U;have aG:j.cell? ⟨f,b,none⟩=some (.bool E):=(d.cell (p:=⟨f,b,none⟩) ap).trans W;have aT:=y.lt;have aW:=D.lt;have aU:e < j.heap.size:=zAl a2 d.size;have a5:=aO af.out d;have a4:=aO ad.out d;obtain ⟨a9,G,aa,ag,ae⟩:=hqq5 d y D a5 a4;have aI:IntKind.i64.wrap (((a+1:Nat):Int) - 1)=(a:Int):=(by rw [IntKind.wrap_i64];omega);have aY:(a:Int) < ((a+1:Nat):Int):=oM;have b0:(b:Int) < (z:Int):=oM;have b1:(a:Int)<=(k:Int):=oM;have b2:((a+1:Nat):Int) > 0:=oM;clear d y D a5 a4 U W;go_wp2_with fail;go_ret2;have ar:Keep g i j:=Keep.of_below a9.out;have am:=G.out.set 1 (.slice (some e) a k);have M:=am.far (p:=⟨f,b,none⟩) a7 (.bool true);have aw:=aA (w':=j.setCell ⟨c,1,none⟩ (.slice (some e) a k)) ag.out fun T V _ r=>r.far (Bk.ne r G.out dC) _;have a6:=(World.ownsRow.stored aw b (.bool true)).1;have au:=aA (w':=j.setCell ⟨c,1,none⟩ (.slice (some e) a k)) ae.out fun T V _ r=>r.far (Bk.ne r G.out dC) _;have an:=aa.out.far (p:=⟨c,1,none⟩) (fun o=>a7 o.symm) (.slice (some e) a k);have av:=aA (w':=(j.setCell ⟨c,1,none⟩ (.slice (some e) a k)).setCell ⟨f,b,none⟩ (.bool true)) au fun T V _ r=>r.far (Bk.ne r an dC) _;have Y:g f:=OwnF.at ac.out;have al:g e:=OwnF.at ab.out;rw [show ((n.map Value.bool).set b (.bool true))=(n.set b true).map Value.bool by rw [List.map_set]] at a6;refine ⟨rfl,⟨X,some ⟨f,0,none⟩,H,some ⟨e,0,none⟩,k,?_,?_,?_,?_,?_⟩,?_⟩;rw [zAt,Q.out,S.out];exact M;rw [zAt,Q.out];exact a6;rw [S.out];exact av;rw [zAt];exact OwnF.slice Y;exact OwnF.slice al;exact Keep.setCell (F:=g) (Keep.setCell (F:=g) ar (p:=⟨c,1,none⟩) (.inl X) _) (p:=⟨f,b,none⟩) (.inl Y) _
def kL (m:Nat->Prop) (e a:Nat) (i:List Bool) (p:List Nat) (b:World) (q:ArenaE b m e i p) (g:i[a]?=some true):
 Calls prog 265 #[e,(a:Int)] b fun o v=>o=.returned (.bool true)/\b=v:=by
 obtain ⟨C,w,n,x,z,c,d,u,t,s⟩:=q;obtain ⟨r,_⟩:=zAc.1 g;obtain ⟨j,l⟩:=eqx i.length;rw [l] at c d r;obtain ⟨k,B,f,_,E⟩:=World.ownsRow.form d oM;injection f with f _ hcc;subst f hcc;have y:b.cell? e=some (.slice (some k) j n):=(c.cell 0).trans rfl;have A:b.cell? ⟨k,a,none⟩=some (.bool true):=by refine (World.ownsRow.cellAt d a oM).trans ?_;rw [zAf,g];rfl
 have D:=c.lt;have G:(a:Int) < (j:Int):=oM;have F:decide ((a:Int)>=0)=true:=by simp
 clear c d u t s l g;go_enter func265,ntmps265;go_wp2_with fail;go_ret;exact ⟨rfl,rfl⟩
def zL (e:Nat->Prop) (f l a:Nat) (s:List Bool) (q:List Nat) (d:World) (r:ArenaE d e f s q) (H:s[a]?=some true) (y:Bk d l 3 #[(a:Int)]) (av:q.length<=1000000):
 Calls prog 228 #[f,.slice (some l) 1 1] d fun o J=>o=.returned (.int .i64 0)/\ArenaE J (Gw e d.heap.size) f (s.set a false) (q++ [a])/\Keep e d J:=by
 have aa:=kL e f a s q d r H;obtain ⟨a7,aN,B,u,w,g,n,U,S,R⟩:=r;obtain ⟨aB,_⟩:=zAc.1 H;obtain ⟨aL,ax,aI,aJ,aK⟩:=info_parts fN;obtain ⟨v,O⟩:=eqx s.length;obtain ⟨i,Q⟩:=eqx q.length;rw [Q] at g U R av;rw [O] at g n S aB;obtain ⟨b,aO,N,_,aX⟩:=World.ownsRow.form n oM;injection N with N _ hcc;subst N hcc;have an:d.cell? ⟨b,a,none⟩=some (.bool true):=by refine (World.ownsRow.cellAt n a oM).trans ?_;rw [zAf,H];rfl
 have aH:f≠b:=fun o=>aR n g dC (by rw [o];rfl);have aw:∃D,Bk d b 4 D:=by
  rcases n.2 with ⟨c,_⟩|⟨a6,am,D,c,_,M,_⟩
  · cases c
  injection c with c _ _;injection c with c;injection c with c _;subst c;exact ⟨D,M⟩
 obtain ⟨D,G⟩:=aw;have ar:=G.frozen a;have al:d.cell? f=some (.slice (some b) v B):=(g.cell 0).trans rfl;have ao:d.cell? l=some (.int .i64 (a:Int)):=(y.cell 0).trans rfl;have aV:=g.lt;have aW:=y.lt;have aY:(a:Int) < (v:Int):=oM;have aG:l≠b:=Bk.ne y G dC;obtain ⟨j,m⟩:=eqx (d.setCell ⟨b,a,none⟩ (.bool false));have x:Bk j f 228 #[.slice (some b) v B,.slice u i w,.int .i64 268435456]:=by rw [<-m];exact g.far (p:=⟨b,a,none⟩) aH _
 have W:Bk j l 3 #[(a:Int)]:=by rw [<-m];exact y.far (p:=⟨b,a,none⟩) aG _
 have ad:j.ownsRow 0 4 1 (.slice (some b) v B) v ((s.set a false).map Value.bool):=by rw [<-m,List.map_set];exact (World.ownsRow.stored n a (.bool false)).1
 have V:j.ownsRow 0 3 1 (.slice u i w) i (q.map sv):=by rw [<-m];exact aA U fun A a4 _ k=>k.far (p:=⟨b,a,none⟩) (Bk.ne k G dC) _
 have a8:e b:=OwnF.at S;have ab:Keep e d j:=by rw [<-m];exact Keep.setCell (F:=e) (Keep.refl _ _) (p:=⟨b,a,none⟩) (.inl a8) _
 have aQ:j.cell? ⟨f,1,none⟩=some (.slice u i w):=(x.cell 1).trans rfl;have aU:=x.lt;have ac:Rd j j.heap.size 1 (some ⟨l,0,none⟩) 1 [.int .i64 (a:Int)]:=⟨rfl,fun _=>⟨l,0,rfl,W.lt,fun I b0 ae=>by
  rw [zBi,W.cell];rcases I with _ | I;exact ae
  · simp at ae⟩⟩
 obtain ⟨ah,a3,a2,a0,ak,af,a1,L,Y⟩:=hqq9 x ad V ab ac m R Q O;have ai:=lhd (aR V x dC);clear g n U S R O Q G y H x W ad V ab m ac;go_enter func228,ntmps228;go_wp2_with fail;refine wp_loop_rounds 2 ?_;rw [rounds_succ];go_wp2_with fail;refine aa.mono ?_;rintro o w1 ⟨rfl,rfl⟩;clear aa;go_wp2_with fail;rw [af.out];clear al ao an ar;rw [rounds_succ];go_wp2_with (at_builtin;refine bG _ rfl (.tmp 48) (.tmp 49) _ rfl 0 3 aL (.int .i64 0) 1 8 underlying27 ax aI aJ aK rfl dC (.slice u i w) i _ rfl a2.out _ _ _ _ _ rfl ak.out (by simp [Value.oneCell']) (by unfold maxLen;omega) oM (zAp _) ?_;intro b1 X T P a9;have E:=ah.out.grown P ai.out;have aT:=E.frozen 1;have aS:=E.cell 1;obtain ⟨aj,Z,ag,K⟩:=hqq4 T P a9 E;obtain ⟨z,C,rfl,aC⟩:=bE T;clear T P a9 E aC);go_ret;have az:Keep e d X:=a0.out.grown Z.out (fun I ay=>.inl (a1.out I ay));have au:=K.out.set 1 (.slice z (i+1) C)
 have aE:=World.ownsRow.kept a3.out Z.out (by
  rcases hh:(Value.slice u i w).ownBlock with _ | aM
  · right;simp [Value.ownBlock]
  · right;intro o;have ap:b=aM:=(by simpa [Value.ownBlock] using o);subst ap;rcases a2.out.2 with ⟨c,_⟩|⟨a6,am,aP,c,_,M,_⟩
    · rw [c] at hh;simp [Value.ownBlock] at hh
    · rw [c] at hh;have aq:a6=b:=(by simpa [Value.ownBlock] using hh);subst aq;exact aR a3.out (t:=3) M dC rfl)
 have aF:=aA (w':=X.setCell ⟨f,1,none⟩ (.slice z (i+1) C)) aE fun A a4 _ k=>k.far (Bk.ne k K.out dC) _;have aD:=aA (w':=X.setCell ⟨f,1,none⟩ (.slice z (i+1) C)) aj.out fun A a4 _ k=>k.far (Bk.ne k K.out dC) _;have aZ:=a0.out.size;refine ⟨rfl,⟨.inl a7,some ⟨b,0,none⟩,B,z,C,?_,?_,?_,?_,?_⟩,?_⟩;rw [zAt,Y.out,zAi,L.out];exact au;rw [zAt,Y.out];exact aF;rw [zAi,L.out,zAz];exact aD;exact OwnF.slice (.inl a8);intro A g;rw [zAi,L.out] at g;rcases ag.out with r | r;exact .inl (a1.out A (r.symm.trans g));have a5:=r.symm.trans g;injection a5 with a5;exact .inr oM;exact Keep.setCell (F:=e) az (p:=⟨f,1,none⟩) (.inl a7) _
def lN (e:Nat) (c:Option Addr) (a d:Nat) (n:List Value) (g:Option Addr) (i l:Nat) (b:World) (j:b.ownsRow e 3 1 (.slice c a d) a n) (k:Rd b b.heap.size 1 g 1 [sv l]) (hB:e<=b.heap.size) (A:a<=1000000):
 Calls prog 158 #[.slice c a d,(a:Int),.slice g 1 i] b fun q m=>∃f,q=.returned f/\m.ownsRow e 3 1 f (a+1) (n++ [sv l])/\b.grownBy m (Value.slice c a d).ownBlock/\(f.ownBlock=(Value.slice c a d).ownBlock∨f.ownBlock=some b.heap.size):=by
 obtain ⟨y,t,v,w,x⟩:=info_parts fN;have B:=lQ (P:=prog) 27 3 1 underlying27 Tryz.sizeOf3 c a d a nL;obtain ⟨o,p⟩:=hqq2 j k;clear j k;go_enter func158,ntmps158;go_wp2_with (at_builtin;refine bG _ rfl (.tmp 23) (.tmp 24) _ rfl e 3 y (.int .i64 0) 1 8 underlying27 t v w x rfl dC (.slice c a d) a _ rfl o.out b.heap.size g 1 i _ rfl p.out (by simp [Value.oneCell',sv]) (by unfold maxLen;omega) oM hB ?_;intro z C u s r);go_ret;exact ⟨z,rfl,u,s,r⟩
end
end Go.Proofs.YtnmapianpjamnaaGreatDoor
