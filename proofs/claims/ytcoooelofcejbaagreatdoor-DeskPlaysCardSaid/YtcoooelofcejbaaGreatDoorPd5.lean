/- Lemmas of the walk. Conditions: each its own. -/
import Derived.Test.YtcoooelofcejbaaGreatDoorPd1
import Derived.Test.YtcoooelofcejbaaGreatDoorPd2
import Derived.Test.YtcoooelofcejbaaGreatDoorProg
import Derived.Test.YtcoooelofcejbaaGreatDoorShl
set_option linter.all false
set_option maxRecDepth 100000
set_option maxHeartbeats 1000000
open Go.Proofs.Tryz
namespace Go.Proofs.YtcoooelofcejbaaGreatDoor
section
open Go.RowKit Go
def cS {P:Program} {ops:Array Oper} {Q:Exit->Act->World->Prop} {md:Region.Mode} (d:Nat) (p:List Nat) (g:Nat->Prop) (b:Nat) (r:List Nat) {pre:World->Prop} (o:Value->World->Prop) (l:List (Value->World->Prop)) (k:Act) {i:World} (E:(ops.toList.take d).filterMap (·.dst)=p) (H:d<=ops.size) (G:jW md ops k.tmps.size=true) (N:((List.range ops.size).all fun c=>decide (c < d)||(List.range d).all fun a=>upB md ops ops.size c a)=true) (K:(r.all fun a=>a==b||upB md ops ops.size b a)=true) (J:pre i) (I:∀w e,pre w->Keep g i w->Grow w e->pre e) (D:Stb o) (L:∀R∈l,yO g R) (M:∀j y,j < d->ops[j]?=some y->dH P ops Q md (Keep g i) (uH g b) (fun a w=>r.contains a=true->pre w) (VsJ b o l) k j y) (F:∀(t:Operand->Value) w f,Keep g i w->(∀a s,a < d->((ops[a]?).bind (·.dst))=some s->VsJ b o l a (t (.tmp s)) w)->wpAny P md ops Q (ops.size - d+f) (bX d ops.size) (cX t p k) w):
 wpAny P md ops Q ops.size (Array.replicate ops.size false) k i:=by
 refine aBO d p (Keep g i) (uH g b) (fun a w=>r.contains a=true->pre w) (VsJ b o l) k i E H G N (Keep.refl _ _) (fun _ _=>J) (fun j w e _ B c=>B.trans (iT c)) (fun a j w e _ q O m C c v=>?_) (fun a j z w e _ q _ n _ c=>?_) M F;by_cases x:j=b;exfalso;subst x;have u:=zBf.1 K a (by simpa using v);simp only [O,Bool.or_false,zCr] at u;exact q u;exact I w e (m v) C (c.2 x);unfold VsJ at n⊢;by_cases m:a=b;rw [zBx m] at n⊢;exact D z w e n (c.2 fun A=>q (m.trans A.symm));rw [zBw m] at n⊢;exact vG L a z w e n (iT c)
def bH {d:Nat} {c:Nat->Oper->Prop} {l:List Oper} (e:∀a b,(l.take d)[a]?=some b->c (0+a) b):∀a b,a < d->l.toArray[a]?=some b->c a b:=by
 intro a b f g;have:=e a b (by rw [zBs,zBx f];simpa using g);rwa [zBi] at this
section
variable {P : Program} {ops : Array Oper} {Q : Exit -> Act -> World -> Prop} {md : Region.Mode}
def aAw {ds:List Nat} {C:(Operand->Value)->World->Prop} (m:Nat->Value->World->World->Prop) (o:Nat->World->Prop) (j:Nat->(Operand->Value)->Value->World->Prop) {a0:Act} {W0:World} (B:ops.toList.filterMap (·.dst)=ds) (E:jW md ops a0.tmps.size=true) (x:C a0.eval W0) (z:∀b,o b W0) (v:∀a d c g e w f,ops[a]?=some d->(∀k,d.dst=some k->g (.tmp k)=e)->(∀i,d.dst≠some i->g (.tmp i)=c (.tmp i))->C c w->m a e w f->C g f) (y:∀b a e w f,b≠a->upB md ops ops.size a b=false->o b w->m a e w f->o b f) (G:∀a d c g e w,ops[a]?=some d->(∀i,d.dst≠some i->g (.tmp i)=c (.tmp i))->j a c e w->j a g e w) (H:∀b a d c g e q w f,ops[a]?=some d->(∀i,d.dst≠some i->g (.tmp i)=c (.tmp i))->b≠a->upB md ops ops.size b a=false->j b c e w->C c w->m a q w f->j b g e f) (I:∀a d,ops[a]?=some d->uZ P ops Q md C m o j a0 a d) (D:∀(c:Operand->Value) w,C c w->(∀b k,((ops[b]?).bind (·.dst))=some k->j b c (c (.tmp k)) w)->(∀b,b < ops.size->∃e,j b c e w)->Q .normal (cX c ds a0) w):
 wpAny P md ops Q ops.size (Array.replicate ops.size false) a0 W0:=by
 exact kL (n:=ops.size) (by rw [vE];exact B) nL E (fun M b r p=>absurd p oM) x z (fun a d c g e w f _=>v a d c g e w f) (fun b a _ e w f _ r p t _ u=>y b a e w f r p t u) G (fun b a d c g e q w f _ _=>H b a d c g e q w f) (fun a d _ F=>I a d F) fun c w L A J K=>nC rfl (D c w A (fun b k s=>J b k (aEe s) s) K)
end
def blk?:Value->Option Nat
 | .pointer (some a)=>some a.block
 | .slice (some a) _ _=>some a.block
 | _=>none
def aDn (d:List Nat) (c:Operand->Value) (w:World):Prop:=
 (∀b∈d,∀a,blk? (c (.tmp b))=some a->a < w.heap.size)/\∀b∈d,∀e∈d,b≠e->∀a,blk? (c (.tmp b))=some a->blk? (c (.tmp e))≠some a
def wW {d:List Nat} {c:Operand->Value} {w:World} (g:(d.all fun a=>(blk? (c (.tmp a))).isNone)=true):aDn d c w:=by
 have i:∀a∈d,blk? (c (.tmp a))=none:=fun a b=>by simpa using zBf.1 g a b
 refine ⟨fun a b f e=>?_,fun a b _ _ _ f e=>?_⟩<;>(rw [i a b] at e;cases e)
def aIV (b:Value) (w c:World):Prop:=∀a,blk? b=some a->w.heap.size<=a/\a < c.heap.size
def aAs (f:List Nat) (ops:Array Oper) (d:World->World->Prop) (c b:Nat) (g:Value) (w a:World):Prop:=w.heap.size<=a.heap.size/\(b=c->d w a)/\(b≠c->Grow w a)/\∀e∈f,((ops[b]?).bind (·.dst))=some e->aIV g w a
def dB {d:List Nat} {ops:Array Oper} {g:World->World->Prop} {c b:Nat} {o:Value} {w f:World} (e:Grow w f) (n:(b==c)=false) (m:(d.all fun a=>((ops[b]?).bind (·.dst))!= some a)=true):aAs d ops g c b o w f:=
 ⟨e.size,fun i=>by simp [i] at n,fun _=>e,fun a j k=>by have:=zBf.1 m a j;simp [k] at this⟩
def iS {i:List Nat} {ops:Array Oper} {f:World->World->Prop} {b d:Nat} {e:Value} {w a:World} (c:Grow w a) (k:(d==b)=false) (j:aIV e w a):aAs i ops f b d e w a:=
 ⟨c.size,fun g=>by simp [g] at k,fun _=>c,fun _ _ _=>j⟩
def aH5 {e:List Nat} {ops:Array Oper} {d:World->World->Prop} {a:Nat} {n:Value} {w c:World} (g:d w c) (m:w.heap.size<=c.heap.size) (k:(e.all fun b=>((ops[a]?).bind (·.dst))!= some b)=true):aAs e ops d a a n w c:=
 ⟨m,fun _=>g,fun f=>absurd rfl f,fun b i j=>by have:=zBf.1 k b i;simp [j] at this⟩
abbrev KP:=List Nat×((Operand->Value)->Value->World->Prop)
def k0 (a:Value->World->Prop):KP:=([],fun _ b w=>a b w)
def kEq (a:Nat):KP:=([a],fun b c _=>c=b (.tmp a))
def kLk (b c:Nat) (d:Value->Value->World->Prop):KP:=([b,c],fun a _ w=>d (a (.tmp b)) (a (.tmp c)) w)
def aDh (a:KP):Prop:=∀b c:Operand->Value,(∀d∈a.1,c (.tmp d)=b (.tmp d))->∀e w,a.2 b e w->a.2 c e w
def aEf (b:Value->World->Prop):aDh (k0 b):=fun _ _ _ _ _ a=>a
def aFd (a:Nat):aDh (kEq a):=fun f b d e w c=>by
 show e=b (.tmp a);rw [d a (by simp [kEq])];exact c
def aJE (a b:Nat) (e:Value->Value->World->Prop):aDh (kLk a b e):=fun g c d i w f=>by
 show e (c (.tmp a)) (c (.tmp b)) w;rw [d a (by simp [kLk]),d b (by simp [kLk])];exact f
def aEv (e:World->World->Prop) (b:KP):Prop:=∀a c w d,b.2 a c w->e w d->b.2 a c d
def iN {d:World->World->Prop} {c:Value->World->Prop} (e:∀a w b,c a w->d w b->c a b):aEv d (k0 c):=fun _ a w b f g=>e a w b f g
def uP (a:World->World->Prop) (b:Value):aEv a (k0 (is b)):=fun _ _ _ _ c _=>c
def aBW (a:World->World->Prop):aEv a (k0 dJ):=fun _ _ _ _ _ _=>trivial
def qG (a:World->World->Prop) (c:Nat):aEv a (kEq c):=fun _ _ _ _ b _=>b
def qF {c:World->World->Prop} {j k:Nat} {b:Value->Value->World->Prop} (f:∀d e w a,b d e w->c w a->b d e a):aEv c (kLk j k b):=fun _ _ w a g i=>f _ _ w a g i
def VsQ (l:List KP) (b:Nat) (a:Operand->Value) (c:Value) (w:World):Prop:=(l.getD b (k0 dJ)).2 a c w
def aEM (l:List KP) (a:Nat):l.getD a (k0 dJ)∈l∨l.getD a (k0 dJ)=k0 dJ:=by
 rw [zAb];cases b:l[a]? with
 | none=>exact .inr rfl
 | some c=>exact .inl (zAd b)
def vD {P:Program} {ops:Array Oper} {Q:Exit->Act->World->Prop} {md:Region.Mode} (J:List Nat) {fs:List Nat} (A:Nat) (B:World->World->Prop) {C:World->Prop} (l:List KP) {v:Act} {G:World} (q:ops.toList.filterMap (·.dst)=J) (T:jW md ops v.tmps.size=true) (af:((List.range ops.size).all fun a=>(List.range ops.size).all fun b=>match ops[b]? with
 | some d=>upB md ops ops.size a b||(l.getD a (k0 dJ)).1.all fun g=>d.dst != some g
 | none=>true)=true) (a4:C G) (a2:aDn fs v.eval G) (a3:∀w i,C w->(Grow w i∨B w i)->C i) (aa:∀F∈l,aDh F) (M:∀F∈l,aEv Grow F) (ai:∀F∈l.eraseIdx A,aEv B F) (aj:∀b d,ops[b]?=some d->uZ P ops Q md (fun c w=>C w/\aDn fs c w) (aAs fs ops B A) (fun _ _=>True) (VsQ l) v b d) (ac:∀(c:Operand->Value) w,C w->aDn fs c w->(∀a D,((ops[a]?).bind (·.dst))=some D->VsQ l a c (c (.tmp D)) w)->(∀a,a < ops.size->∃e,VsQ l a c e w)->Q .normal (cX c J v) w):
 wpAny P md ops Q ops.size (Array.replicate ops.size false) v G:=by
 have a8:∀ {b e w i},aAs fs ops B A b e w i->Grow w i∨B w i:=fun {b e w i} o=>by by_cases t:b=A;exact .inr (o.2.1 t);exact .inl (o.2.2.1 t)
 have ah:∀b,upB md ops ops.size b b=false:=by
  intro b;cases R:upB md ops ops.size b b with
  | false=>rfl
  | true=>exact (aDt T nL R).elim
 have ab:∀a,aDh (l.getD a (k0 dJ)):=fun a=>by rcases aEM l a with o | o;exact aa _ o;rw [o];exact aEf _
 have S:∀a b d (c n:Operand->Value) e w,a < ops.size->ops[b]?=some d->(∀g,d.dst≠some g->n (.tmp g)=c (.tmp g))->upB md ops ops.size a b=false->VsQ l a c e w->VsQ l a n e w:=by intro a b d c n e w y m p O z;have j:=zBf.1 (zBf.1 af a (by simpa using y)) b (by simpa using (zAh.1 m).1);simp only [m,O,Bool.false_or] at j;exact ab a c n (fun g I=>p g (by have:=zBf.1 j g I;simpa using this)) e w z
 refine aAw (ds:=J) (C:=(fun c w=>C w/\aDn fs c w)) (a0:=v) (W0:=G) (aAs fs ops B A) (fun _ _=>True) (fun a c e w=>a < ops.size->VsQ l a c e w) q T ⟨a4,a2⟩ (fun _=>trivial) (fun b d c n e w i m x p o E=>⟨a3 w i o.1 (a8 E),?_⟩) (fun _ _ _ _ _ _ _ _ _=>trivial) (fun b d c n e w m p z t=>S b b d c n e w t m p (ah b) (z t)) (fun a b d c n e am w i m p ad O z R E y=>?_) (fun b d m W w j k X Y Z a1 V a5=>aj b d m W w j k X Y Z (fun K p a9 ak D U x=>a1 K p a9 ak D U x (zAh.1 U).1) V (fun e i a6 a7=>a5 e i a6 fun _=>a7)) (fun c w o j k=>ac c w o.1 o.2 (fun a D x=>j a D x (by
  cases m:ops[a]? with
  | none=>rw [m] at x;cases x
  | some d=>exact (zAh.1 m).1)) (fun a y=>(k a y).imp fun e z=>z y))
 · have al:=E.1;obtain ⟨j,k⟩:=o.2;have N:∀f∈fs,d.dst=some f->aIV (n (.tmp f)) w i:=fun f u q=>by rw [x f q];exact E.2.2.2 f u (by rw [m];exact q)
   refine ⟨fun f u r s=>?_,fun f u g I M r s H=>?_⟩;by_cases q:d.dst=some f;exact (N f u q r s).2;rw [p f q] at s;have:=j f u r s;omega;by_cases q:d.dst=some f;have L:d.dst≠some g:=fun K=>M (by rw [q] at K;injection K);rw [p g L] at H;have:=(N f u q r s).1;have:=j g I r H;omega;rw [p f q] at s;by_cases L:d.dst=some g;have:=(N g I L r H).1;have:=j f u r s;omega;rw [p g L] at H;exact k f u g I M r s H
 · have j:=S a b d c n e w y m p O (z y);unfold VsQ at j⊢;by_cases t:b=A
   · subst t
     have ag:l.getD a (k0 dJ)∈l.eraseIdx b∨l.getD a (k0 dJ)=k0 dJ:=by
        rw [zAb];cases ae:l[a]? with
        | none=>exact .inr rfl
        | some F=>exact .inl (List.mem_eraseIdx_iff_getElem?.2 ⟨a,ad,ae⟩)
     rcases ag with k | k;exact ai _ k n e w i j (E.2.1 rfl)
     · rw [k];trivial
   · rcases aEM l a with k | k;exact M _ k n e w i j (E.2.2.1 t)
     · rw [k];trivial
end
section
open Go.RowKit
def aGz (d:World->World->Prop) (a:Value->World->Prop):Prop:=∀b w c,a b w->d w c->a b c
def gW (a:World->World->Prop) (b:Value):aGz a (is b):=fun _ _ _ c _=>c
def iZ (a:World->World->Prop):aGz a dJ:=fun _ _ _ _ _=>trivial
def cK {f:World->World->Prop} {l:List (Value->World->Prop)} (g:∀e∈l,aGz f e):∀b c w d,Vs l b c w->f w d->Vs l b c d:=by
 intro b c w d a i;unfold Vs at a⊢;rw [zAb] at a⊢;rcases hl:l[b]? with _ | e;rw [hl] at a;exact a;rw [hl] at a;exact g e (zAd hl) c w d a i
def iQ (l:List UInt8) (a b:Nat):(⟨l.toArray⟩:ByteArray).extract a b=⟨((l.drop a).take (b - a)).toArray⟩:=by
 apply ByteArray.ext;rw [ByteArray.data_extract];apply Array.ext';rw [Array.toList_extract]
def lM (l:List UInt8):(⟨l.toArray⟩:ByteArray).size=l.length:=by simp [ByteArray.size]
section
variable (l : List UInt8) (w : World)
def aFw (a:Nat) (b:a<=l.length):(Instr.slice 9 (.string ⟨l.toArray⟩) none (some (.int .i64 (a:Int))) none).run prog w=.ok (.string ⟨(l.take a).toArray⟩) w:=by
 rw [run_slice_string_h (P:=prog) (w:=w) 9 ⟨l.toArray⟩ underlying9 .i64 a oM (by rw [lM];omega)];rw [zBr,iQ];simp
end
end
section
def kY (c:Nat) {b a:Nat} (f:b<=a):aX c b<=aX c a:=by
 induction a with
 | zero=>obtain rfl:b=0:=oM
         exact zAs _
 | succ a e=>
   rw [dA];by_cases d:b<=a;have:=e d;omega;obtain rfl:b=a+1:=oM;rw [dA];exact zAs _
def aEX (b:Nat) {e:Nat}:∀ {a:Nat},e < aX b a->∃c,c < a/\b.testBit c=true/\aX b c=e
 | 0,h=>by rw [nZ] at h;omega
 | a+1,h=>by
   by_cases f:e < aX b a;obtain ⟨c,j,g,i⟩:=aEX b f;exact ⟨c,by omega,g,i⟩
   · rw [dA] at h;cases d:b.testBit a with
     | false=>rw [d] at h;simp at h;omega
     | true=>
       rw [d] at h;simp at h;exact ⟨a,by omega,d,by omega⟩
def aHT {c:Nat} {a b:Nat} (e:c.testBit a=true) (f:c.testBit b=true) (g:aX c a=aX c b):a=b:=by
 rcases Nat.lt_trichotomy a b with d | d | d;have:=kY c (show a+1<=b from d);rw [dA,e] at this;simp at this;omega;exact d;have:=kY c (show b+1<=a from d);rw [dA,f] at this;simp at this;omega
def aE4 {a:Nat} (e:0 < a) (d:a < 2 ^ 64):∃b,a=2 ^ Lib.ctz 64 a*(2*b+1)/\Lib.ctz 64 a < 64:=by
 obtain ⟨b,f,g⟩:=Lib.ctzFrom_spec 64 a e d;have c:Lib.ctz 64 a=Lib.ctzFrom 64 a:=by unfold Lib.ctz;rw [zBw oM]
 exact ⟨b,by rw [c];exact f,by rw [c];exact g⟩
def aAY (a c b:Nat):(2 ^ a*(2*c+1)).testBit b=if b < a then false else if b=a then true else c.testBit (b - a - 1):=by
 rw [Nat.mul_comm,Nat.testBit_mul_two_pow];by_cases f:b < a;rw [zBx f,zBy oM];rfl
 · rw [zBw f,zBz oM,Bool.true_and];by_cases d:b=a
   · rw [zBx d];subst d;rw [Nat.sub_self];simp [Nat.testBit_zero]
   · rw [zBw d];obtain ⟨e,g⟩:∃e,b - a=e+1:=⟨b - a - 1,by omega⟩;rw [g,Nat.testBit_succ];have:(2*c+1)/ 2=c:=oM;rw [this];congr 1
def aHJ (a c b:Nat):(2 ^ a*(2*c+1) - 1).testBit b=if b < a then true else if b=a then false else c.testBit (b - a - 1):=by
 have j:0 < 2 ^ a:=Nat.two_pow_pos a;have g:2 ^ a*(2*c+1) - 1=2 ^ a*(2*c)+(2 ^ a - 1):=by rw [Nat.mul_add,zBl];omega
 rw [g,Nat.testBit_two_pow_mul_add _ oM];by_cases d:b < a
 · rw [zBx d,zBx d,Nat.testBit_two_pow_sub_one,zBz d]
 · rw [zBw d,zBw d];by_cases e:b=a
   · rw [zBx e];subst e;rw [Nat.sub_self];simp [Nat.testBit_zero]
   · rw [zBw e];obtain ⟨f,i⟩:∃f,b - a=f+1:=⟨b - a - 1,by omega⟩;rw [i,Nat.testBit_succ];have:2*c / 2=c:=oM;rw [this];congr 1
def aGp {a:Nat} (g:0 < a) (f:a < 2 ^ 64) (b:Nat):(a&&&(a - 1)).testBit b=(a.testBit b&&decide (b≠Lib.ctz 64 a)):=by
 obtain ⟨j,e,i⟩:=aE4 g f;generalize Lib.ctz 64 a=k at e i;subst e;rw [Nat.testBit_and,aAY,aHJ];by_cases c:b < k
 · simp [c]
 · by_cases d:b=k
   · simp [d]
   · simp [c,d]
def aFj {a:Nat} (e:0 < a) (d:a < 2 ^ 64):a.testBit (Lib.ctz 64 a)=true/\∀b,b < Lib.ctz 64 a->a.testBit b=false:=by
 obtain ⟨i,c,f⟩:=aE4 e d;generalize Lib.ctz 64 a=k at c f⊢;subst c;refine ⟨?_,fun b g=>?_⟩
 · rw [aAY,zBw oM,zBx rfl]
 · rw [aAY,zBx g]
def clr (a:Nat):Nat->Nat
 | 0=>a
 | i+1=>clr a i&&&(clr a i - 1)
def aEl (b a:Nat):clr b a<=b:=by
 induction a with
 | zero=>exact zAs _
 | succ a c=>exact zAk Nat.and_le_left c
def aBe {a:Nat} (p:a < 2 ^ 64) {i:Nat} (n:a.testBit i=true):∀b,b<=aX a i->∀c,(clr a b).testBit c=(a.testBit c&&decide (b<=aX a c))
 | 0,_,c=>by simp [clr]
 | b+1,hi,c=>by
   have e:=aBe p n b oM;have o:(clr a b).testBit i=true:=(by rw [e,n,zBz oM];rfl);have j:0 < clr a b:=by
    rcases zBa (clr a b) with f | f
    · rw [f] at o;simp at o
    exact f
   have m:clr a b < 2 ^ 64:=Nat.lt_of_le_of_lt (aEl a b) p;obtain ⟨d,q⟩:=aFj j m;show (clr a b&&&(clr a b - 1)).testBit c=_;rw [aGp j m];generalize Lib.ctz 64 (clr a b)=k at d q;rw [e,zBd,zCa] at d;obtain ⟨d,A⟩:=d;have z:aX a k=b:=by
    by_cases g:b < aX a k
    · obtain ⟨x,r,s,t⟩:=aEX a g;have:=q x r;rw [e,s,t] at this;simp at this
    omega
   rw [e];cases v:a.testBit c with
   | false=>rfl
   | true=>
     rw [Bool.true_and,Bool.true_and,Bool.eq_iff_iff,zBd,zCa,zCa,zCa];constructor;rintro ⟨g,u⟩;by_cases y:aX a c=b;exact absurd (aHT v d oM) u;omega;intro g;refine ⟨by omega,?_⟩;rintro rfl;omega
def aFk {x:Nat} (e:x < 2 ^ 64) {b i:Nat} (d:x.testBit b=true) (c:i<=aX x b):0 < clr x i:=by
 have:=aBe e d i c b;rw [d,zBz c] at this;rcases zBa (clr x i) with a | a
 · rw [a] at this;simp at this
 exact a
def aJJ {x:Nat} (e:x < 2 ^ 64) {b a:Nat} (d:x.testBit b=true) (n:aX x b=a):Lib.ctz 64 (clr x a)=b:=by
 have j:=aFk e d (i:=a) oM;have k:clr x a < 2 ^ 64:=Nat.lt_of_le_of_lt (aEl x a) e;obtain ⟨g,m⟩:=aFj j k;have f:=aBe e d a oM;rcases Nat.lt_trichotomy (Lib.ctz 64 (clr x a)) b with c | c | c;rw [f,zBd,zCa] at g;have:=kY x (show Lib.ctz 64 (clr x a)+1<=b from c);rw [dA,g.1] at this;simp at this;omega;exact c
 · have:=m b c;rw [f,d,zBz oM] at this;simp at this
def eT (a:Nat) (b:Bool):Nat:=if b then a else 18446744073709551615 - a
def aBP {a:Nat} (b:Bool) (c:a < 18446744073709551616):eT a b < 18446744073709551616:=by
 unfold eT;split <;> omega
def kO {a:Nat} (c:Bool) (f:a < 18446744073709551616) {b:Nat} (e:b < 64):(eT a c).testBit b=(a.testBit b==c):=by
 unfold eT;cases c with
 | true=>simp
 | false=>
   have d:18446744073709551615 - a=2 ^ 64 -(a+1):=oM;simp only [Bool.false_eq_true,if_false];rw [d,Nat.testBit_two_pow_sub_succ oM,zBz e];cases a.testBit b <;> rfl
def lQ (d:Nat) (l:List Bool) (c:Bool):∀a,a<=l.length->(∀b,b < a->∀e,l[b]?=some e->d.testBit b=(e==c))->aX d a=(l.take a).count c
 | 0,_,_=>by simp [nZ]
 | a+1,hn,h=>by have f:l[a]?=some (l[a]' oM):=zAa oM;rw [dA,lQ d l c a oM (fun b g=>h b oM),zAv,f,zCc,h a oM _ f];simp [List.count_cons]
def aDs {l:List Bool} {a:Nat} (d:a < 64) {b:Bool} (c:l[a]?=some b):(w0 l).testBit a=b:=by
 unfold w0;rw [jC,zAb,zBs,zBx d,c];rfl
def aGV (l:List Bool) {q:Nat} {a:Bool} (b:l[64+q]?=some a):(w1 l).testBit q=a:=by
 unfold w1;rw [jC,zAb,zBt,b];rfl
def aKa {l:List Bool} {b:Bool} {a c:Nat} (n:l.length<=128) (i:l[a]?=some b) (k:(l.take a).count b=c) (d:a < 64):
 (eT (w0 l) b).testBit a=true/\aX (eT (w0 l) b) a=c/\c < aX (eT (w0 l) b) 64:=by
 have g:=mO l;have o:=(zAc.1 i).1;have e:(eT (w0 l) b).testBit a=true:=by rw [kO _ g d,aDs d i];simp
 have f:aX (eT (w0 l) b) a=c:=by rw [<-k];exact lQ _ l b a oM fun q p m j=>by rw [kO _ g oM,aDs oM j]
 refine ⟨e,f,?_⟩;have:=kY (eT (w0 l) b) (show a+1<=64 by omega);rw [dA,e,f] at this;simp at this;omega
def aKb {l:List Bool} {b:Bool} {a e:Nat} (r:l.length<=128) (m:l[a]?=some b) (u:(l.take a).count b=e) (t:64<=a):
 ∃g f,aX (eT (w0 l) b) 64=g/\g<=e/\e - g=f/\(eT (w1 l) b).testBit (a - 64)=true/\aX (eT (w1 l) b) (a - 64)=f/\f < aX (eT (w1 l) b) 64:=by
 have s:=mO l;have k:=mJ r;have v:=(zAc.1 m).1;have p:aX (eT (w0 l) b) 64=(l.take 64).count b:=lQ _ l b 64 oM fun n d o c=>by rw [kO _ s d,aDs d c]
 have x:(l.take a).count b=(l.take 64).count b+((l.drop 64).take (a - 64)).count b:=by
  have:l.take a=l.take 64++(l.drop 64).take (a - 64):=by rw [<-List.take_add];congr 1;omega
  rw [this,zCc]
 have i:(eT (w1 l) b).testBit (a - 64)=true:=by rw [kO _ k oM,aGV l (q:=a - 64) (by rw [show 64+(a - 64)=a by omega];exact m)];simp
 have j:aX (eT (w1 l) b) (a - 64)=((l.drop 64).take (a - 64)).count b:=
  lQ _ (l.drop 64) b (a - 64) (by rw [zAw];omega) fun n d o c=>by rw [zBt] at c;rw [kO _ k oM,aGV l c]
 refine ⟨_,_,p,by omega,rfl,i,by rw [j];omega,?_⟩;have:=kY (eT (w1 l) b) (show a - 64+1<=64 by omega);rw [dA,i,j] at this;simp at this;omega
structure Sp where
 kind:Int
 p:Int
 k:Int
 D:List UInt8
end
section
open Go.RowKit
def DataAt (w:World) (g:Nat) (e:Option Addr) (a b:Nat) (f:List UInt8):Prop:=
 f.length=a/\a<=b/\b<=maxLen/\((e=none/\a=0/\b=0)∨∃d c,e=some ⟨d,0,none⟩/\g<=d/\Bk w d 5 c/\a<=c.size/\c.toList.take a=f.map bv)
def DataAt.rd {w:World} {g:Nat} {c:Option Addr} {f i:Nat} {b:List UInt8} (k:DataAt w g c f i b):Rd w w.heap.size 1 c f (b.map bv):=by
 obtain ⟨d,o,p,⟨rfl,rfl,rfl⟩|⟨j,n,rfl,q,e,r,m⟩⟩:=k;obtain rfl:b= []:=zBk d;exact Rd.nil _ _ _ _
 · refine ⟨by simp [d],fun _=>⟨j,0,rfl,e.lt,fun s t a=>?_⟩⟩;rw [zBi,e.cell];rw [<-m,zBs] at a;split at a;simpa using a
   · cases a
def DataAt.of_own {w:World} {e:Nat} {d:Option Addr} {a f:Nat} {b:List UInt8} (g:w.ownsRow e 5 1 (.slice d a f) a (b.map bv)):DataAt w e d a f b:=by
 have j:b.length=a:=by simpa using g.1
 rcases g.2 with ⟨c,i⟩|⟨m,r,k,c,i,n,o,p,s,q⟩;cases c;exact ⟨j,zAs _,zAp _,.inl ⟨rfl,rfl,rfl⟩⟩;cases c;exact ⟨j,o,p,.inr ⟨m,k,rfl,i,n,by omega,by simpa using q⟩⟩
def DataAt.keep {w n:World} {c:Nat} {d:Option Addr} {m f:Nat} {e:List UInt8} (o:DataAt w c d m f e) (t:∀a b,c<=a->Bk w a 5 b->Bk n a 5 b):DataAt n c d m f e:=by
 obtain ⟨g,i,j,p |⟨a,b,rfl,k,q,r,s⟩⟩:=o;exact ⟨g,i,j,.inl p⟩;exact ⟨g,i,j,.inr ⟨a,b,rfl,k,t a b k q,r,s⟩⟩
def DataAt.below {w f:World} {B:Nat} {a:Option Addr} {e c:Nat} {b:List UInt8} (g:DataAt w B a e c b) (i:Below w.heap.size w f):DataAt f B a e c b:=g.keep fun k j _ d=>d.below i d.lt
def DataAt.mono {w:World} {B B':Nat} {a:Option Addr} {g c:Nat} {b:List UInt8} (k:DataAt w B a g c b) (r:B'<=B):DataAt w B' a g c b:=by
 obtain ⟨d,e,f,m |⟨j,i,rfl,q,n,o,p⟩⟩:=k;exact ⟨d,e,f,.inl m⟩;exact ⟨d,e,f,.inr ⟨j,i,rfl,by omega,n,o,p⟩⟩
def StpsAt (w:World) (b:Nat):List Value->List Sp->Prop
 | xs, []=>xs= []
 | xs,s::L=>∃a d c e,xs=.int .i64 s.kind::.int .i64 s.p::.int .i64 s.k::.slice a d c::e/\DataAt w b a d c s.D/\StpsAt w b e L
def StpsAt.keep {w j:World} {a:Nat} (i:∀b g,a<=b->Bk w b 5 g->Bk j b 5 g):∀ {f:List Sp} {k:List Value},StpsAt w a k f->StpsAt j a k f
 | [],_,d=>d
 | _::_,_,⟨A,n,c,ys,e,hd,d⟩=>⟨A,n,c,ys,e,hd.keep i,StpsAt.keep i d⟩
def StpsAt.below {w c:World} {B:Nat} {a:List Sp} {d:List Value} (e:StpsAt w B d a) (f:Below w.heap.size w c):StpsAt c B d a:=e.keep fun i g _ b=>b.below f b.lt
def StpsAt.grown {w e:World} {b g o n:Nat} {d:Value} {p:List Value} {c:List Sp} {f:List Value} (j:StpsAt w b f c) (m:w.ownsRow g 57 o d n p) (k:w.grownBy e d.ownBlock):StpsAt e b f c:=
 j.keep fun i q _ a=>(k.block i a.lt (aS m a dC)).trans a
def DataAt.grown {w i:World} {c j q p f e:Nat} {g:Value} {r:List Value} {b:Option Addr} {d:List UInt8} (m:DataAt w c b f e d) (o:w.ownsRow j 57 q g p r) (n:w.grownBy i g.ownBlock):DataAt i c b f e d:=
 m.keep fun k s _ a=>(n.block k a.lt (aS o a dC)).trans a
def DataAt.keepF {d:Nat->Prop} {w i:World} {a g f:Nat} {b:Option Addr} {c:List UInt8} (m:DataAt w a b g f c) (p:Keep d w i) (n:∀e,d e->e < a):DataAt i a b g f c:=
 m.keep fun k q r o=>p.bk o (fun j=>by have:=n k j;omega)
def qK {w:World} {b d:Nat} {e:TypeId} {a:Array Value} (c:Bk w b e a) (f:a.size=d):Rd w w.heap.size d (some ⟨b,0,none⟩) 1 a.toList:=by
 refine ⟨by simp [f],fun _=>⟨b,0,rfl,c.lt,fun i j g=>?_⟩⟩;rw [zBi,c.cell i];rw [<-g];simp
structure Shp where
 len:Int
 height:Int
 leaves:Int
 nodes:Int
def Shp.cells (a:Shp):List Value:= [iv a.len,iv a.height,iv a.leaves,iv a.nodes]
def Shp.val (a:Shp):Value:=.agg #[iv a.len,iv a.height,iv a.leaves,iv a.nodes]
def bN (l:List Shp):List Value:=l.flatMap Shp.cells
def Shp.zero:Shp:=⟨0,0,0,0⟩
def Shp.add (a b:Shp):Shp:=⟨a.len+b.len,max a.height b.height,a.leaves+b.leaves,a.nodes+b.nodes⟩
def eQ (l:List Shp):Shp:=l.foldl Shp.add Shp.zero
def Shp.small (a:Shp):Prop:=(-1099511627776<=a.len/\a.len<=1099511627776)/\(-1099511627776<=a.leaves/\a.leaves<=1099511627776)/\(-1099511627776<=a.nodes/\a.nodes<=1099511627776)
def dO (l:List Shp) (a c:Nat) (d:Shp) (b:l[a]?=some d) (g:c < 4):(bN l)[a*4+c]?=d.cells[c]?:=by
 induction l generalizing a with
 | nil=>simp at b
 | cons f l e=>
   rcases a with _ | a
   · simp at b;subst b;simp only [bN,List.flatMap_cons,Nat.zero_mul,zBi];rw [zAn (by simp [Shp.cells];omega)]
   simp only [zCf] at b;have:=e a b;simp only [bN,List.flatMap_cons] at this⊢;rw [zAo (by simp [Shp.cells];omega)];rw [<-this];congr 1;simp [Shp.cells];omega
def qI (l:List Shp):(bN l).length=l.length*4:=by
 induction l with
 | nil=>rfl
 | cons a l d=>
   have c:a.cells.length=4:=rfl;have b:bN (a::l)=a.cells++bN l:=(by simp [bN]);rw [b,zAi,d,c,zCg];omega
def tO {l:List Shp} {a:Nat} {c:Shp} (b:l[a]?=some c):eQ (l.take (a+1))=(eQ (l.take a)).add c:=by
 have d:a < l.length:=(zAc.1 b).1;rw [List.take_succ_eq_append_getElem d,(zAc.1 b).2];simp [eQ,List.foldl_append]
def aAB (l:List Shp) (e:∀d∈l,d.small):let b:=eQ l;(-1099511627776*(l.length:Int)<=b.len/\b.len<=1099511627776*(l.length:Int))/\(-1099511627776*(l.length:Int)<=b.leaves/\b.leaves<=1099511627776*(l.length:Int))/\(-1099511627776*(l.length:Int)<=b.nodes/\b.nodes<=1099511627776*(l.length:Int)):=by
 have m:∀(l:List Shp),(∀d∈l,d.small)->∀(c:Shp) (a:Int),(-1099511627776*a<=c.len/\c.len<=1099511627776*a)/\(-1099511627776*a<=c.leaves/\c.leaves<=1099511627776*a)/\(-1099511627776*a<=c.nodes/\c.nodes<=1099511627776*a)->
  let b:=l.foldl Shp.add c;(-1099511627776*(a+l.length)<=b.len/\b.len<=1099511627776*(a+l.length))/\(-1099511627776*(a+l.length)<=b.leaves/\b.leaves<=1099511627776*(a+l.length))/\(-1099511627776*(a+l.length)<=b.nodes/\b.nodes<=1099511627776*(a+l.length)):=by
  intro l
  induction l with
  | nil=>intro _ c a f;simpa using f
  | cons d l k=>
    intro e c a f;have i:=e d (List.mem_cons_self ..);unfold Shp.small at i;have:=k (fun d j=>e d (List.mem_cons_of_mem _ j)) (c.add d) (a+1) (by simp only [Shp.add];omega);simp only [zCq,zCg] at this⊢;have g:(a+1+(l.length:Int))=a+((l.length+1:Nat):Int):=oM;rw [g] at this;exact this
 have:=m l e Shp.zero 0 (by simp [Shp.zero]);simpa [eQ] using this
end
section
def qQ (b a:Nat) (c:Bool):Nat:=(b % 2 ^ a|||(if c then 2 ^ a else 0))|||(b&&&(18446744073709551615 - b % 2 ^ a))*2 % 18446744073709551616
def nH (a b:Nat) (c:Bool):Nat:=(a % 2 ^ b|||(a / 2&&&(18446744073709551615 - a / 2 % 2 ^ b)))|||(if c then 9223372036854775808 else 0)
def aEY {b:Nat} (a:Nat) (c:b < 18446744073709551616):(18446744073709551615 - b).testBit a=(decide (a < 64)&& !b.testBit a):=by
 have:=Nat.testBit_two_pow_sub_succ (n:=64) (x:=b) oM a;rw [<-this];congr 1;omega
def aH6 (c b a:Nat):(c % 2 ^ b).testBit a=(decide (a < b)&&c.testBit a):=Nat.testBit_mod_two_pow _ _ _
def aEV (b a:Nat):(2 ^ b).testBit a=decide (b=a):=Nat.testBit_two_pow
def aJI (b a:Nat):(b*2 % 18446744073709551616).testBit a=(decide (a < 64)&&(decide (0 < a)&&b.testBit (a - 1))):=by
 have c:(18446744073709551616:Nat)=2 ^ 64:=dC;rw [c,aH6];congr 1;rcases a with _ | a
 · simp
 · rw [Nat.testBit_succ,Nat.mul_div_cancel _ (by decide:0 < 2)];simp
def wH {a:Nat} (c:Nat) (b:a < 18446744073709551616):a % 2 ^ c < 18446744073709551616:=Nat.lt_of_le_of_lt (Nat.mod_le _ _) b
def aKp {b:Nat} (a:Nat) (d:b < 18446744073709551616) (c:64<=a):b.testBit a=false:=Nat.testBit_lt_two_pow (zAl d (zBp (n:=2) dC c))
def aAQ {c:Nat} (b a:Nat) (d:Bool) (p:c < 18446744073709551616) (r:b < 64):(qQ c b d).testBit a=if a < b then c.testBit a else if a=b then d else (decide (a < 64)&&c.testBit (a - 1)):=by
 unfold qQ;rw [Nat.testBit_or,Nat.testBit_or,aJI,Nat.testBit_and,aEY _ (wH b p),aH6,aH6];have o:(if d then 2 ^ b else 0:Nat).testBit a=(decide (b=a)&&d):=by
  cases d
  · simp
  · simp [aEV]
 rw [o];by_cases f:a < b
 · have e:decide (a - 1 < b)=true:=zBz oM;have g:decide (b=a)=false:=zBy oM;rw [zBx f,zBz f,e,g];cases s:c.testBit a <;> cases q:c.testBit (a - 1)<;> simp
 · rw [zBw f,zBy f];by_cases i:a=b
   · subst i;rw [zBx rfl];by_cases j:a=0
     · subst j;simp
     · have e:decide (a - 1 < a)=true:=zBz oM;rw [e];cases q:c.testBit (a - 1)<;> simp
   · have e:decide (a - 1 < b)=false:=zBy oM;have g:decide (b=a)=false:=zBy oM;have k:decide (0 < a)=true:=zBz oM;rw [zBw i,e,g,k];by_cases m:a < 64
     · have n:decide (a - 1 < 64)=true:=zBz oM;rw [n];simp
     · simp [m]
def aA9 {b:Nat} (d a:Nat) (c:Bool) (j:b < 18446744073709551616) (p:d < 64):(nH b d c).testBit a=if a < d then b.testBit a else if a < 63 then b.testBit (a+1) else (decide (a=63)&&c):=by
 unfold nH;have n:b / 2 < 18446744073709551616:=Nat.lt_of_le_of_lt (Nat.div_le_self _ _) j;have o:∀g,(b / 2).testBit g=b.testBit (g+1):=fun g=>by rw [Nat.testBit_succ]
 rw [Nat.testBit_or,Nat.testBit_or,Nat.testBit_and,aEY _ (wH d n),aH6,aH6,o];have m:(if c then 9223372036854775808 else 0:Nat).testBit a=(decide (a=63)&&c):=by
  cases c
  · simp
  rw [zBx rfl,show (9223372036854775808:Nat)=2 ^ 63 by decide,aEV,Bool.and_true];congr 1;exact propext eq_comm
 rw [m];by_cases e:a < d
 · have f:decide (a=63)=false:=zBy oM;rw [zBx e,zBz e,f];cases q:b.testBit a <;> cases r:b.testBit (a+1)<;> simp
 · rw [zBw e,zBy e];by_cases i:a < 63
   · have f:decide (a=63)=false:=zBy oM;have k:decide (a < 64)=true:=zBz oM;rw [zBx i,f,k];simp
   · rw [zBw i,aKp (a+1) j oM];simp
def iL (l:List Bool) (a:Nat):(w0 l).testBit a=(decide (a < 64)&&l.getD a false):=by unfold w0;rw [jC,aFy]
def gI (l:List Bool) (a:Nat):(w1 l).testBit a=l.getD (64+a) false:=by unfold w1;rw [jC,aGl]
def uV (l:List Bool) (a:Nat) (b:l.length<=a):l.getD a false=false:=by
 rw [zAb,zBg b];rfl
def aKd {l:List Bool} {k:Nat} (c:Bool) (f:k<=l.length) (i:l.length<=127) (g:k < 64):w0 (aP l k c)=qQ (w0 l) k c/\w1 (aP l k c)=qQ (w1 l) 0 (l.getD 63 false):=by
 constructor
 · refine Nat.eq_of_testBit_eq fun a=>?_;rw [aAQ _ _ _ (mO l) g,iL,iL,iL,oE c f];by_cases e:a < k
   · rw [zBx e,zBx e]
   · rw [zBw e,zBw e];by_cases b:a=k
     · rw [zBx b,zBx b,zBz oM,Bool.true_and]
     · rw [zBw b,zBw b];by_cases d:a < 64
       · rw [zBz d,zBz (show a - 1 < 64 by omega),Bool.true_and,Bool.true_and]
       · rw [zBy d,Bool.false_and,Bool.false_and]
 · refine Nat.eq_of_testBit_eq fun a=>?_;rw [aAQ _ _ _ (mJ (l:=l) oM) dC,gI,gI,oE c f,zBw oM,zBw oM,zBw oM];by_cases b:a=0
   · subst b;rw [zBx rfl]
   · rw [zBw b,show 64+a - 1=64+(a - 1) by omega,gI];by_cases d:a < 64
     · rw [zBz d,Bool.true_and]
     rw [zBy d,Bool.false_and];exact uV l _ oM
def aKe {l:List Bool} {k:Nat} (b:Bool) (f:k<=l.length) (i:l.length<=127) (g:64<=k):w0 (aP l k b)=w0 l/\w1 (aP l k b)=qQ (w1 l) (k - 64) b:=by
 constructor
 · refine Nat.eq_of_testBit_eq fun a=>?_;rw [iL,iL,oE b f];by_cases c:a < 64
   · rw [zBz c,zBx oM]
   · rw [zBy c,Bool.false_and,Bool.false_and]
 · refine Nat.eq_of_testBit_eq fun a=>?_;rw [aAQ _ _ _ (mJ (l:=l) oM) oM,gI,gI,gI,oE b f];by_cases d:a < k - 64
   · rw [zBx oM,zBx d]
   · rw [zBw oM,zBw d];by_cases e:a=k - 64
     · rw [zBx oM,zBx e]
     · rw [zBw oM,zBw e,show 64+a - 1=64+(a - 1) by omega];by_cases c:a < 64
       · rw [zBz c,Bool.true_and]
       rw [zBy c,Bool.false_and];exact uV l _ oM
def aKy {l:List Bool} {k:Nat} (e:k < l.length) (g:l.length<=128) (f:k < 64):w0 (aG l k)=nH (w0 l) k (l.getD 64 false)/\w1 (aG l k)=nH (w1 l) 0 false:=by
 constructor
 · refine Nat.eq_of_testBit_eq fun a=>?_;rw [aA9 _ _ _ (mO l) f,iL,iL,iL,oJ e];by_cases c:a < k
   · rw [zBx c,zBx c]
   · rw [zBw c,zBw c];by_cases b:a < 63
     · rw [zBx b,zBz (show a < 64 by omega),zBz (show a+1 < 64 by omega)]
     · rw [zBw b];by_cases d:a=63;subst d;rfl
       · rw [zBy d,zBy (show ¬a < 64 by omega),Bool.false_and,Bool.false_and]
 · refine Nat.eq_of_testBit_eq fun a=>?_;rw [aA9 _ _ _ (mJ g) dC,gI,gI,oJ e,zBw oM,zBw oM,Bool.and_false];by_cases b:a < 63
   · rw [zBx b,show 64+a+1=64+(a+1) by omega,gI]
   rw [zBw b];exact uV l _ oM
def cut_hi {l:List Bool} {k:Nat} (e:k < l.length) (f:l.length<=128) (g:64<=k):w0 (aG l k)=w0 l/\w1 (aG l k)=nH (w1 l) (k - 64) false:=by
 constructor
 · refine Nat.eq_of_testBit_eq fun a=>?_;rw [iL,iL,oJ e];by_cases d:a < 64
   · rw [zBz d,zBx oM]
   · rw [zBy d,Bool.false_and,Bool.false_and]
 · refine Nat.eq_of_testBit_eq fun a=>?_;rw [aA9 _ _ _ (mJ f) oM,gI,gI,gI,oJ e,Bool.and_false];by_cases b:a < k - 64
   · rw [zBx oM,zBx b]
   · rw [zBw oM,zBw b,show 64+a+1=64+(a+1) by omega];by_cases c:a < 63
     · rw [zBx c]
     rw [zBw c];exact uV l _ oM
def aIZ {a:Nat} (b:a < 18446744073709551616):decide (a / 9223372036854775808=1)=a.testBit 63:=by
 rw [Nat.testBit_eq_decide_div_mod_eq];have:a / 2 ^ 63 % 2=a / 9223372036854775808:=by rw [show (2:Nat)^ 63=9223372036854775808 by decide];omega
 rw [this]
end
section
open Go.RowKit
def aCI {b a:Nat} (e:b < 18446744073709551616) (f:a < 18446744073709551616):bits .andNot .u64 (b:Int) (a:Int)=((b&&&(18446744073709551615 - a):Nat):Int):=by
 have c:b % 2 ^ 64=b:=zBu oM;have d:a % 2 ^ 64=a:=zBu oM;have g:b&&&(18446744073709551615 - a) < 2 ^ 64:=Nat.and_lt_two_pow _ oM;show IntKind.u64.wrap (((BitVec.ofInt 64 (b:Int)&&& ~~~ BitVec.ofInt 64 (a:Int)).toNat:Nat):Int)=_;rw [BitVec.ofInt_natCast,BitVec.ofInt_natCast,BitVec.toNat_and,BitVec.toNat_not,BitVec.toNat_ofNat,BitVec.toNat_ofNat,c,d,IntKind.wrap_u64,show 2 ^ 64 - 1 - a=18446744073709551615 - a by omega];omega
def aEW {a b:Nat} (c:a < 18446744073709551616) (d:b < 18446744073709551616):a||| b < 18446744073709551616:=Nat.or_lt_two_pow (n:=64) c d
def aCJ (a:Nat) {b:Nat} (c:b < 18446744073709551616):a&&& b < 18446744073709551616:=Nat.and_lt_two_pow (n:=64) a c
def aD2 (b:Nat) {a:Nat} (c:a < 64):aAZ b (a:Int)=b % 2 ^ a:=by
 unfold aAZ;rw [show min ((a:Int)).toNat 64=a by omega]
def aIW {x k:Nat} (d:Bool) (m:x < 18446744073709551616) (y:k < 64) (w:World):
 Calls prog 311 #[.int .u64 (x:Int),(k:Int),.bool d] w fun s H=>s=.returned (.tuple #[.int .u64 ((qQ x k d:Nat):Int),.bool (x.testBit 63)])/\w=H:=by
 have z:=aD2 x y;obtain ⟨b,f⟩:=eqx (x % 2 ^ k);have o:b < 18446744073709551616:=by rw [<-f];exact wH k m
 obtain ⟨e,j⟩:=eqx (2 ^ k);have R:e < 18446744073709551616:=by rw [<-j];exact Nat.pow_lt_pow_right (a:=2) dC (show k < 64 from y)
 have O:(2:Int)^ k=(e:Int):=by rw [<-j];push_cast;rfl
 obtain ⟨r,c⟩:=eqx ((if d then e else 0:Nat));have u:r < 18446744073709551616:=by rw [<-c];split <;> omega
 have I:IntKind.u64.wrap (e:Int)=(e:Int):=by rw [IntKind.wrap_u64];omega
 have t:=aF2 b o u;obtain ⟨n,g⟩:=eqx (b||| r);have F:n < 18446744073709551616:=by rw [<-g];exact aEW o u
 have D:=aCI m o;obtain ⟨p,i⟩:=eqx (x&&&(18446744073709551615 - b));have N:p < 18446744073709551616:=by rw [<-i];exact aCJ _ oM
 obtain ⟨q,A⟩:=eqx (p*2 % 18446744073709551616);have G:q < 18446744073709551616:=oM;have K:IntKind.u64.wrap ((p:Int)*2)=(q:Int):=by rw [IntKind.wrap_u64];omega
 have E:=aF2 n F G;have v:qQ x k d=n||| q:=by unfold qQ;rw [f,j,c,g,i,A]
 have B:((x:Int)/ 9223372036854775808==1)=x.testBit 63:=by rw [<-aIZ m,Bool.eq_iff_iff,zCr,zCa];omega
 rw [g] at t;rw [i] at D;rw [v,<-B];have L:decide ((k:Int) < 0)=false:=by simp
 have M:¬((k:Int)>=64):=oM;have C:=lhd (z.trans f);clear v B z f j g i A;go_enter func311,ntmps311;go_wp2_with fail;refine (qY (k:Int) m oM _).mono ?_;rintro s w1 ⟨rfl,rfl⟩;rw [C.out];cases d with
 | true=>
   rw [zBx rfl] at c;subst c;go_wp2_with fail;go_ret2;exact ⟨rfl,rfl⟩
 | false=>
   rw [zBw (by simp)] at c;subst c;have J:bits .or .u64 (b:Int) 0=(n:Int):=t;go_wp2_with fail;go_ret2;exact ⟨by rw [<-E];rfl,rfl⟩
def aDl {x:Nat} (a:Nat) (f:Bool) (r:x < 18446744073709551616) (D:a < 64) (w:World):
 Calls prog 302 #[.int .u64 (x:Int),(a:Int),.bool f] w fun g S=>g=.returned (.tuple #[.int .u64 ((nH x a f:Nat):Int),.bool (x.testBit a)])/\w=S:=by
 have E:=aD2 x D;have p:=aD2 (x / 2) D;obtain ⟨o,i⟩:=eqx (x % 2 ^ a);have A:o < 18446744073709551616:=by rw [<-i];exact wH a r
 have R:x / 2 < 18446744073709551616:=oM;obtain ⟨v,d⟩:=eqx (x / 2 % 2 ^ a);have M:v < 18446744073709551616:=by rw [<-d];exact wH a R
 obtain ⟨t,n⟩:=eqx (x / 2);have a0:(x:Int)/ 2=(t:Int):=oM;have s:t < 18446744073709551616:=oM;obtain ⟨y,e⟩:=eqx ((if f then 9223372036854775808 else 0:Nat));have N:y < 18446744073709551616:=by rw [<-e];split <;> omega
 have J:=aCI s M;obtain ⟨G,m⟩:=eqx (t&&&(18446744073709551615 - v));have F:G < 18446744073709551616:=by rw [<-m];exact aCJ _ oM
 have I:=aF2 o A F;obtain ⟨c,k⟩:=eqx (o||| G);have O:c < 18446744073709551616:=by rw [<-k];exact aEW A F
 have z:=aF2 c O N;have C:nH x a f=c||| y:=by unfold nH;rw [i,n,e];rw [n] at d;rw [d,m,k]
 obtain ⟨b,j⟩:=eqx (x / 2 ^ a);have W:(x:Int)/ 2 ^ a=(b:Int):=by rw [<-j];push_cast;rfl
 have X:b < 18446744073709551616:=by rw [<-j];exact Nat.lt_of_le_of_lt (Nat.div_le_self _ _) r
 have L:bits .and .u64 (b:Int) 1=((b&&& 1:Nat):Int):=(bits_nat .u64 64 dC (fun a1 U V=>by rw [IntKind.wrap_u64];omega) b 1 oM dC).1;have q:(((b&&& 1:Nat):Int)==1)=x.testBit a:=by rw [Nat.testBit_eq_decide_div_mod_eq,j,Nat.and_one_is_mod,Bool.eq_iff_iff,zCr,zCa];omega
 obtain ⟨T,B⟩:=eqx (b&&& 1);rw [B] at L q;rw [k] at I;rw [m] at J;rw [C,<-q];have Y:decide ((a:Int) < 0)=false:=by simp
 have Z:¬((a:Int)>=64):=oM;rw [n] at p d;obtain ⟨H,u⟩:=hqq2 (E.trans i) (p.trans d);clear C q E p i d n k m j B;go_enter func302,ntmps302;go_wp2_with fail;refine (qY (a:Int) r oM _).mono ?_;rintro g w1 ⟨rfl,rfl⟩;rw [H.out];cases f with
 | true=>
   rw [zBx rfl] at e;subst e;have K:bits .or .u64 (c:Int) 9223372036854775808=((c||| 9223372036854775808:Nat):Int):=z;go_wp2_with fail;refine (qY (a:Int) s oM _).mono ?_;rintro g w1 ⟨rfl,rfl⟩;rw [u.out];go_wp2_with fail;go_ret2;exact ⟨rfl,rfl⟩
 | false=>
   rw [zBw (by simp)] at e;subst e;have K:bits .or .u64 (c:Int) 0=((c||| 0:Nat):Int):=z;go_wp2_with fail;refine (qY (a:Int) s oM _).mono ?_;rintro g w1 ⟨rfl,rfl⟩;rw [u.out];go_wp2_with fail;go_ret2;exact ⟨by rw [Nat.or_zero];rfl,rfl⟩
def aJQ {C:Option Addr} {e:Nat} (M:Nat) {l:List Shp} {D:Nat} {w:World} (z:Rd w D 4 C e (bN l)) (a5:D<=w.heap.size) (H:∀b∈l,b.small) (ap:e<=65536):
 Calls prog 45 #[.slice C e M] w fun V a8=>V=.returned (eQ l).val/\Below w.heap.size w a8:=by
 have F:l.length=e:=by have:=z.1;rw [qI] at this;omega
 obtain ⟨u,K,E⟩:=hqq3 F (z.mono a5) H;clear z H F;go_enter func45,ntmps45;go_wp2;go_loopw [8] (fun g wr=>∃a:Nat,a<=e/\g=.int .i64 a/\Bk wr w.heap.size 89 (Shp.zero.cells).toArray/\Bk wr (w.heap.size+1) 89 ((eQ (l.take a)).cells).toArray/\Below w.heap.size w wr) (fun g _=>e -(intOf g).toNat)
 case atStart=>refine ⟨0,zAp _,rfl,?_,?_,(bR.alloc nL _).alloc (by simp) _⟩;exact (Bk.new w _ _).alloc _;have:=Bk.new (w.alloc (.cells #[.int .i64 0,.int .i64 0,.int .i64 0,.int .i64 0] 89)) 89 #[.int .i64 0,.int .i64 0,.int .i64 0,.int .i64 0];rw [World.size_alloc] at this;exact this
 case round=>
  obtain ⟨a,al,rfl,d,c,n⟩:=hrel;have aq:=n.size;have ao:=c.lt;by_cases am:a < e
  · obtain ⟨b,f⟩:∃b,l[a]?=some b:=⟨l[a]'(by have:=u.out;omega),zAa (by have:=u.out;omega)⟩;obtain ⟨m,r,rfl,aj,i⟩:=(K.out.below n).2 oM;have a9:wr.cell? ⟨m,r+a*4,none⟩=some (.int .i64 b.len):=i (a*4+0) _ ((dO l a 0 b f oM).trans rfl);have aa:wr.cell? ⟨m,r+a*4+1,none⟩=some (.int .i64 b.height):=(by rw [Nat.add_assoc];exact i (a*4+1) _ ((dO l a 1 b f oM).trans rfl));have ab:wr.cell? ⟨m,r+a*4+2,none⟩=some (.int .i64 b.leaves):=(by rw [Nat.add_assoc];exact i (a*4+2) _ ((dO l a 2 b f oM).trans rfl));have ac:wr.cell? ⟨m,r+a*4+3,none⟩=some (.int .i64 b.nodes):=(by rw [Nat.add_assoc];exact i (a*4+3) _ ((dO l a 3 b f oM).trans rfl));have I:=E.out b (zAd f);have y:=aAB (l.take a) (fun b a7=>E.out b (List.mem_of_mem_take a7));have k:(l.take a).length<=65536:=(by rw [zAj];omega);unfold Shp.small at I;simp only at y;generalize (l.take a).length=q at y k;generalize j:eQ (l.take a)=t at*
    obtain ⟨⟨ar,au⟩,⟨av,aw⟩,ax,ay⟩:=I;obtain ⟨⟨N,O⟩,⟨R,S⟩,T,U⟩:=y;have ad:-72057594037927936<=t.len:=oM;have ae:t.len<=72057594037927936:=oM;have af:-72057594037927936<=t.leaves:=oM;have ag:t.leaves<=72057594037927936:=oM;have ah:-72057594037927936<=t.nodes:=oM;have ai:t.nodes<=72057594037927936:=oM;clear N O R S T U k;have a0:wr.cell? ⟨w.heap.size+1,0,none⟩=some (.int .i64 t.len):=c.cell 0;have a1:wr.cell? ⟨w.heap.size+1,1,none⟩=some (.int .i64 t.height):=c.cell 1;have a2:wr.cell? ⟨w.heap.size+1,2,none⟩=some (.int .i64 t.leaves):=c.cell 2;have a3:wr.cell? ⟨w.heap.size+1,3,none⟩=some (.int .i64 t.nodes):=c.cell 3;have W:=c.frozen 0;have X:=c.frozen 1;have Y:=c.frozen 2;have Z:=c.frozen 3;obtain ⟨s,J,L,v⟩:=hqq4 d c f j;clear f i d c j;go_wp2;have A:=(((J.out.set 0 (.int .i64 (t.len+b.len))).set 2 (.int .i64 (t.leaves+b.leaves))).set 3 (.int .i64 (t.nodes+b.nodes))).set 1 (.int .i64 (if t.height < b.height then b.height else t.height));have o:∀g B (x:World),Bk x w.heap.size 89 (Shp.zero.cells).toArray->Bk (x.setCell ⟨w.heap.size+1,g,none⟩ B) w.heap.size 89 (Shp.zero.cells).toArray:=fun g B x a4=>a4.far (p:=⟨w.heap.size+1,g,none⟩) (by simp) B;refine ⟨⟨a+1,by omega,by go_num,(o _ _ _ (o _ _ _ (o _ _ _ (o _ _ _ s.out)))).alloc _,?_,?_⟩,by simp [intOf];omega⟩
    · rw [tO L.out,v.out];have:=A.alloc (.cells #[Value.int IntKind.i64 b.len,Value.int IntKind.i64 b.height,Value.int IntKind.i64 b.leaves,Value.int IntKind.i64 b.nodes] 89);have G:(if t.height < b.height then b.height else t.height)=max t.height b.height:=(by split <;> omega);rw [G] at this
      first |(rw [G];exact this)| exact this
    exact ((((n.setCell (p:=⟨w.heap.size+1,0,none⟩) (by simp) _).setCell (p:=⟨w.heap.size+1,2,none⟩) (by simp) _).setCell (p:=⟨w.heap.size+1,3,none⟩) (by simp) _).setCell (p:=⟨w.heap.size+1,1,none⟩) (by simp) _).alloc (by simp [World.setCell];omega) _
  · have a6:a=e:=oM;have k:l.take a=l:=zAg (by have:=u.out;omega);rw [k] at c;generalize j:eQ l=t at*
    have a0:wr.cell? ⟨w.heap.size+1,0,none⟩=some (.int .i64 t.len):=c.cell 0;have a1:wr.cell? ⟨w.heap.size+1,1,none⟩=some (.int .i64 t.height):=c.cell 1;have a2:wr.cell? ⟨w.heap.size+1,2,none⟩=some (.int .i64 t.leaves):=c.cell 2;have a3:wr.cell? ⟨w.heap.size+1,3,none⟩=some (.int .i64 t.nodes):=c.cell 3;have az:wr.cell? w.heap.size=some (.int .i64 0):=d.cell 0;have aA:wr.cell? ⟨w.heap.size,1,none⟩=some (.int .i64 0):=d.cell 1;have aB:wr.cell? ⟨w.heap.size,2,none⟩=some (.int .i64 0):=d.cell 2;have aC:wr.cell? ⟨w.heap.size,3,none⟩=some (.int .i64 0):=d.cell 3;have W:=d.frozen 0;have X:=d.frozen 1;have Y:=d.frozen 2;have Z:=d.frozen 3;have an:=d.lt;have ak:e<=a:=oM;obtain ⟨s,v⟩:=hqq2 d j;clear d c k j a6;go_wp2;have A:=(((s.out.set 0 (.int .i64 t.len)).set 1 (.int .i64 t.height)).set 2 (.int .i64 t.leaves)).set 3 (.int .i64 t.nodes);refine bodyPost_ret (results_cell_row rfl _ _ w.heap.size 89 #[.int .i64 t.len,.int .i64 t.height,.int .i64 t.leaves,.int .i64 t.nodes] (0,0) _ rfl A underlying89 rfl kR) rfl ⟨by rw [v.out];rfl,?_⟩;exact (((n.setCell (p:=w.heap.size) (by simp) _).setCell (p:=⟨w.heap.size,1,none⟩) (by simp) _).setCell (p:=⟨w.heap.size,2,none⟩) (by simp) _).setCell (p:=⟨w.heap.size,3,none⟩) (by simp) _
def aKH {c:Option Addr} {b:Nat} (e:Nat) {l:List Shp} {d:Nat} {w:World} (a:Shp) (g:eQ l=a) (k:Rd w d 4 c b (bN l)) (i:d<=w.heap.size) (m:∀n∈l,n.small) (j:b<=65536):
 Calls prog 45 #[.slice c b e] w fun f o=>f=.returned (.agg #[.int .i64 a.len,.int .i64 a.height,.int .i64 a.leaves,.int .i64 a.nodes])/\Below w.heap.size w o:=by
 subst g;exact aJQ e k i m j
end
end Go.Proofs.YtcoooelofcejbaaGreatDoor
