/- Lemmas of the walk. Conditions: each its own. -/
import Derived.Test.YthldmddkfbijhaaGreatDoorPsl0
import Derived.Test.YthldmddkfbijhaaGreatDoorProg
set_option linter.all false
set_option maxRecDepth 100000
set_option maxHeartbeats 2000000
namespace Go.Proofs.YthldmddkfbijhaaGreatDoor
open Tryz
section
def kW (c:Nat) {b a:Nat} (f:b<=a):bJ c b<=bJ c a:=by
 induction a with
 | zero=>obtain rfl:b=0:=oM
         exact zAs _
 | succ a e=>
   rw [dP];by_cases d:b<=a;have:=e d;omega;obtain rfl:b=a+1:=oM;rw [dP];exact zAs _
def aFj (b:Nat) {e:Nat}:∀ {a:Nat},e < bJ b a->∃c,c < a/\b.testBit c=true/\bJ b c=e
 | 0,h=>by rw [nX] at h;omega
 | a+1,h=>by
   by_cases f:e < bJ b a;obtain ⟨c,j,g,i⟩:=aFj b f;exact ⟨c,by omega,g,i⟩
   · rw [dP] at h;cases d:b.testBit a with
     | false=>rw [d] at h;simp at h;omega
     | true=>
       rw [d] at h;simp at h;exact ⟨a,by omega,d,by omega⟩
def aHT (c:Nat) {a b:Nat} (e:c.testBit a=true) (f:c.testBit b=true) (g:bJ c a=bJ c b):a=b:=by
 rcases Nat.lt_trichotomy a b with d | d | d;have:=kW c (show a+1<=b from d);rw [dP,e] at this;simp at this;omega;exact d;have:=kW c (show b+1<=a from d);rw [dP,f] at this;simp at this;omega
def aFs {a:Nat} (e:0 < a) (d:a < 2 ^ 64):∃b,a=2 ^ Lib.ctz 64 a*(2*b+1)/\Lib.ctz 64 a < 64:=by
 obtain ⟨b,f,g⟩:=Lib.ctzFrom_spec 64 a e d;have c:Lib.ctz 64 a=Lib.ctzFrom 64 a:=by unfold Lib.ctz;rw [zBw oM]
 exact ⟨b,by rw [c];exact f,by rw [c];exact g⟩
def aA2 (a c b:Nat):(2 ^ a*(2*c+1)).testBit b=if b < a then false else if b=a then true else c.testBit (b - a - 1):=by
 rw [Nat.mul_comm,Nat.testBit_mul_two_pow];by_cases f:b < a;rw [zBx f,zBy oM];rfl
 · rw [zBw f,zBz oM,Bool.true_and];by_cases d:b=a
   · rw [zBx d];subst d;rw [Nat.sub_self];simp [Nat.testBit_zero]
   · rw [zBw d];obtain ⟨e,g⟩:∃e,b - a=e+1:=⟨b - a - 1,by omega⟩;rw [g,Nat.testBit_succ];have:(2*c+1)/ 2=c:=oM;rw [this];congr 1
def aHK (a c b:Nat):(2 ^ a*(2*c+1) - 1).testBit b=if b < a then true else if b=a then false else c.testBit (b - a - 1):=by
 have j:0 < 2 ^ a:=Nat.two_pow_pos a;have g:2 ^ a*(2*c+1) - 1=2 ^ a*(2*c)+(2 ^ a - 1):=by rw [Nat.mul_add,zBl];omega
 rw [g,Nat.testBit_two_pow_mul_add _ oM];by_cases d:b < a
 · rw [zBx d,zBx d,Nat.testBit_two_pow_sub_one,zBz d]
 · rw [zBw d,zBw d];by_cases e:b=a
   · rw [zBx e];subst e;rw [Nat.sub_self];simp [Nat.testBit_zero]
   · rw [zBw e];obtain ⟨f,i⟩:∃f,b - a=f+1:=⟨b - a - 1,by omega⟩;rw [i,Nat.testBit_succ];have:2*c / 2=c:=oM;rw [this];congr 1
def aGz {a:Nat} (g:0 < a) (f:a < 2 ^ 64) (b:Nat):(a&&&(a - 1)).testBit b=(a.testBit b&&decide (b≠Lib.ctz 64 a)):=by
 obtain ⟨j,e,i⟩:=aFs g f;generalize Lib.ctz 64 a=k at e i;subst e;rw [Nat.testBit_and,aA2,aHK];by_cases c:b < k
 · simp [c]
 · by_cases d:b=k
   · simp [d]
   · simp [c,d]
def aFz {a:Nat} (e:0 < a) (d:a < 2 ^ 64):a.testBit (Lib.ctz 64 a)=true/\∀b,b < Lib.ctz 64 a->a.testBit b=false:=by
 obtain ⟨i,c,f⟩:=aFs e d;generalize Lib.ctz 64 a=k at c f⊢;subst c;refine ⟨?_,fun b g=>?_⟩
 · rw [aA2,zBw oM,zBx rfl]
 · rw [aA2,zBx g]
def clr (a:Nat):Nat->Nat
 | 0=>a
 | i+1=>clr a i&&&(clr a i - 1)
def aEI (b a:Nat):clr b a<=b:=by
 induction a with
 | zero=>exact zAs _
 | succ a c=>exact zAk Nat.and_le_left c
def aBi {a:Nat} (o:a < 2 ^ 64) {i:Nat} (m:a.testBit i=true):∀b,b<=bJ a i->∀c,(clr a b).testBit c=(a.testBit c&&decide (b<=bJ a c))
 | 0,_,c=>by simp [clr]
 | b+1,hi,c=>by
   have e:=aBi o m b oM;have n:(clr a b).testBit i=true:=(by rw [e,m,zBz oM];rfl);have j:0 < clr a b:=by
    rcases zBa (clr a b) with f | f
    · rw [f] at n;simp at n
    exact f
   have l:clr a b < 2 ^ 64:=Nat.lt_of_le_of_lt (aEI a b) o;obtain ⟨d,p⟩:=aFz j l;show (clr a b&&&(clr a b - 1)).testBit c=_;rw [aGz j l];generalize Lib.ctz 64 (clr a b)=k at d p;rw [e,zBd,zCa] at d;obtain ⟨d,y⟩:=d;have x:bJ a k=b:=by
    by_cases g:b < bJ a k
    · obtain ⟨v,q,r,s⟩:=aFj a g;have:=p v q;rw [e,r,s] at this;simp at this
    omega
   rw [e];cases u:a.testBit c with
   | false=>rfl
   | true=>
     rw [Bool.true_and,Bool.true_and,Bool.eq_iff_iff,zBd,zCa,zCa,zCa];constructor;rintro ⟨g,t⟩;by_cases w:bJ a c=b;exact absurd (aHT a u d oM) t;omega;intro g;refine ⟨by omega,?_⟩;rintro rfl;omega
def aFB {x:Nat} (e:x < 2 ^ 64) {b i:Nat} (d:x.testBit b=true) (c:i<=bJ x b):0 < clr x i:=by
 have:=aBi e d i c b;rw [d,zBz c] at this;rcases zBa (clr x i) with a | a
 · rw [a] at this;simp at this
 exact a
def aJu {x:Nat} (e:x < 2 ^ 64) {b a:Nat} (d:x.testBit b=true) (m:bJ x b=a):Lib.ctz 64 (clr x a)=b:=by
 have j:=aFB e d (i:=a) oM;have k:clr x a < 2 ^ 64:=Nat.lt_of_le_of_lt (aEI x a) e;obtain ⟨g,l⟩:=aFz j k;have f:=aBi e d a oM;rcases Nat.lt_trichotomy (Lib.ctz 64 (clr x a)) b with c | c | c;rw [f,zBd,zCa] at g;have:=kW x (show Lib.ctz 64 (clr x a)+1<=b from c);rw [dP,g.1] at this;simp at this;omega;exact c
 · have:=l b c;rw [f,d,zBz oM] at this;simp at this
def fI (a:Nat) (b:Bool):Nat:=if b then a else 18446744073709551615 - a
def aB0 (a:Nat) (b:Bool) (c:a < 18446744073709551616):fI a b < 18446744073709551616:=by
 unfold fI;split <;> omega
def kO (a:Nat) (c:Bool) (f:a < 18446744073709551616) {b:Nat} (e:b < 64):(fI a c).testBit b=(a.testBit b==c):=by
 unfold fI;cases c with
 | true=>simp
 | false=>
   have d:18446744073709551615 - a=2 ^ 64 -(a+1):=oM;simp only [Bool.false_eq_true,if_false];rw [d,Nat.testBit_two_pow_sub_succ oM,zBz e];cases a.testBit b <;> rfl
def lN (e:Nat) (b:List Bool) (d:Bool):∀a,a<=b.length->(∀c,c < a->∀f,b[c]?=some f->e.testBit c=(f==d))->bJ e a=(b.take a).count d
 | 0,_,_=>by simp [nX]
 | a+1,hn,h=>by have g:b[a]?=some (b[a]' oM):=zAa oM;rw [dP,lN e b d a oM (fun c i=>h c oM),zAv,g,zCc,h a oM _ g];simp [List.count_cons]
def aDL (c:List Bool) {a:Nat} (e:a < 64) {b:Bool} (d:c[a]?=some b):(w0 c).testBit a=b:=by
 unfold w0;rw [jP,zAb,zBs,zBx e,d];rfl
def aG0 (b:List Bool) {q:Nat} {a:Bool} (c:b[64+q]?=some a):(w1 b).testBit q=a:=by
 unfold w1;rw [jP,zAb,zBt,c];rfl
def aJX {a:List Bool} {b:Bool} {c d:Nat} (n:a.length<=128) (j:a[c]?=some b) (l:(a.take c).count b=d) (e:c < 64):
 (fI (w0 a) b).testBit c=true/\bJ (fI (w0 a) b) c=d/\d < bJ (fI (w0 a) b) 64:=by
 have i:=mQ a;have o:=(zAc.1 j).1;have f:(fI (w0 a) b).testBit c=true:=by rw [kO _ _ i e,aDL a e j];simp
 have g:bJ (fI (w0 a) b) c=d:=by rw [<-l];exact lN _ a b c oM fun q p m k=>by rw [kO _ _ i oM,aDL a oM k]
 refine ⟨f,g,?_⟩;have:=kW (fI (w0 a) b) (show c+1<=64 by omega);rw [dP,f,g] at this;simp at this;omega
def aJY {a:List Bool} {b:Bool} {c f:Nat} (r:a.length<=128) (m:a[c]?=some b) (u:(a.take c).count b=f) (t:64<=c):
 ∃i g,bJ (fI (w0 a) b) 64=i/\i<=f/\f - i=g/\(fI (w1 a) b).testBit (c - 64)=true/\bJ (fI (w1 a) b) (c - 64)=g/\g < bJ (fI (w1 a) b) 64:=by
 have s:=mQ a;have l:=mL a r;have v:=(zAc.1 m).1;have p:bJ (fI (w0 a) b) 64=(a.take 64).count b:=lN _ a b 64 oM fun n e o d=>by rw [kO _ _ s e,aDL a e d]
 have w:(a.take c).count b=(a.take 64).count b+((a.drop 64).take (c - 64)).count b:=by
  have:a.take c=a.take 64++(a.drop 64).take (c - 64):=by rw [<-List.take_add];congr 1;omega
  rw [this,zCc]
 have j:(fI (w1 a) b).testBit (c - 64)=true:=by rw [kO _ _ l oM,aG0 a (q:=c - 64) (by rw [show 64+(c - 64)=c by omega];exact m)];simp
 have k:bJ (fI (w1 a) b) (c - 64)=((a.drop 64).take (c - 64)).count b:=
  lN _ (a.drop 64) b (c - 64) (by rw [zAw];omega) fun n e o d=>by rw [zBt] at d;rw [kO _ _ l oM,aG0 a d]
 refine ⟨_,_,p,by omega,rfl,j,by rw [k];omega,?_⟩;have:=kW (fI (w1 a) b) (show c - 64+1<=64 by omega);rw [dP,j,k] at this;simp at this;omega
end
section
open Go.RowKit
def aGJ (e:World->World->Prop) (a:Value->World->Prop):Prop:=∀b c d,a b c->e c d->a b d
def iG (a:World->World->Prop) (b:Value):aGJ a (is b):=fun _ _ _ c _=>c
def jM (a:World->World->Prop):aGJ a dA:=fun _ _ _ _ _=>trivial
def cZ {i:World->World->Prop} {c:List (Value->World->Prop)} (j:∀g∈c,aGJ i g):∀b d e f,Vs c b d e->i e f->Vs c b d f:=by
 intro b d e f a k;unfold Vs at a⊢;rw [zAb] at a⊢;rcases hl:c[b]? with _ | g;rw [hl] at a;exact a;rw [hl] at a;exact j g (zAd hl) d e f a k
end
section
open Go.RowKit Go
section
variable {P : Program} {ops : Array Oper} {Q : Exit -> Act -> World -> Prop} {md : Region.Mode}
def bX (c b:Nat):Array Bool:=((List.range b).map fun a=>decide (a < c)).toArray
def aBb (b a:Nat) (k:b<=a):(bX b a).toList.count false=a - b:=by
 unfold bX;rw [List.toList_toArray]
 induction a with
 | zero=>simp
 | succ a j=>
   rw [List.range_succ,zAz,zCc];rcases zBe a b with c | c
   · have:b=a+1:=oM;subst this;have d:(List.map (fun i=>decide (i < a+1)) (List.range a)).count false=0:=(by rw [List.count_eq_zero];intro f;obtain ⟨l,g,e⟩:=zAy.1 f;have:=zCj.1 g;simp at e;omega);rw [d];simp
   rw [j c];have:¬(a < b):=oM;simp [this];omega
def bT {a:Nat} {f:Array Bool} {b:Act} {g:World} (e:Region.ready md ops f= []) (d:Q .normal b g):wpAny P md ops Q a f b g:=by
 cases a with
 | zero=>exact ⟨e,d⟩
 | succ a=>exact ⟨fun _=>d,fun i c=>by rw [e] at c;cases c⟩
def bC {f:Nat} {a:Array Bool} {b:Act} {g:World} {i:Nat} (e:Region.ready md ops a= [i]) (j:wpOp P ops Q i (wpAny P md ops Q f (a.setIfInBounds i true)) b g):wpAny P md ops Q (f+1) a b g:=
 ⟨fun c=>(by rw [e] at c;cases c),fun k d=>(by rw [e] at d;cases List.mem_singleton.1 d;exact j)⟩
def pA (g:Nat) (D:World->Prop) (T:Nat->World->World->Prop) (L:Nat->World->Prop) (M:Nat->Value->World->Prop) (E:Act)
 (X:World) (ap:g<=ops.size) (a2:gR md ops E.tmps.size=true) (ay:((List.range ops.size).all fun e=>decide (e < g)||(List.range g).all fun a=>upB md ops ops.size e a)=true) (ag:D X) (ai:∀a,L a X) (af:∀b i x,b < g->D i->T b i x->D x)
 (ah:∀a b i x,b < g->a≠b->upB md ops ops.size b a=false->L a i->D i->T b i x->L a x)
 (av:∀a b C i x,b < g->a≠b->uH md ops a b=false->upB md ops ops.size a b=false->M a C i->D i->T b i x->M a C x)
 (aw:∀b k,b < g->ops[b]?=some k->cX P ops Q md D T L M E b k)
 (aa:∀p i ad,D i->p.tmps.size=E.tmps.size->p.defers=E.defers->
  (∀v,(∀(e:Nat) (j:Oper),e < g->ops[e]?=some j->j.dst≠some v)->p.tmps.getD v undef=E.tmps.getD v undef)->
  (∀a k,a < g->ops[a]?=some k->∃C,(∀t,k.dst=some t->p.tmps.getD t undef=C)/\M a C i)->wpAny P md ops Q (ops.size - g+ad) (bX g ops.size) p i):
 wpAny P md ops Q ops.size (Array.replicate ops.size false) E X:=by
 have aB:∀f:Array Bool,f.size=ops.size->Region.ready md ops f= []->∀a,a < ops.size->f.getD a false=true:=by
  intro f K a4 a
  induction a using Nat.strongRecOn with
  | _ a a6=>
    intro l;cases z:f.getD a false with
    | true=>rfl
    | false=>
      exfalso;have W:a∈Region.ready md ops f:=(by refine mem_ready.2 ⟨?_,ops[a],zAq l,fun o q G=>?_⟩;have a0:a < f.size:=oM;simp [a0] at z⊢;exact z;have:=(dY a2 (zAq l)).1 o q G;exact a6 o.on this oM);rw [a4] at W;cases W
 have aA:∀A f p i,f.size=ops.size->f.toList.count false<=A->Loose7 md ops D L M E f p i->(∀e,g<=e->f.getD e false=false)->wpAny P md ops Q A f p i:=by
  intro A
  induction A with
  | zero=>
    intro f p i K z c S
    have F:∀a,a < ops.size->f.getD a false=true:=by
        intro a l;have a0:a < f.size:=oM;cases J:f.getD a false with
        | true=>rfl
        | false=>
          exfalso;have:false∈f.toList:=(by simp [a0] at J;exact J ▸(by simp));have:=List.count_pos_iff.2 this;omega
    have ar:g=ops.size:=by
        rcases zBe g ops.size with u | u
        · have y:=F g u;rw [S g nL] at y;cases y
        omega
    have q:f=bX g ops.size:=by
        apply Array.ext
        · simp [bX,K]
        intro a u y;have r:=F a oM;simp [u] at r;simp [bX,r];omega
    have r:=aa p i 0 c.world c.size c.defers (fun v I=>c.old v fun e j d m=>absurd m (I e j (by have:=(zAh.1 d).1;omega) d)) fun a k l n=>c.val a k n (F a (zAh.1 n).1);rw [<-q,<-ar,Nat.sub_self] at r;exact r
  | succ A a6=>
    intro f p i K z c S;by_cases F:∀a,a < g->f.getD a false=true
    · have q:f=bX g ops.size:=by
       apply Array.ext
       · simp [bX,K]
       intro a u y;rcases zBe a g with w | w;have r:=F a w;simp [u] at r;simp [bX,r];exact w;have r:=S a w;simp [u] at r;simp [bX,r];omega
      have aD:ops.size - g<=A+1:=(by rw [q,aBb _ _ ap] at z;exact z);have r:=aa p i (A+1 -(ops.size - g)) c.world c.size c.defers (fun v I=>c.old v fun e j d m=>by
       rcases zBe e g with w | w;exact absurd m (I e j w d)
       · exact S e w) fun a k l n=>c.val a k n (F a l)
      rw [<-q,show ops.size - g+(A+1 -(ops.size - g))=A+1 by omega] at r;exact r
    refine ⟨fun a4=>absurd (fun a l=>aB f K a4 a oM) F,fun b ao=>?_⟩;obtain ⟨a8,k,n,U⟩:=mem_ready.1 ao;have R:b < ops.size:=(zAh.1 n).1;have H:b < f.size:=oM;have B:f.getD b false=false:=(by simp [H] at a8⊢;exact a8);have V:b < g:=(by rcases zBe b g with w | w;exact w;exfalso;refine F fun a l=>?_;have a9:=zBf.1 ay b (zCj.2 R);have ae:¬(b < g):=oM;simp only [ae,decide_false,Bool.false_or] at a9;exact iA c.shut _ b a k n U (zBf.1 a9 a (zCj.2 l)));refine aw b k V n p i c.world (c.pre b k n B) c.size c.defers (fun v I=>c.old v fun e j d m=>?_) (fun o q G j t d m=>by obtain ⟨C,u,y⟩:=c.val o.on j d (U o q G);rw [u t m];exact y) _ fun C x Y aj=>?_
    · rcases uX I d m with rfl |⟨o,q,G,an⟩;exact B
      · cases s:f.getD e false with
        | false=>rfl
        | true=>
          have:=c.shut e j d s o q G;rw [an,B] at this;cases this
    · refine a6 _ _ _ (by simpa using K) ?_ ?_ (fun e s=>by rw [getD_set_ne false (by omega:b≠e)];exact S e s);have J:f.toList[b]'(by simpa using H)=false:=(by simp [H] at B⊢;exact B);rw [Array.toList_setIfInBounds,List.count_set (by simpa using H),J];simp;have W:false∈f.toList:=J ▸ zBj _;have:=List.count_pos_iff.2 W;rw [<-Array.count_toList];omega
      · have ax:(p.put k.dst C).tmps.size=E.tmps.size:=by
          rw [<-c.size];cases k.dst with
          | none=>rfl
          | some t=>simp [Act.put]
        refine ⟨af b i x V c.world Y,fun a j d l=>?_,ax,?_,fun v I=>?_,fun a j d l=>?_,fun e j d s o q G=>?_⟩
        · have ab:a≠b:=fun o=>by rw [o,bM _ _ H] at l;cases l
          rw [getD_set_ne false ab.symm] at l;refine ah a b i x V ab ?_ (c.pre a j d l) c.world Y;cases a5:upB md ops ops.size b a with
          | false=>rfl
          | true=>
            have:=iA c.shut _ b a k n U a5;rw [l] at this;cases this
        · rw [<-c.defers];cases k.dst <;> rfl
        · have aq:k.dst≠some v:=fun m=>by have:=I b k n m;rw [bM _ _ H] at this;cases this
          have au:=c.old v fun e j d m=>by
           have:=I e j d m;cases s:f.getD e false with
           | false=>rfl
           | true=>
             by_cases ac:b=e
             · subst ac;rw [B] at s;cases s
             · rw [getD_set_ne false ac,s] at this;cases this
          rw [<-au];cases a3:k.dst with
          | none=>rfl
          | some t=>
            have Z:t≠v:=fun c=>aq (by rw [a3,c]);simp [Act.put,zAm,Z]
        · rcases eP _ _ _ l with rfl | N
          · rw [n] at d;injection d with d;subst d;refine ⟨C,fun t m=>?_,aj⟩;have am:=((dY a2 n).2 t m).1;rw [m];have:t < p.tmps.size:=(by rw [c.size];exact am);simp [Act.put,zAm,this]
          · by_cases a1:a=b
            · subst a1;rw [B] at N;cases N
            obtain ⟨aC,az,J⟩:=c.val a j d N
            have ak:uH md ops a b=false:=by
              cases z:uH md ops a b with
              | false=>rfl
              | true=>
                exfalso;unfold uH at z;rw [d] at z;obtain ⟨o,q,y⟩:=List.any_eq_true.1 z;simp only [zBd,zCq] at y;have:=c.shut a j d N o (Array.mem_toList_iff.1 q) y.1;rw [y.2,B] at this;cases this
            have al:upB md ops ops.size a b=false:=by
              cases a5:upB md ops ops.size a b with
              | false=>rfl
              | true=>
                have:=iA c.shut _ a b j d (c.shut a j d N) a5;rw [B] at this;cases this
            refine ⟨aC,fun t m=>?_,av _ _ _ _ _ V a1 ak al J c.world Y⟩;rw [<-az t m];cases a3:k.dst with
            | none=>rfl
            | some a7=>
              have Z:a7≠t:=fun c=>a1 (((dY a2 n).2 a7 a3).2 a j d (c ▸ m));simp [Act.put,zAm,Z]
        rcases eP _ _ _ s with rfl | s;rw [n] at d;injection d with d;subst d;have u:=U o q G;by_cases O:e=o.on;rw [<-O];exact bM _ _ H _;rw [getD_set_ne false O];exact u;have u:=c.shut e j d s o q G;by_cases O:b=o.on;rw [<-O];exact bM _ _ H _;rw [getD_set_ne false O];exact u
 refine aA _ _ _ _ (by simp) (by simp) ⟨ag,fun b _ _ _=>ai b,rfl,rfl,fun _ _=>rfl,fun a k n l=>?_,fun e j d s=>?_⟩ (fun e s=>by
  rw [zAm];rcases zBe e ops.size with c | c
  · simp [c]
  · rw [Array.getElem?_eq_none (by simpa using c)];rfl)
 · have R:a < ops.size:=(zAh.1 n).1;simp [R] at l
 · have R:e < ops.size:=(zAh.1 d).1;simp [R] at s
def tH (d:Nat) (t:List Nat) (f:World->Prop) (l:Nat->World->World->Prop) (m:Nat->World->Prop) (g:Nat->Value->World->Prop) (i:Act)
 (p:World) (G:(ops.toList.take d).filterMap (·.dst)=t) (M:d<=ops.size) (L:gR md ops i.tmps.size=true) (V:((List.range ops.size).all fun q=>decide (q < d)||(List.range d).all fun a=>upB md ops ops.size q a)=true) (B:f p) (E:∀a,m a p) (A:∀c b e,c < d->f b->l c b e->f e)
 (D:∀a c b e,c < d->a≠c->upB md ops ops.size c a=false->m a b->f b->l c b e->m a e)
 (R:∀a c o b e,c < d->a≠c->uH md ops a c=false->g a o b->f b->l c b e->g a o e)
 (S:∀c r,c < d->ops[c]?=some r->cX P ops Q md f l m g i c r)
 (H:∀(x:Operand->Value) b u,f b->(∀a n,a < d->((ops[a]?).bind (·.dst))=some n->g a (x (.tmp n)) b)->wpAny P md ops Q (ops.size - d+u) (bX d ops.size) (dG x t i) b):
 wpAny P md ops Q ops.size (Array.replicate ops.size false) i p:=by
 refine pA d f l m g i p M L V B E A D (fun a c o b e j v z _=>R a c o b e j v z) S fun s b u C T F N W=>?_;have j:=H s.eval b u C fun a n I k=>by
  cases w:ops[a]? with
  | none=>rw [w] at k;cases k
  | some r=>
    rw [w] at k;obtain ⟨o,j,v⟩:=W a r I w;have:=j n k;change g a (s.tmps.getD n undef) b;rw [this];exact v
 rw [<-lC s i t T F fun X U=>N X fun q y J O k=>U ?_] at j;exact j;rw [<-G];refine List.mem_filterMap.2 ⟨y,?_,k⟩;have K:(ops.toList.take d)[q]?=some y:=(by rw [zBs,zBx J,Array.getElem?_toList];exact O);exact zAd K
def aBY (d:Nat) (s:List Nat) (e:World->Prop) (k:Nat->World->World->Prop) (l:Nat->World->Prop) (g:Nat->Value->World->Prop) (i:Act)
 (n:World) (F:(ops.toList.take d).filterMap (·.dst)=s) (L:d<=ops.size) (K:gR md ops i.tmps.size=true) (U:((List.range ops.size).all fun p=>decide (p < d)||(List.range d).all fun a=>upB md ops ops.size p a)=true) (A:e n) (D:∀a,l a n) (z:∀b c f,b < d->e c->k b c f->e f)
 (C:∀a b c f,b < d->a≠b->upB md ops ops.size b a=false->l a c->e c->k b c f->l a f)
 (O:∀a b v c f,b < d->a≠b->uH md ops a b=false->upB md ops ops.size a b=false->g a v c->e c->k b c f->g a v f)
 (R:∀b q,b < d->ops[b]?=some q->cX P ops Q md e k l g i b q)
 (G:∀(w:Operand->Value) c t,e c->(∀a m,a < d->((ops[a]?).bind (·.dst))=some m->g a (w (.tmp m)) c)->wpAny P md ops Q (ops.size - d+t) (bX d ops.size) (dG w s i) c):
 wpAny P md ops Q ops.size (Array.replicate ops.size false) i n:=by
 refine pA d e k l g i n L K U A D z C O R fun r c t B S E M V=>?_;have o:=G r.eval c t B fun a m H j=>by
  cases u:ops[a]? with
  | none=>rw [u] at j;cases j
  | some q=>
    rw [u] at j;obtain ⟨v,o,y⟩:=V a q H u;have:=o m j;change g a (r.tmps.getD m undef) c;rw [this];exact y
 rw [<-lC r i s S E fun W T=>M W fun p x I N j=>T ?_] at o;exact o;rw [<-F];refine List.mem_filterMap.2 ⟨x,?_,j⟩;have J:(ops.toList.take d)[p]?=some x:=(by rw [zBs,zBx I,Array.getElem?_toList];exact N);exact zAd J
def bN {d:Nat} {a:Oper} {b:Act} {e:World} {c:Act->World->Prop} (i:ops[d]?=some a) (g:a.guard=none) (f:Oper.upon P a b c Q ((execOp b.eval a).run P e)):wpOp P ops Q d c b e:=by
 unfold wpOp;simp only [i];have j:Region.wanted a (yielded ops b.tmps)=true:=by unfold Region.wanted;rw [g]
 rw [zBx j];exact .inl f
end
def cV {P:Program} {ops:Array Oper} {Q:Exit->Act->World->Prop} {md:Region.Mode} (e:Nat) (r:List Nat) (i:Nat->Prop) (c:Nat) (t:List Nat) (o:World->Prop) (q:Value->World->Prop) (p:List (Value->World->Prop)) (l:Act) (j:World)
 (F:(ops.toList.take e).filterMap (·.dst)=r) (I:e<=ops.size) (H:gR md ops l.tmps.size=true) (O:((List.range ops.size).all fun d=>decide (d < e)||(List.range e).all fun a=>upB md ops ops.size d a)=true)
 (L:(t.all fun a=>a==c||upB md ops ops.size c a)=true)
 (K:o j) (J:∀b g,o b->Keep i j b->Grow b g->o g) (E:Stb q) (M:∀S∈p,uJ i S)
 (N:∀k z,k < e->ops[k]?=some z->cX P ops Q md (Keep i j) (oW i c) (fun a b=>t.contains a=true->o b) (VsJ c q p) l k z)
 (G:∀(v:Operand->Value) b f,Keep i j b->(∀a u,a < e->((ops[a]?).bind (·.dst))=some u->VsJ c q p a (v (.tmp u)) b)->wpAny P md ops Q (ops.size - e+f) (bX e ops.size) (dG v r l) b):
 wpAny P md ops Q ops.size (Array.replicate ops.size false) l j:=by
 refine tH e r (Keep i j) (oW i c) (fun a b=>t.contains a=true->o b) (VsJ c q p) l j F I H O (Keep.refl _ _) (fun _ _=>K) (fun k b g _ C d=>C.trans (jH d)) (fun a k b g _ s R m D d x=>?_) (fun a k A b g _ s _ n _ d=>?_) N G;by_cases y:k=c;exfalso;subst y;have w:=zBf.1 L a (by simpa using x);simp only [R,Bool.or_false,zCq] at w;exact s w;exact J b g (m x) D (d.2 y);unfold VsJ at n⊢;by_cases m:a=c;rw [zBx m] at n⊢;exact E A b g n (d.2 fun B=>s (m.trans B.symm));rw [zBw m] at n⊢;exact vL M a A b g n (jH d)
def bG {e:Nat} {c:Nat->Oper->Prop} {d:List Oper} (f:∀a b,(d.take e)[a]?=some b->c (0+a) b):∀a b,a < e->d.toArray[a]?=some b->c a b:=by
 intro a b g i;have:=f a b (by rw [zBs,zBx g];simpa using i);rwa [zBi] at this
end
section
def aP {α:Type} (b:List α) (a:Nat) (c:α):List α:=b.take a++c::b.drop a
def aF {α:Type} (b:List α) (a:Nat):List α:=b.take a++b.drop (a+1)
def fX {α:Type} (a:List α) {b:Nat} (c:α) (d:b<=a.length):(aP a b c).length=a.length+1:=by
 unfold aP;rw [zAi,zAj,zCg,zAw];omega
def dE {α:Type} (a:List α) {k:Nat} (b:k < a.length):(aF a k).length+1=a.length:=by
 unfold aF;rw [zAi,zAj,zAw];omega
def iR {α:Type} (c:List α) {a:Nat} (g:α) (j:a<=c.length) (b:Nat):(aP c a g)[b]?=if b < a then c[b]? else if b=a then some g else c[b - 1]?:=by
 unfold aP;have i:(c.take a).length=a:=by rw [zAj];omega
 by_cases e:b < a
 · rw [zBx e,zAn oM,zBs,zBx e]
 · rw [zBw e,zAo oM,i];by_cases f:b=a;subst f;rw [zBx rfl,Nat.sub_self];rfl
   · rw [zBw f];obtain ⟨d,rfl⟩:∃d,b=a+d+1:=⟨b - a - 1,by omega⟩;rw [show a+d+1 - a=d+1 by omega,zCf,zBt];congr 1
def dZ {α:Type} (c:List α) {a:Nat} (f:a < c.length) (b:Nat):(aF c a)[b]?=if b < a then c[b]? else c[b+1]?:=by
 unfold aF;have e:(c.take a).length=a:=by rw [zAj];omega
 by_cases d:b < a
 · rw [zBx d,zAn oM,zBs,zBx d]
 rw [zBw d,zAo oM,e,zBt];congr 1;omega
def mY {α β:Type} (a:α->β) (c:List α) (b:Nat) (d:α):(aP c b d).map a=aP (c.map a) b (a d):=by simp [aP]
def rI {α β:Type} (a:α->β) (c:List α) (b:Nat):(aF c b).map a=aF (c.map a) b:=by simp [aF]
def fC {α:Type} (a:List α) (c:Nat) (b:α):(aP a c b).Perm (b::a):=by
 unfold aP;exact (List.perm_middle).trans (by rw [zAu])
def eM {α:Type} {a:List α} {b:Nat} {c:α} (e:a[b]?=some c):(c::aF a b).Perm a:=by
 obtain ⟨f,g⟩:=zAc.1 e;have d:a=a.take b++c::a.drop (b+1):=by rw [<-g,<-zAx f,zAu]
 unfold aF;exact (List.perm_middle.symm).trans (by rw [<-d])
def oC (b:List Bool) {c:Nat} (d:Bool) (e:c<=b.length) (a:Nat):(aP b c d).getD a false=if a < c then b.getD a false else if a=c then d else b.getD (a - 1) false:=by
 rw [zAb,iR b d e];split
 · rw [zAb]
 · split;rfl
   · rw [zAb]
def oH (a:List Bool) {c:Nat} (d:c < a.length) (b:Nat):(aF a c).getD b false=if b < c then a.getD b false else a.getD (b+1) false:=by
 rw [zAb,dZ a d];split
 · rw [zAb]
 · rw [zAb]
def aFL (d:List Bool) (c b:Nat):(d.take c).getD b false=(decide (b < c)&&d.getD b false):=by
 rw [zAb,zBs];by_cases a:b < c
 · rw [zBx a,zAb];simp [a]
 · rw [zBw a];simp [a]
def aGw (b:List Bool) (c a:Nat):(b.drop c).getD a false=b.getD (c+a) false:=by
 rw [zAb,zBt,zAb]
def qO (b a:Nat) (c:Bool):Nat:=(b % 2 ^ a|||(if c then 2 ^ a else 0))|||(b&&&(18446744073709551615 - b % 2 ^ a))*2 % 18446744073709551616
def nD (a b:Nat) (c:Bool):Nat:=(a % 2 ^ b|||(a / 2&&&(18446744073709551615 - a / 2 % 2 ^ b)))|||(if c then 9223372036854775808 else 0)
def aFl (b a:Nat) (c:b < 18446744073709551616):(18446744073709551615 - b).testBit a=(decide (a < 64)&& !b.testBit a):=by
 have:=Nat.testBit_two_pow_sub_succ (n:=64) (x:=b) oM a;rw [<-this];congr 1;omega
def aH6 (c b a:Nat):(c % 2 ^ b).testBit a=(decide (a < b)&&c.testBit a):=Nat.testBit_mod_two_pow _ _ _
def aFh (b a:Nat):(2 ^ b).testBit a=decide (b=a):=Nat.testBit_two_pow
def aJt (b a:Nat):(b*2 % 18446744073709551616).testBit a=(decide (a < 64)&&(decide (0 < a)&&b.testBit (a - 1))):=by
 have c:(18446744073709551616:Nat)=2 ^ 64:=dC;rw [c,aH6];congr 1;rcases a with _ | a
 · simp
 · rw [Nat.testBit_succ,Nat.mul_div_cancel _ (by decide:0 < 2)];simp
def wM (a c:Nat) (b:a < 18446744073709551616):a % 2 ^ c < 18446744073709551616:=Nat.lt_of_le_of_lt (Nat.mod_le _ _) b
def aKd (b a:Nat) (d:b < 18446744073709551616) (c:64<=a):b.testBit a=false:=Nat.testBit_lt_two_pow (zAl d (zBp (n:=2) dC c))
def aAV (c b a:Nat) (d:Bool) (o:c < 18446744073709551616) (q:b < 64):(qO c b d).testBit a=if a < b then c.testBit a else if a=b then d else (decide (a < 64)&&c.testBit (a - 1)):=by
 unfold qO;rw [Nat.testBit_or,Nat.testBit_or,aJt,Nat.testBit_and,aFl _ _ (wM c b o),aH6,aH6];have n:(if d then 2 ^ b else 0:Nat).testBit a=(decide (b=a)&&d):=by
  cases d
  · simp
  · simp [aFh]
 rw [n];by_cases f:a < b
 · have e:decide (a - 1 < b)=true:=zBz oM;have g:decide (b=a)=false:=zBy oM;rw [zBx f,zBz f,e,g];cases r:c.testBit a <;> cases p:c.testBit (a - 1)<;> simp
 · rw [zBw f,zBy f];by_cases i:a=b
   · subst i;rw [zBx rfl];by_cases j:a=0
     · subst j;simp
     · have e:decide (a - 1 < a)=true:=zBz oM;rw [e];cases p:c.testBit (a - 1)<;> simp
   · have e:decide (a - 1 < b)=false:=zBy oM;have g:decide (b=a)=false:=zBy oM;have k:decide (0 < a)=true:=zBz oM;rw [zBw i,e,g,k];by_cases l:a < 64
     · have m:decide (a - 1 < 64)=true:=zBz oM;rw [m];simp
     · simp [l]
def aBd (b d a:Nat) (c:Bool) (j:b < 18446744073709551616) (o:d < 64):(nD b d c).testBit a=if a < d then b.testBit a else if a < 63 then b.testBit (a+1) else (decide (a=63)&&c):=by
 unfold nD;have m:b / 2 < 18446744073709551616:=Nat.lt_of_le_of_lt (Nat.div_le_self _ _) j;have n:∀g,(b / 2).testBit g=b.testBit (g+1):=fun g=>by rw [Nat.testBit_succ]
 rw [Nat.testBit_or,Nat.testBit_or,Nat.testBit_and,aFl _ _ (wM _ d m),aH6,aH6,n];have l:(if c then 9223372036854775808 else 0:Nat).testBit a=(decide (a=63)&&c):=by
  cases c
  · simp
  rw [zBx rfl,show (9223372036854775808:Nat)=2 ^ 63 by decide,aFh,Bool.and_true];congr 1;exact propext eq_comm
 rw [l];by_cases e:a < d
 · have f:decide (a=63)=false:=zBy oM;rw [zBx e,zBz e,f];cases p:b.testBit a <;> cases q:b.testBit (a+1)<;> simp
 · rw [zBw e,zBy e];by_cases i:a < 63
   · have f:decide (a=63)=false:=zBy oM;have k:decide (a < 64)=true:=zBz oM;rw [zBx i,f,k];simp
   · rw [zBw i,aKd b (a+1) j oM];simp
def iZ (b:List Bool) (a:Nat):(w0 b).testBit a=(decide (a < 64)&&b.getD a false):=by unfold w0;rw [jP,aFL]
def gU (b:List Bool) (a:Nat):(w1 b).testBit a=b.getD (64+a) false:=by unfold w1;rw [jP,aGw]
def vB (b:List Bool) (a:Nat) (c:b.length<=a):b.getD a false=false:=by
 rw [zAb,zBg c];rfl
def aJ1 (a:List Bool) (d:Nat) (e:Bool) (i:d<=a.length) (k:a.length<=127) (j:d < 64):w0 (aP a d e)=qO (w0 a) d e/\w1 (aP a d e)=qO (w1 a) 0 (a.getD 63 false):=by
 constructor
 · refine Nat.eq_of_testBit_eq fun b=>?_;rw [aAV _ _ _ _ (mQ a) j,iZ,iZ,iZ,oC a e i];by_cases g:b < d
   · rw [zBx g,zBx g]
   · rw [zBw g,zBw g];by_cases c:b=d
     · rw [zBx c,zBx c,zBz oM,Bool.true_and]
     · rw [zBw c,zBw c];by_cases f:b < 64
       · rw [zBz f,zBz (show b - 1 < 64 by omega),Bool.true_and,Bool.true_and]
       · rw [zBy f,Bool.false_and,Bool.false_and]
 · refine Nat.eq_of_testBit_eq fun b=>?_;rw [aAV _ _ _ _ (mL a oM) dC,gU,gU,oC a e i,zBw oM,zBw oM,zBw oM];by_cases c:b=0
   · subst c;rw [zBx rfl]
   · rw [zBw c,show 64+b - 1=64+(b - 1) by omega,gU];by_cases f:b < 64
     · rw [zBz f,Bool.true_and]
     rw [zBy f,Bool.false_and];exact vB a _ oM
def aJ2 (a:List Bool) (c:Nat) (d:Bool) (i:c<=a.length) (k:a.length<=127) (j:64<=c):w0 (aP a c d)=w0 a/\w1 (aP a c d)=qO (w1 a) (c - 64) d:=by
 constructor
 · refine Nat.eq_of_testBit_eq fun b=>?_;rw [iZ,iZ,oC a d i];by_cases e:b < 64
   · rw [zBz e,zBx oM]
   · rw [zBy e,Bool.false_and,Bool.false_and]
 · refine Nat.eq_of_testBit_eq fun b=>?_;rw [aAV _ _ _ _ (mL a oM) oM,gU,gU,gU,oC a d i];by_cases f:b < c - 64
   · rw [zBx oM,zBx f]
   · rw [zBw oM,zBw f];by_cases g:b=c - 64
     · rw [zBx oM,zBx g]
     · rw [zBw oM,zBw g,show 64+b - 1=64+(b - 1) by omega];by_cases e:b < 64
       · rw [zBz e,Bool.true_and]
       rw [zBy e,Bool.false_and];exact vB a _ oM
def aKi (a:List Bool) (c:Nat) (g:c < a.length) (j:a.length<=128) (i:c < 64):w0 (aF a c)=nD (w0 a) c (a.getD 64 false)/\w1 (aF a c)=nD (w1 a) 0 false:=by
 constructor
 · refine Nat.eq_of_testBit_eq fun b=>?_;rw [aBd _ _ _ _ (mQ a) i,iZ,iZ,iZ,oH a g];by_cases e:b < c
   · rw [zBx e,zBx e]
   · rw [zBw e,zBw e];by_cases d:b < 63
     · rw [zBx d,zBz (show b < 64 by omega),zBz (show b+1 < 64 by omega)]
     · rw [zBw d];by_cases f:b=63;subst f;rfl
       · rw [zBy f,zBy (show ¬b < 64 by omega),Bool.false_and,Bool.false_and]
 · refine Nat.eq_of_testBit_eq fun b=>?_;rw [aBd _ _ _ _ (mL a j) dC,gU,gU,oH a g,zBw oM,zBw oM,Bool.and_false];by_cases d:b < 63
   · rw [zBx d,show 64+b+1=64+(b+1) by omega,gU]
   rw [zBw d];exact vB a _ oM
def cut_hi (a:List Bool) (k:Nat) (f:k < a.length) (g:a.length<=128) (i:64<=k):w0 (aF a k)=w0 a/\w1 (aF a k)=nD (w1 a) (k - 64) false:=by
 constructor
 · refine Nat.eq_of_testBit_eq fun b=>?_;rw [iZ,iZ,oH a f];by_cases e:b < 64
   · rw [zBz e,zBx oM]
   · rw [zBy e,Bool.false_and,Bool.false_and]
 · refine Nat.eq_of_testBit_eq fun b=>?_;rw [aBd _ _ _ _ (mL a g) oM,gU,gU,gU,oH a f,Bool.and_false];by_cases c:b < k - 64
   · rw [zBx oM,zBx c]
   · rw [zBw oM,zBw c,show 64+b+1=64+(b+1) by omega];by_cases d:b < 63
     · rw [zBx d]
     rw [zBw d];exact vB a _ oM
def aIR (a:Nat) (b:a < 18446744073709551616):decide (a / 9223372036854775808=1)=a.testBit 63:=by
 rw [Nat.testBit_eq_decide_div_mod_eq];have:a / 2 ^ 63 % 2=a / 9223372036854775808:=by rw [show (2:Nat)^ 63=9223372036854775808 by decide];omega
 rw [this]
end
section
open Go.RowKit
def aCS (b a:Nat) (e:b < 18446744073709551616) (f:a < 18446744073709551616):bits .andNot .u64 (b:Int) (a:Int)=((b&&&(18446744073709551615 - a):Nat):Int):=by
 have c:b % 2 ^ 64=b:=zBu oM;have d:a % 2 ^ 64=a:=zBu oM;have g:b&&&(18446744073709551615 - a) < 2 ^ 64:=Nat.and_lt_two_pow _ oM;show IntKind.u64.wrap (((BitVec.ofInt 64 (b:Int)&&& ~~~ BitVec.ofInt 64 (a:Int)).toNat:Nat):Int)=_;rw [BitVec.ofInt_natCast,BitVec.ofInt_natCast,BitVec.toNat_and,BitVec.toNat_not,BitVec.toNat_ofNat,BitVec.toNat_ofNat,c,d,IntKind.wrap_u64,show 2 ^ 64 - 1 - a=18446744073709551615 - a by omega];omega
def aFi {a b:Nat} (c:a < 18446744073709551616) (d:b < 18446744073709551616):a||| b < 18446744073709551616:=Nat.or_lt_two_pow (n:=64) c d
def aCT (a:Nat) {b:Nat} (c:b < 18446744073709551616):a&&& b < 18446744073709551616:=Nat.and_lt_two_pow (n:=64) a c
def aEq (b a:Nat) (c:a < 64):aA3 b (a:Int)=b % 2 ^ a:=by
 unfold aA3;rw [show min ((a:Int)).toNat 64=a by omega]
def aIP (b c:Nat) (f:Bool) (m:b < 18446744073709551616) (w:c < 64) (A:World):
 Calls prog 270 #[.int .u64 (b:Int),(c:Int),.bool f] A fun s G=>s=.returned (.tuple #[.int .u64 ((qO b c f:Nat):Int),.bool (b.testBit 63)])/\A=G:=by
 have x:=aEq b c w;obtain ⟨d,i⟩:=eqx (b % 2 ^ c);have q:d < 18446744073709551616:=by rw [<-i];exact wM b c m
 obtain ⟨g,l⟩:=eqx (2 ^ c);have O:g < 18446744073709551616:=by rw [<-l];exact Nat.pow_lt_pow_right (a:=2) dC (show c < 64 from w)
 have N:(2:Int)^ c=(g:Int):=by rw [<-l];push_cast;rfl
 obtain ⟨p,e⟩:=eqx ((if f then g else 0:Nat));have u:p < 18446744073709551616:=by rw [<-e];split <;> omega
 have H:IntKind.u64.wrap (g:Int)=(g:Int):=by rw [IntKind.wrap_u64];omega
 have t:=aGd d p q u;obtain ⟨n,j⟩:=eqx (d||| p);have E:n < 18446744073709551616:=by rw [<-j];exact aFi q u
 have C:=aCS b d m q;obtain ⟨r,k⟩:=eqx (b&&&(18446744073709551615 - d));have M:r < 18446744073709551616:=by rw [<-k];exact aCT _ oM
 obtain ⟨o,y⟩:=eqx (r*2 % 18446744073709551616);have F:o < 18446744073709551616:=oM;have J:IntKind.u64.wrap ((r:Int)*2)=(o:Int):=by rw [IntKind.wrap_u64];omega
 have D:=aGd n o E F;have v:qO b c f=n||| o:=by unfold qO;rw [i,l,e,j,k,y]
 have z:((b:Int)/ 9223372036854775808==1)=b.testBit 63:=by rw [<-aIR b m,Bool.eq_iff_iff,zCq,zCa];omega
 rw [j] at t;rw [k] at C;rw [v,<-z];have K:decide ((c:Int) < 0)=false:=by simp
 have L:¬((c:Int)>=64):=oM;have B:=lhd (x.trans i);clear v z x i l j k y;go_enter func270,ntmps270;go_wp2_with fail;refine (qY b (c:Int) m oM _).mono ?_;rintro s w1 ⟨rfl,rfl⟩;rw [B.out];cases f with
 | true=>
   rw [zBx rfl] at e;subst e;go_wp2_with fail;go_ret2;exact ⟨rfl,rfl⟩
 | false=>
   rw [zBw (by simp)] at e;subst e;have I:bits .or .u64 (d:Int) 0=(n:Int):=t;go_wp2_with fail;go_ret2;exact ⟨by rw [<-D];rfl,rfl⟩
def aDG (b a:Nat) (i:Bool) (u:b < 18446744073709551616) (C:a < 64) (F:World):
 Calls prog 279 #[.int .u64 (b:Int),(a:Int),.bool i] F fun j R=>j=.returned (.tuple #[.int .u64 ((nD b a i:Nat):Int),.bool (b.testBit a)])/\F=R:=by
 have D:=aEq b a C;have s:=aEq (b / 2) a C;obtain ⟨p,k⟩:=eqx (b % 2 ^ a);have z:p < 18446744073709551616:=by rw [<-k];exact wM b a u
 have O:b / 2 < 18446744073709551616:=oM;obtain ⟨q,e⟩:=eqx (b / 2 % 2 ^ a);have L:q < 18446744073709551616:=by rw [<-e];exact wM _ a O
 obtain ⟨g,o⟩:=eqx (b / 2);have Z:(b:Int)/ 2=(g:Int):=oM;have v:g < 18446744073709551616:=oM;obtain ⟨r,f⟩:=eqx ((if i then 9223372036854775808 else 0:Nat));have M:r < 18446744073709551616:=by rw [<-f];split <;> omega
 have I:=aCS g q v L;obtain ⟨w,n⟩:=eqx (g&&&(18446744073709551615 - q));have E:w < 18446744073709551616:=by rw [<-n];exact aCT _ oM
 have H:=aGd p w z E;obtain ⟨d,m⟩:=eqx (p||| w);have N:d < 18446744073709551616:=by rw [<-m];exact aFi z E
 have y:=aGd d r N M;have B:nD b a i=d||| r:=by unfold nD;rw [k,o,f];rw [o] at e;rw [e,n,m]
 obtain ⟨c,l⟩:=eqx (b / 2 ^ a);have V:(b:Int)/ 2 ^ a=(c:Int):=by rw [<-l];push_cast;rfl
 have W:c < 18446744073709551616:=by rw [<-l];exact Nat.lt_of_le_of_lt (Nat.div_le_self _ _) u
 have K:bits .and .u64 (c:Int) 1=((c&&& 1:Nat):Int):=(bits_nat .u64 64 dC (fun a0 T U=>by rw [IntKind.wrap_u64];omega) c 1 oM dC).1;have t:(((c&&& 1:Nat):Int)==1)=b.testBit a:=by rw [Nat.testBit_eq_decide_div_mod_eq,l,Nat.and_one_is_mod,Bool.eq_iff_iff,zCq,zCa];omega
 obtain ⟨S,A⟩:=eqx (c&&& 1);rw [A] at K t;rw [m] at H;rw [n] at I;rw [B,<-t];have X:decide ((a:Int) < 0)=false:=by simp
 have Y:¬((a:Int)>=64):=oM;rw [o] at s e;obtain ⟨G,x⟩:=hqq2 (D.trans k) (s.trans e);clear B t D s k e o m n l A;go_enter func279,ntmps279;go_wp2_with fail;refine (qY b (a:Int) u oM _).mono ?_;rintro j w1 ⟨rfl,rfl⟩;rw [G.out];cases i with
 | true=>
   rw [zBx rfl] at f;subst f;have J:bits .or .u64 (d:Int) 9223372036854775808=((d||| 9223372036854775808:Nat):Int):=y;go_wp2_with fail;refine (qY g (a:Int) v oM _).mono ?_;rintro j w1 ⟨rfl,rfl⟩;rw [x.out];go_wp2_with fail;go_ret2;exact ⟨rfl,rfl⟩
 | false=>
   rw [zBw (by simp)] at f;subst f;have J:bits .or .u64 (d:Int) 0=((d||| 0:Nat):Int):=y;go_wp2_with fail;refine (qY g (a:Int) v oM _).mono ?_;rintro j w1 ⟨rfl,rfl⟩;rw [x.out];go_wp2_with fail;go_ret2;exact ⟨by rw [Nat.or_zero];rfl,rfl⟩
end
section
def kT:Nat->Nat->List UInt8
 | 0,_=> []
 | f+1,n=>if n=0 then [] else kT f (n / 128)++ [UInt8.ofNat (n % 128+128)]
def cE (a:Nat):List UInt8:=kT 10 (a / 128)++ [UInt8.ofNat (a % 128)]
def dS (a:List Nat):List UInt8:=a.flatMap cE
def eK:List UInt8->Bool->Nat->Nat->Option (Nat×Nat)
 | [],_,_,_=>none
 | c::r,first,acc,pos=>
   if (first&&c.toNat==128)||decide (144115188075855871 < acc) then none
   else if c.toNat < 128 then some (acc*128+c.toNat % 128,pos+1) else eK r false (acc*128+c.toNat % 128) (pos+1)
def eJ (b:List UInt8) (a:Int):Nat×Int×Int:=
 if a < 0∨(b.length:Int) < a then (0,a,2)
 else match eK (b.drop a.toNat) true 0 a.toNat with
    | some (c,d)=>(c,d,0)
    | none=>(0,a,4)
def aBa:Nat->Nat->List UInt8
 | 0,_=> []
 | k+1,n=>aBa k n++ [UInt8.ofNat (n / 256 ^ k % 256)]
def rG (a:Nat):List UInt8:=aBa 4 a
def ofN (b:List UInt8) (a:Nat):Nat->Nat
 | 0=>0
 | k+1=>ofN b a k+(b[a+k]?.getD 0).toNat*256 ^ k
def ofB (b:List UInt8) (a:Int):Nat×Int:=
 if a < 0∨(b.length:Int) < a then (0,2) else if (b.length:Int) - a < 4 then (0,4) else (ofN b a.toNat 4,0)
def aJ4 (c:List UInt8) (b:Nat) (a:Nat):ofN c b a < 256 ^ a:=by
 induction a with
 | zero=>simp [ofN]
 | succ a e=>
   have:(c[b+a]?.getD 0).toNat < 256:=UInt8.toNat_lt _;simp only [ofN,Nat.pow_succ];have d:(c[b+a]?.getD 0).toNat*256 ^ a<=255*256 ^ a:=Nat.mul_le_mul_right _ oM;omega
def lU (a:UInt8) (d:List UInt8) (first:Bool) (b c:Nat):eK (a::d) first b c=
 if (first&&a.toNat==128)||decide (144115188075855871 < b) then none
 else if a.toNat < 128 then some (b*128+a.toNat % 128,c+1) else eK d false (b*128+a.toNat % 128) (c+1):=by conv=>lhs;rw [eK]
def sQ (a:Nat):kT a 0= []:=by cases a <;> simp [kT]
def aGb (b:Nat):∀a,a < 128 ^ b->kT (b+1) a=kT b a:=by
 induction b with
 | zero=>intro a c;have:a=0:=by simpa using c
         subst this;simp [kT]
 | succ b e=>
   intro a c;by_cases d:a=0
   · subst d;simp [sQ]
   · rw [kT,zBw d,e (a / 128) (by rw [Nat.div_lt_iff_lt_mul oM];rw [Nat.pow_succ] at c;exact c)]
     conv=>rhs;rw [kT,zBw d]
def aGa (a:Nat) (b:a≠0) (c:a < 128 ^ 10):kT 10 a=kT 10 (a / 128)++ [UInt8.ofNat (a % 128+128)]:=by
 rw [aGb 9 (a / 128) oM]
 conv=>lhs;rw [kT,zBw b]
def aCt (a:Nat):∀b,(kT a b).length<=a:=by
 induction a with
 | zero=>intro b;simp [kT]
 | succ a c=>
   intro b;unfold kT;split
   · simp
   have:=c (b / 128);simp;omega
def dL (a:Nat):(cE a).length<=11:=by
 have:=aCt 10 (a / 128);simp [cE];omega
def wZ (a:List Nat):(dS a).length<=11*a.length:=by
 induction a with
 | nil=>simp [dS]
 | cons b a c=>
   have:=dL b;simp [dS] at c⊢;omega
def aCK (b:List Nat) (a:Nat) (c:Nat) (d:b[a]?=some c):dS (b.take (a+1))=dS (b.take a)++cE c:=by
 have e:a < b.length:=(zAc.1 d).1;rw [List.take_succ_eq_append_getElem e];have:b[a]=c:=(zAc.1 d).2;rw [this];simp [dS,List.flatMap_append]
def aJj (b c a:Nat) (f:c+1<=a) (e:a=0∨1<=b / 2 ^(7*a)):b / 2 ^(7*(c+1))≠0:=by
 have g:1<=b / 2 ^(7*a):=by rcases e with d | d <;> omega
 have i:b / 2 ^(7*a)<=b / 2 ^(7*(c+1)):=Nat.div_le_div_left (zBp oM oM) (Nat.pow_pos oM);omega
def aJ7 (a b:Nat) (c:a < 18446744073709551616):a / 2 ^(7*(b+1)) < 128 ^ 9:=by
 have d:a / 2 ^(7*(b+1))<=a / 2 ^ 7:=Nat.div_le_div_left (zBp oM oM) (Nat.pow_pos oM);omega
def aKh (b a:Nat):b / 2 ^(7*(a+1))=b / 2 ^(7*a)/ 128:=by
 rw [Nat.div_div_eq_div_mul,show 7*(a+1)=7*a+7 by omega,Nat.pow_add]
def aFX (b a:Nat) (e:b < 18446744073709551616) (f:a<=9) (d:128<=b / 2 ^(7*a)):a+1<=9:=by
 by_cases c:a=9;subst c;rw [Nat.le_div_iff_mul_le dC] at d;omega;omega
def pQ (a:Nat):dS [a]=cE a:=by simp [dS]
def aGp (b:Nat):∀a e c,a < 128 ^ b->a < 144115188075855872->eK (kT b a++e) true 0 c=eK e (a==0) a (c+(kT b a).length):=by
 induction b with
 | zero=>intro a e c d _;have:a=0:=by simpa using d
         subst this;simp [kT]
 | succ b k=>
   intro a e c d l;by_cases f:a=0
   · subst f;simp [sQ]
   · rw [kT,zBw f,zCo,k (a / 128) _ c (by rw [Nat.div_lt_iff_lt_mul oM];rw [Nat.pow_succ] at d;exact d) oM];rw [List.singleton_append,lU];have j:(UInt8.ofNat (a % 128+128)).toNat=a % 128+128:=(by simp [UInt8.toNat_ofNat'];omega);rw [j,zBw,zBw oM]
     · have i:a / 128*128+(a % 128+128)% 128=a:=oM;rw [i,zAi,List.length_singleton,Nat.add_assoc];have:(a==0)=false:=(by simp [f]);rw [this]
     by_cases g:a / 128=0;simp [g];omega;simp [g];omega
def oD (a:Nat) (e:a < 18446744073709551616) (d:List UInt8) (b:Nat):eK (cE a++d) true 0 b=some (a,b+(cE a).length):=by
 unfold cE;rw [zCo,aGp 10 (a / 128) _ b oM oM,List.singleton_append,lU];have c:(UInt8.ofNat (a % 128)).toNat=a % 128:=by simp [UInt8.toNat_ofNat'];omega
 rw [c,zBw,zBx oM,zAi,List.length_singleton];congr 2;omega;simp;omega
def aIj (a:Nat):0 < (cE a).length:=by simp [cE]
def aIc (b d:List UInt8) (a:Nat) (c:a < 18446744073709551616):eJ (b++(cE a++d)) (b.length:Int)=(a,((b.length+(cE a).length:Nat):Int),0):=by
 rw [eJ,zBw (by simp;omega)];simp only [zBr,List.drop_left];rw [oD a c]
def dF (a:List (Int×Nat)) (b:Int):List (Int×Nat):=
 match a.getLast? with
 | some (c,d)=>if c=b then a.dropLast++ [(c,d+1)] else a++ [(b,1)]
 | none=> [(b,1)]
def bL (a:List Int):List (Int×Nat):=a.foldl dF []
def aCa (b:List Int) (a:Nat) (d:Int) (c:b[a]?=some d):bL (b.take (a+1))=dF (bL (b.take a)) d:=by
 have e:a < b.length:=(zAc.1 c).1;rw [List.take_succ_eq_append_getElem e,(zAc.1 c).2];simp [bL,List.foldl_append]
def gO (c:List (Int×Nat)) (a:Int) (b:Nat):dF (c++ [(a,b)]) a=c++ [(a,b+1)]:=by simp [dF]
def fV (d:List (Int×Nat)) (b a:Int) (c:Nat) (e:b≠a):dF (d++ [(b,c)]) a=d++ [(b,c)]++ [(a,1)]:=by simp [dF,e]
def aCc (a:Int):dF [] a= [(a,1)]:=by simp [dF]
def aCd (a:List (Int×Nat)) (b:Int):(dF a b).length<=a.length+1/\a.length<=(dF a b).length:=by
 rcases List.eq_nil_or_concat a with rfl |⟨f,⟨d,e⟩,rfl⟩
 · simp [dF]
 · rw [List.concat_eq_append];by_cases c:d=b
   · subst c;rw [gO];simp
   · rw [fV _ _ _ _ c];simp
def lJ (a:List Int):(bL a).length<=a.length:=by
 have e:∀(a:List Int) (b:List (Int×Nat)),(a.foldl dF b).length<=b.length+a.length:=by
  intro a
  induction a with
  | nil=>intro b;simp
  | cons c a d=>intro b;have:=d (dF b c);have f:=(aCd b c).1;simp only [List.foldl_cons,zCg];omega
 have:=e a [];simpa [bL] using this
def eL (b:List (Int×Nat)):List Int:=b.flatMap fun a=>List.replicate a.2 a.1
def aCI (a:List (Int×Nat)) (b:Int):eL (dF a b)=eL a++ [b]:=by
 rcases List.eq_nil_or_concat a with rfl |⟨f,⟨d,e⟩,rfl⟩
 · simp [dF,eL]
 · rw [List.concat_eq_append];by_cases c:d=b
   · subst c;rw [gO];simp [eL,List.flatMap_append,List.replicate_succ']
   · rw [fV _ _ _ _ c];simp [eL,List.flatMap_append]
def nC (a:List Int):eL (bL a)=a:=by
 have d:∀(a:List Int) (b:List (Int×Nat)),eL (a.foldl dF b)=eL b++a:=by
  intro a
  induction a with
  | nil=>intro b;simp
  | cons e a c=>intro b;rw [List.foldl_cons,c,aCI];simp
 have:=d a [];simpa [bL,eL] using this
def tC (a:List (Int×Nat)):Prop:=(∀e∈a,1<=e.2)/\a.Pairwise (fun _ _=>True)/\∀d b c,a[d]?=some b->a[d+1]?=some c->b.1≠c.1
def aD3 (k:List (Int×Nat)) (l:Int) (s:tC k):tC (dF k l):=by
 obtain ⟨r,_,n⟩:=s;refine ⟨?_,List.pairwise_of_forall (by intros;trivial),?_⟩
 · rcases List.eq_nil_or_concat k with rfl |⟨g,⟨f,j⟩,rfl⟩
   · simp [dF]
   · rw [List.concat_eq_append] at*
     by_cases e:f=l
     · subst e;rw [gO];intro p c;rcases zCp.1 c with c | c;exact r p (List.mem_append_left _ c)
       · have:=List.mem_singleton.1 c;subst this;simp
     · rw [fV _ _ _ _ e];intro p c;rcases zCp.1 c with c | c;exact r p c
       · have:=List.mem_singleton.1 c;subst this;simp
 · intro d m q b a;rcases List.eq_nil_or_concat k with rfl |⟨g,⟨f,j⟩,rfl⟩
   · simp [dF] at a
   · rw [List.concat_eq_append] at*
     by_cases e:f=l
     · subst e;rw [gO] at b a;have o:d+1 < (g++ [(f,j+1)]).length:=(zAc.1 a).1;simp at o;by_cases i:d+1=g.length;rw [zAo oM,i] at a;simp at a;rw [zAn oM] at b;have:=n d m (f,j) (by rw [zAn oM];exact b) (by rw [zAo oM,i];simp);rw [<-a];exact this
       · rw [zAn oM] at b a;exact n d m q (by rw [zAn oM];exact b) (by rw [zAn oM];exact a)
     rw [fV _ _ _ _ e] at b a;have o:d+1 < (g++ [(f,j)]++ [(l,1)]).length:=(zAc.1 a).1;simp at o;by_cases i:d=g.length;subst i;rw [zAn (by simp)] at b;simp at b;rw [zAo (by simp)] at a;simp at a;rw [<-b,<-a];exact e;rw [zAn (by simp;omega)] at b a;exact n d m q b a
def aAg (a:List Int):tC (bL a):=by
 have e:∀(a:List Int) (b:List (Int×Nat)),tC b->tC (a.foldl dF b):=by
  intro a
  induction a with
  | nil=>intro b c;exact c
  | cons f a d=>intro b c;exact d _ (aD3 b f c)
 exact e a [] ⟨by simp,List.Pairwise.nil,by simp⟩
def aEB (a:List (Int×Nat)) (d:Int×Nat) (b:d∈a):d.2<=(eL a).length:=by
 induction a with
 | nil=>cases b
 | cons c a f=>
   have e:eL (c::a)=List.replicate c.2 c.1++eL a:=(by simp [eL]);rw [e,zAi,zCn];rcases List.mem_cons.1 b with rfl | b;omega;have:=f b;omega
def pD (b:List Int) (a:Int×Nat) (c:a∈bL b):a.2<=b.length:=by
 have:=aEB _ a c;rwa [nC] at this
def jL (a:Int):Prop:=0<=a/\a < 257
instance (s:Int):Decidable (jL s):=inferInstanceAs (Decidable (_/\_))
def cS (a:Int×Nat):List UInt8:=cE a.1.toNat++cE a.2
def eZ (a:List (Int×Nat)):List UInt8:=cE a.length++a.flatMap cS
def qN (a:List Int):Option (List UInt8):=if ∀b∈bL a,jL b.1 then some (eZ (bL a)) else none
def tK (a:Int×Nat):(cS a).length<=22:=by
 have:=dL a.1.toNat;have:=dL a.2;simp [cS];omega
def yP (b:List (Int×Nat)) (a:Nat) (d:Int×Nat) (c:b[a]?=some d):(b.take (a+1)).flatMap cS=(b.take a).flatMap cS++cS d:=by
 have e:a < b.length:=(zAc.1 c).1;rw [List.take_succ_eq_append_getElem e,(zAc.1 c).2];simp [List.flatMap_append]
def tP (a:List (Int×Nat)):(a.flatMap cS).length<=22*a.length:=by
 induction a with
 | nil=>simp
 | cons b a c=>
   have:=tK b;rw [List.flatMap_cons,zAi,zCg];omega
def oO (b:List UInt8) (a:Nat):Option (Nat×Nat×Nat):=
 match eK (b.drop a) true 0 a with
 | none=>none
 | some (f,c)=>
   match eK (b.drop c) true 0 c with
   | none=>none
   | some (e,d)=>some (f,e,d)
def rgo (c:List UInt8) (e:Nat):Nat->Nat->Nat->List Int->List Int×Int
 | 0,a,_,acc=>if a=c.length then (acc,0) else ([],4)
 | n+1,a,last,acc=>
   match oO c a with
   | none=>([],4)
   | some (b,d,f)=>if 257<=b∨b=last∨d=0 then ([],4) else if e - acc.length < d then ([],3) else rgo c e n f b (acc++List.replicate d (b:Int))
def lT (a:List UInt8) (c:Int):List Int×Int:=
 match eK a true 0 0 with
 | none=>([],4)
 | some (d,b)=>rgo a c.toNat d b 257 []
def wT (f:List UInt8):∀first b d e c,eK f first b d=some (e,c)->d < c/\c<=d+f.length/\e < 18446744073709551616:=by
 induction f with
 | nil=>intro first b d e c a;rw [eK] at a;cases a
 | cons j l i=>
   intro first b d e c a
   rw [lU] at a;split at a
   · cases a
   · rename_i g
     split at a
     · injection a with a;injection a with h1 h2;subst h1;subst h2;have k:b<=144115188075855871:=(by rcases zBe 144115188075855871 b with a | a;exact absurd (by simp [a]) g;exact a);refine ⟨by omega,by simp,by omega⟩
     have:=i _ _ _ _ _ a;simp only [zCg];omega
def pK (b:List UInt8) (a d c:Nat) (f:a<=b.length) (e:eK (b.drop a) true 0 a=some (d,c)):eJ b (a:Int)=(d,(c:Int),0):=by
 rw [eJ,zBw oM];simp only [zBr,e]
def pM (b:List UInt8) (a:Nat) (d:a<=b.length) (c:eK (b.drop a) true 0 a=none):eJ b (a:Int)=(0,(a:Int),4):=by
 rw [eJ,zBw oM];simp only [zBr,c]
def aCn (b:List UInt8) (f g a e:Nat) (c:List Int) (d:oO b a=none):rgo b f (g+1) a e c=([],4):=by simp only [rgo,d]
def aCm (d:List UInt8) (e j f i:Nat) (c:List Int) (a b g:Nat) (k:oO d f=some (a,b,g)):
 rgo d e (j+1) f i c=if 257<=a∨a=i∨b=0 then ([],4) else if e - c.length < b then ([],3) else rgo d e j g a (c++List.replicate b (a:Int)):=by simp only [rgo,k]
def aCf (b:List UInt8) (a:Nat) (c:eK (b.drop a) true 0 a=none):oO b a=none:=by simp only [oO,c]
def aCe (b:List UInt8) (a f c:Nat) (d:eK (b.drop a) true 0 a=some (f,c)) (e:eK (b.drop c) true 0 c=none):oO b a=none:=by simp only [oO,d,e]
def vS (b:List UInt8) (a f c e d:Nat) (g:eK (b.drop a) true 0 a=some (f,c)) (i:eK (b.drop c) true 0 c=some (e,d)):oO b a=some (f,e,d):=by simp only [oO,g,i]
def rF (a:Nat):(rG a).length=4:=by simp [rG,aBa]
def aId (a e b:Nat) (g:b < a):(aBa a e)[b]?=some (UInt8.ofNat (e / 256 ^ b % 256)):=by
 induction a with
 | zero=>omega
 | succ a d=>
   have c:∀a,(aBa a e).length=a:=fun a=>by induction a with
    | zero=>rfl
    | succ a d=>simp [aBa,d]
   rw [aBa];by_cases f:b=a
   · subst f;rw [zAo (by rw [c];omega),c];simp
   · rw [zAn (by rw [c];omega),d oM]
def aJf (c f:List UInt8) (a:Nat) (j:a < 4294967296):ofB (c++(rG a++f)) (c.length:Int)=(a,0):=by
 have k:=rF a;rw [ofB,zBw (by simp;omega),zBw (by simp;omega)];have d:∀b,b < 4->(c++(rG a++f))[c.length+b]?=some (UInt8.ofNat (a / 256 ^ b % 256)):=fun b i=>by rw [zAo oM,Nat.add_sub_cancel_left,zAn oM];exact aId 4 a b i
 simp only [ofN,zBr];rw [d 0 oM,d 1 oM,d 2 oM,d 3 oM];have g:∀e:Nat,(UInt8.ofNat (e % 256)).toNat=e % 256:=fun e=>by simp [UInt8.toNat_ofNat']
 simp only [Option.getD_some,g];congr 1;simp only [Nat.reducePow,Nat.div_one,zBl];omega
def lV (a:Nat):Nat:=if a % 2=1 then (a / 2)^^^ 3988292384 else a / 2
def rJ:Nat->Nat->Nat
 | 0,s=>s
 | k+1,s=>lV (rJ k s)
def jR (a:Nat):Nat:=rJ 8 a
def tS:List UInt8->Nat->Nat
 | [],a=>a
 | c::r,a=>tS r (jR ((a % 256)^^^ c.toNat)^^^(a / 256))
def aBe (b:Nat) (a:List UInt8):Nat:=4294967295 - tS a (4294967295 - b)
def nE (a:List UInt8):Nat:=aBe 0 a
def aEE {a:Nat} (b:a < 4294967296):lV a < 4294967296:=by
 unfold lV;split;exact Nat.xor_lt_two_pow (n:=32) oM oM;omega
def xB {c:Nat} (b:c < 4294967296):∀a,rJ a c < 4294967296
 | 0=>b
 | a+1=>aEE (xB b a)
def aAq {a:Nat} (b:a < 256):jR a < 4294967296:=xB oM 8
def aIq {b:Nat} (c:b < 4294967296) (a:UInt8):(b % 256)^^^ a.toNat < 256:=Nat.xor_lt_two_pow (n:=8) oM a.toNat_lt
def aIp {a:Nat} (c:a < 4294967296) (b:UInt8):jR ((a % 256)^^^ b.toNat)^^^(a / 256) < 4294967296:=
 Nat.xor_lt_two_pow (n:=32) (aAq (aIq c b)) oM
def rK:∀(d:List UInt8) (b:Nat),b < 4294967296->tS d b < 4294967296
 | [],_,a=>a
 | c::r,b,a=>rK r _ (aIp a c)
def xC:∀(c:List UInt8) (a:UInt8) (b:Nat),tS (c++ [a]) b=jR ((tS c b % 256)^^^ a.toNat)^^^(tS c b / 256)
 | [],_,_=>rfl
 | d::r,a,b=>xC r a _
def aFA (a:List UInt8):nE a < 4294967296:=by
 unfold nE aBe;have:=rK a (4294967295 - 0) oM;omega
def dX (a:List UInt8):List UInt8:=cE a.length++(a++rG (nE a))
def gQ:List UInt8:= [83,75,82,49]
def vO (d:List Nat) (a b:Nat):List UInt8:=(List.range (b / a+1)).flatMap fun c=>cE (d.idxOf (c*a))
def jA (a:List Nat):List Int:=a.map fun b:Nat=>(b:Int)
def gE (a:List Nat):List UInt8:=eZ (bL (jA a))
def oR (c e:List Nat) (d b a:Nat):List UInt8:=gQ++(dS [d,b,a]++(dX (gE c)++dX (vO e b a)))
def eI (a e:List Nat) (c d b:Nat):List UInt8:=oR a e c d b++rG (nE (oR a e c d b))
def wH {d a r:List UInt8} {b c e:Nat} (f:d=a++(cE b++r)) (g:a.length=c) (j:c+(cE b).length=e) (i:b < 18446744073709551616):eJ d (c:Int)=(b,(e:Int),0):=by
 rw [f,<-j,<-g];exact aIc a r b i
structure SnAt (body:List UInt8) (most rate N:Nat) (f s:List UInt8) (p1 p2 p3 p4 p5:Nat):Prop where
 e1:body=gQ++(cE most++(cE rate++(cE N++(dX f++dX s))))
 h1:4+(cE most).length=p1
 h2:p1+(cE rate).length=p2
 h3:p2+(cE N).length=p3
 h4:p3+(dX f).length=p4
 h5:p4+(dX s).length=p5
def aCO (c e:List Nat) (d b a:Nat):oR c e d b a=gQ++(cE d++(cE b++(cE a++(dX (gE c)++dX (vO e b a))))):=by
 unfold oR;simp [dS]
def SnAt.of (c e:List Nat) (d b a:Nat):∃g i j k f,SnAt (oR c e d b a) d b a (gE c) (vO e b a) g i j k f/\(oR c e d b a).length=f:=by
 refine ⟨_,_,_,_,_,⟨aCO c e d b a,rfl,rfl,rfl,rfl,rfl⟩,?_⟩;rw [aCO];simp [gQ];omega
def SnAt.n1 {c g o:List UInt8} {b n f e j k l m:Nat} (d:SnAt c b n f g o e j k l m) (i:b < 18446744073709551616):eJ c 4=(b,(e:Int),0):=
 wH (a:=gQ) d.e1 rfl d.h1 i
def SnAt.n2 {e f k:List UInt8} {g c d i j m n o:Nat} (b:SnAt e g c d f k i j m n o) (l:c < 18446744073709551616):eJ e (i:Int)=(c,(j:Int),0):=
 wH (a:=gQ++cE g) (r:=cE d++(dX f++dX k)) (by rw [b.e1];simp) (by rw [zAi];have:=b.h1;have:gQ.length=4:=rfl;omega) b.h2 l
def SnAt.n3 {d e k:List UInt8} {f j c m g i n o:Nat} (b:SnAt d f j c e k m g i n o) (l:c < 18446744073709551616):eJ d (g:Int)=(c,(i:Int),0):=
 wH (a:=gQ++(cE f++cE j)) (r:=dX e++dX k) (by rw [b.e1];simp) (by rw [zAi,zAi];have:=b.h1;have:=b.h2;have:gQ.length=4:=rfl;omega) b.h3 l
def jF (a:List UInt8):(dX a).length=(cE a.length).length+(a.length+4):=by
 unfold dX;rw [zAi,zAi,rF]
def SnAt.f1 {c b m:List UInt8} {f j e p q d g r:Nat} (a:SnAt c f j e b m p q d g r) (o:b.length < 18446744073709551616):
 ∃i:Nat,eJ c (d:Int)=(b.length,(i:Int),0)/\i+(b.length+4)=g/\(c.drop i).take b.length=b/\g<=c.length:=by
 have k:c=(gQ++(cE f++(cE j++cE e)))++(cE b.length++((b++rG (nE b))++dX m)):=by rw [a.e1];simp [dX]
 have l:(gQ++(cE f++(cE j++cE e))).length=d:=by simp only [zAi];have:=a.h1;have:=a.h2;have:=a.h3;have:gQ.length=4:=rfl;omega
 refine ⟨d+(cE b.length).length,wH k l rfl o,?_,?_,?_⟩;have:=a.h4;rw [jF] at this;omega
 · rw [k,<-zCo,List.drop_left' (by rw [zAi,l]),zCo,List.take_left' rfl]
 have w:=a.h5;have n:=congrArg List.length a.e1;simp only [zAi] at n;have s:=a.h1;have t:=a.h2;have u:=a.h3;have v:=a.h4;have x:gQ.length=4:=rfl;omega
def SnAt.f2 {c f b:List UInt8} {g k e p q r d i:Nat} (a:SnAt c g k e f b p q r d i) (o:b.length < 18446744073709551616):
 ∃j:Nat,eJ c (d:Int)=(b.length,(j:Int),0)/\j+(b.length+4)=i/\(c.drop j).take b.length=b/\i=c.length:=by
 have l:c=(gQ++(cE g++(cE k++(cE e++dX f))))++(cE b.length++((b++rG (nE b))++ [])):=by rw [a.e1];simp [dX]
 have m:(gQ++(cE g++(cE k++(cE e++dX f)))).length=d:=by simp only [zAi];have:=a.h1;have:=a.h2;have:=a.h3;have:=a.h4;have:gQ.length=4:=rfl;omega
 refine ⟨d+(cE b.length).length,wH l m rfl o,?_,?_,?_⟩;have:=a.h5;rw [jF] at this;omega
 · rw [l,<-zCo,List.drop_left' (by rw [zAi,m]),zCo,List.take_left' rfl]
 have w:=a.h5;have n:=congrArg List.length a.e1;simp only [zAi] at n;have s:=a.h1;have t:=a.h2;have u:=a.h3;have v:=a.h4;have x:gQ.length=4:=rfl;omega
end
section
open Go.RowKit
def kE:(prog.info? 5).map (fun a=>(a.zero,a.size,a.bytes))=some (some (.int .u8 0),1,1):=by kernel_rfl
def uv (a:Nat):Value:=.int .u64 (a:Int)
def aKz (a:Nat):bits .or .u8 ((a:Int)% 256) 128=((a % 128+128:Nat):Int):=by
 have c:∀b:Fin 256,bits .or .u8 ((b.val:Nat):Int) 128=((b.val % 128+128:Nat):Int):=by decide+kernel
 have:=c ⟨a % 256,by omega⟩;simp only at this;rw [show ((a:Int)% 256)=((a % 256:Nat):Int) by omega,this];omega
def aKo (a:Nat):bits .and .u8 ((a:Int)% 256) 127=((a % 128:Nat):Int):=by
 have c:∀b:Fin 256,bits .and .u8 ((b.val:Nat):Int) 127=((b.val % 128:Nat):Int):=by decide+kernel
 have:=c ⟨a % 256,by omega⟩;simp only at this;rw [show ((a:Int)% 256)=((a % 256:Nat):Int) by omega,this];omega
def aKB (b a:Nat):Value.int .u8 (bits .or .u8 ((b:Int)/ 2 ^ a % 256) 128)=bv (UInt8.ofNat (b / 2 ^ a % 128+128)):=by
 have:((b:Int)/ 2 ^ a)=((b / 2 ^ a:Nat):Int):=by push_cast;rfl
 rw [this,aKz];unfold bv;congr 1;simp [UInt8.toNat_ofNat'];omega
def aKk (a:Nat):Value.int .u8 (bits .and .u8 ((a:Int)% 256) 127)=bv (UInt8.ofNat (a % 128)):=by
 rw [aKo];unfold bv;congr 1;simp [UInt8.toNat_ofNat'];omega
def aJC (y:Option Addr) (i R:Nat) (e:List Nat) (d:World) (w:Rd d d.heap.size 1 y i (e.map uv)) (D:∀a∈e,a < 18446744073709551616) (af:i<=100000):
 Calls prog 39 #[.slice y i R] d fun S K=>∃l b,S=.returned l/\K.ownsRow d.heap.size 5 1 l b ((dS e).map bv)/\Below d.heap.size d K:=by
 obtain ⟨J,C,G,H,I⟩:=info_parts kE;obtain ⟨O,M⟩:=hqq2 w D;have E:=w.1;have A:=lhd E;clear w D E;go_enter func39,ntmps39;go_wp2;go_loopw [3,9] (fun l f wr=>∃b r:Nat,b<=i/\f=.int .i64 b/\wr.ownsRow d.heap.size 5 1 l r ((dS (e.take b)).map bv)/\Below d.heap.size d wr) (fun _ f _=>i -(intOf f).toNat)
 case atStart=>exact ⟨0,0,zAp _,rfl,World.ownsRow_nil _ _ _ _,Below.refl _ _⟩
 case round=>
  obtain ⟨b,r,ae,rfl,v,s⟩:=hrel;by_cases a4:b < i
  · have a8:∃a,e[b]?=some a:=(by have:=A.out;simp at this;exact ⟨e[b]' oM,zAa oM⟩);obtain ⟨a,q⟩:=a8;obtain ⟨ab,ah,ai,rfl,ad,x,Y⟩:=(O.out.below s).get a4;rw [zAf,q] at x;simp at x;subst x;unfold uv at Y;have F:a < 18446744073709551616:=M.out a (zAd q);obtain ⟨N,z⟩:=hqq2 q F;clear q F;go_wp2
    go_loop [6] (fun k=>∃c:Nat,c<=9/\k=.int .i64 (7*(c:Int))/\(c=0∨1<=a / 2 ^(7*c))) (fun k=>100 -(intOf k).toNat)
    case atStart=>exact ⟨0,by omega,rfl,.inl rfl⟩
    case round=>
        obtain ⟨c,a0,rfl,Z⟩:=hrel;go_wp2
        · have W:(128:Int)<=(a:Int)/ 2 ^(7*c):=(by assumption);have X:128<=a / 2 ^(7*c):=(by exact_mod_cast W);have a2:=aFX a c z.out a0 X;refine ⟨⟨c+1,a2,by go_num,.inr (by rw [aKh];omega)⟩,by simp [intOf];omega⟩
        · have a6:(a:Int)/ 2 ^(7*c) < 128:=(by assumption);have a7:a / 2 ^(7*c) < 128:=(by exact_mod_cast a6);go_loopw [3,6] (fun l k L=>∃g j:Nat,g<=c/\k=.int .i64 (7*(g:Int))/\L.ownsRow d.heap.size 5 1 l j ((dS (e.take b)++kT 10 (a / 2 ^(7*(g+1)))).map bv)/\Below d.heap.size d L) (fun _ k _=>(intOf k).toNat)
          case atStart=>exact ⟨c,r,zAs _,rfl,by rw [aKh,Nat.div_eq_of_lt a7];simpa [sQ] using v,s⟩
          case round=>
           obtain ⟨g,j,a1,rfl,m,t⟩:=hrel;have o:=t.size;have ag:j<=1100010:=(by have U:=m.1;have V:=wZ (e.take b);have ac:=aCt 10 (a / 2 ^(7*(g+1)));simp at U V;omega);by_cases T:g=0
           · subst T;go_wp2_with (at_builtin;refine bO _ rfl (.tmp 33) (.tmp 37) _ rfl d.heap.size 5 J (.int .u8 0) 1 1 underlying26 C G H I rfl dC u3 j _ rfl m rfl rfl (by simp [Value.oneCell']) (by unfold maxLen;omega) oM o ?_;intro a9 aa n p a5 B);have u:=aZ t m p o;clear p B;go_roundw
             case rel=>refine ⟨b+1,j+1,by omega,by go_num,?_,u⟩;rw [aCK e b a N.out];rw [aKk] at n;simpa [cE] using n
             case measure=>simp [intOf];omega
           · go_wp2_with (at_builtin;refine bO _ rfl (.tmp 24) (.tmp 31) _ rfl d.heap.size 5 J (.int .u8 0) 1 1 underlying26 C G H I rfl dC u3 j _ rfl m rfl rfl (by simp [Value.oneCell']) (by unfold maxLen;omega) oM o ?_;intro a9 aa n p a5 B);have u:=aZ t m p o;refine ⟨⟨g - 1,j+1,by omega,dI oM,?_,u⟩,by simp [intOf];omega⟩;rw [aKB] at n;obtain ⟨f,rfl⟩:∃f,g=f+1:=⟨g - 1,by omega⟩;rw [zBb,aGa (a / 2 ^(7*(f+1))),<-aKh];simpa using n;exact aJj a f c a1 Z;exact zAl (aJ7 a f z.out) dC
  · have a3:b=i:=oM;subst a3;go_wp2;go_ret;refine ⟨u3,r,rfl,?_,s⟩;have:e.take b=e:=zAg (by have:=A.out;simp at this;omega);rw [this] at v;exact v
def aJD (f:Option Addr) (e k j:Nat) (a:List Nat) (b:World) (s:Rd b j 1 f e (a.map uv)) (n:j<=b.heap.size) (r:∀u∈a,u < 18446744073709551616) (g:e<=100000):
 Calls prog 39 #[.slice f e k] b fun l i=>∃c d,l=.returned (.slice c (dS a).length d)/\Made i b.heap.size 5 1 c (dS a).length d ((dS a).map bv)/\Below b.heap.size b i:=by
 refine (aJC f e k a b (s.mono n) r g).mono fun l i ⟨v,t,p,m,o⟩=>?_;have q:(dS a).length=t:=by simpa using m.1
 subst q;obtain ⟨c,d,rfl,g⟩:=aT m;exact ⟨c,d,p,g,o⟩
def yD (d:Option Addr) (c j e:Nat) (b:List Nat) (a:World) (f:List UInt8) (g:Nat) (o:dS b=f) (p:f.length=g) (s:Rd a e 1 d c (b.map uv)) (n:e<=a.heap.size) (q:∀t∈b,t < 18446744073709551616) (r:c<=100000):
 Calls prog 39 #[.slice d c j] a fun m l=>∃i k,m=.returned (.slice i g k)/\Made l a.heap.size 5 1 i g k (f.map bv)/\Below a.heap.size a l:=by
 subst o;subst p;exact aJD d c j e b a s n q r
def kA (a:Int×Nat):List Value:= [iv a.1,iv (a.2:Int)]
def cJ (a:List (Int×Nat)):List Value:=a.flatMap kA
def qM (a:List (Int×Nat)):(cJ a).length=a.length*2:=by
 induction a with
 | nil=>rfl
 | cons b a d=>
   have c:cJ (b::a)=kA b++cJ a:=(by simp [cJ]);rw [c,zAi,d,zCg];simp [kA];omega
def iX (a b:List (Int×Nat)):cJ (a++b)=cJ a++cJ b:=by simp [cJ,List.flatMap_append]
def jC (b:List (Int×Nat)) (a d:Nat) (g:Int×Nat) (c:b[a]?=some g) (k:d < 2):(cJ b)[a*2+d]?=(kA g)[d]?:=by
 induction b generalizing a with
 | nil=>simp at c
 | cons e b j=>
   have f:cJ (e::b)=kA e++cJ b:=(by simp [cJ]);have i:(kA e).length=2:=rfl;rcases a with _ | a
   · simp at c;subst c;rw [f,Nat.zero_mul,zBi,zAn oM]
   simp only [zCf] at c;rw [f,zAo oM,i,show (a+1)*2+d - 2=a*2+d by omega];exact j a c
def aHv:(prog.info? 139).map (fun a=>(a.zero,a.size,a.bytes))=some (some (.agg #[.int .i64 0,.int .i64 0]),2,16):=by kernel_rfl
def aKr (J:Option Addr) (j a2 K:Nat) (e:List Int) (g:World) (F:Rd g K 1 J j (e.map iv)) (ab:K<=g.heap.size) (aB:j<=1099511627776):
 Calls prog 97 #[.slice J j a2] g fun a4 Z=>∃w,a4=.returned w/\Z.ownsRow g.heap.size 139 2 w (bL e).length (cJ (bL e))/\Below g.heap.size g Z:=by
 obtain ⟨Y,L,V,W,X⟩:=info_parts aHv;have O:e.length=j:=by simpa using F.1
 obtain ⟨x,a1⟩:=hqq2 O (F.mono ab);clear F O;go_enter func97,ntmps97;go_wp2;go_loopw [3,9] (fun w I wr=>∃c:Nat,c<=j/\I=.int .i64 c/\wr.ownsRow g.heap.size 139 2 w (bL (e.take c)).length (cJ (bL (e.take c)))/\Below g.heap.size g wr) (fun _ I _=>j -(intOf I).toNat)
 case atStart=>exact ⟨0,zAp _,rfl,World.ownsRow_nil _ _ _ _,Below.refl _ _⟩
 case round=>
  obtain ⟨c,aA,rfl,f,n⟩:=hrel;have v:=n.size;by_cases ah:c < j
  · obtain ⟨m,G⟩:∃m,e[c]?=some m:=⟨e[c]'(by have:=x.out;omega),zAa (by have:=x.out;omega)⟩;obtain ⟨ap,aF,aG,rfl,aw,H,ac⟩:=(a1.out.below n).get ah;rw [zAf,G] at H;simp at H;subst H;unfold iv at ac;have R:=aCa e c m G;have N:=lJ (e.take c);rw [zAj] at N;have D:∀b∈bL (e.take c),b.2<=j:=fun b al=>by have:=pD _ b al;rw [zAj] at this;omega
    generalize bL (e.take c)=r at*
    have y:=lhd R;clear R G;rcases List.eq_nil_or_concat r with rfl |⟨k,⟨b,d⟩,rfl⟩
    · obtain ⟨a0,a3,rfl,ai⟩:=aT f;have ag:([]:List (Int×Nat)).length=0:=rfl;rw [ag] at*
      clear ai D;go_wp2_with (at_builtin;refine bO _ rfl (.tmp 36) (.tmp 39) _ rfl g.heap.size 139 Y _ 2 16 underlying136 L V W X rfl dC (.slice a0 0 a3) 0 _ rfl f rfl rfl (by simp [Value.oneCell']) (by unfold maxLen;omega) oM v ?_;intro an ao E q aj B);have C:=aZ n f q v;clear q B;go_roundw
      case rel=>refine ⟨c+1,by omega,by go_num,?_,C⟩;rw [y.out,aCc];exact E
      case measure=>simp [intOf];omega
    · rw [List.concat_eq_append] at*
      obtain ⟨a,s⟩:=eqx k.length;have M:(k++ [(b,d)]).length=a+1:=(by simp [s]);rw [M] at f N;obtain ⟨i,l,u,rfl,ad,ae,aD,ax,_⟩:∃i l u,u3=.slice (some ⟨i,0,none⟩) (a+1) l/\g.heap.size<=i/\wr.heap[i]?=some (.cells u 139 (0,0))/\a+1<=l/\l<=maxLen/\True:=(by rcases f.2 with ⟨_,av⟩|⟨i,l,u,a6,a7,a8,a9,aa,_⟩;omega;exact ⟨i,l,u,a6,a7,a8,a9,aa,trivial⟩);have T:(cJ (k++ [(b,d)]))[a*2]?=some (iv b):=(by have:=jC (k++ [(b,d)]) a 0 (b,d) (by rw [zAo oM,s];simp) oM;simpa [kA] using this);have U:(cJ (k++ [(b,d)]))[a*2+1]?=some (iv d):=(by have:=jC (k++ [(b,d)]) a 1 (b,d) (by rw [zAo oM,s];simp) oM;simpa [kA] using this);have ar:wr.cell? ⟨i,a*2,none⟩=some (.int .i64 b):=(f.cellAt (a*2) oM).trans T;have au:wr.cell? ⟨i,a*2+1,none⟩=some (.int .i64 (d:Int)):=(f.cellAt (a*2+1) oM).trans U;have aq:=f.frozenAt (a*2+1);have aC:(d:Int)<=1099511627776:=(by have:=D (b,d) (by simp);simp only at this;omega);have aE:((a+1:Nat):Int) - 1=(a:Int):=oM;have t:=lhd s;clear T U s M ae D;by_cases o:b=m
      · have am:(b==m)=true:=(by rw [zCq];exact o);have z:=lhd o;clear o;go_wp2;obtain ⟨ak,az⟩:=f.stored (a*2+1) (.int .i64 ((d:Int)+1));refine ⟨⟨c+1,by omega,by go_num,?_,n.setCell (p:=⟨i,a*2+1,none⟩) ad _⟩,by simp [intOf];omega⟩;rw [y.out,<-z.out,gO];have A:(k++ [(b,d+1)]).length=a+1:=(by simp [t.out]);have a5:(cJ (k++ [(b,d)])).set (a*2+1) (.int .i64 ((d:Int)+1))=cJ (k++ [(b,d+1)]):=(by rw [iX,iX,List.set_append_right _ _ (by rw [qM,t.out];omega),qM,t.out];congr 1;rw [show a*2+1 - a*2=1 by omega];rfl);rw [A,<-a5];exact ak
      · have am:(b==m)=false:=(by rw [zCb];exact o);have z:=lhd o;clear o;go_wp2_with (at_builtin;refine bO _ rfl (.tmp 36) (.tmp 39) _ rfl g.heap.size 139 Y _ 2 16 underlying136 L V W X rfl dC (.slice (some ⟨i,0,none⟩) (a+1) l) (a+1) _ rfl f rfl rfl (by simp [Value.oneCell']) (by unfold maxLen;omega) oM v ?_;intro an ao E q aj B);have C:=aZ n f q v;clear q B;go_roundw
        case rel=>refine ⟨c+1,by omega,by go_num,?_,C⟩;rw [y.out,fV _ _ _ _ z.out,iX];have A:(k++ [(b,d)]++ [(m,1)]).length=a+1+1:=(by simp [t.out]);rw [A];exact E
        case measure=>simp [intOf];omega
  · have af:c=j:=oM;have S:e.take c=e:=zAg (by have:=x.out;omega);have ay:j<=c:=oM;rw [S] at f;clear af S;go_wp2;go_ret;exact ⟨u3,rfl,f,n⟩
def aII (e:Option Addr) (d m f:Nat) (i:List Int) (a:World) (k:List (Int×Nat)) (j:Nat) (o:bL i=k) (s:k.length=j) (u:Rd a f 1 e d (i.map iv)) (p:f<=a.heap.size) (g:d<=1099511627776):
 Calls prog 97 #[.slice e d m] a fun n l=>∃b c,n=.returned (.slice b j c)/\Made l a.heap.size 139 2 b j c (cJ k)/\Below a.heap.size a l:=by
 subst o;subst s;refine (aKr e d m f i a u p g).mono fun n l ⟨v,r,t,q⟩=>?_;obtain ⟨b,c,rfl,g⟩:=aT t;exact ⟨b,c,r,g,q⟩
def gT (b a:List UInt8) (d:Nat):List Nat:=(List.range d).filter fun c=>a.isPrefixOf (b.drop c)
def fH (b a:List UInt8):List Nat:=gT b a (b.length+1 - a.length)
def nv (a:Nat):Value:=iv (a:Int)
def aEv (c b:List UInt8) (a:Nat) (d:b.isPrefixOf (c.drop a)=true):gT c b (a+1)=gT c b a++ [a]:=by
 simp [gT,List.range_succ,List.filter_append,d]
def aAm (b a:List UInt8) (c:Nat) (d:a.isPrefixOf (b.drop c)=false):gT b a (c+1)=gT b a c:=by
 simp [gT,List.range_succ,List.filter_append,d]
def aAn (c b:List UInt8) (a:Nat):(gT c b a).length<=a:=by
 have:=zCu (fun d=>b.isPrefixOf (c.drop d)) (List.range a);rw [zCi] at this;exact this
structure Told where
 code:Int
 num:Int
 data:List UInt8
 places:List Nat
def jN (a:Told) (b:Option Addr) (d:Nat) (c:Option Addr) (e:Nat):Array Value:=#[.int .i64 a.code,.int .i64 a.num,.slice b a.data.length d,.slice c a.places.length e]
def aY (d f c:Int) (a:Option Addr) (e b:Nat):Value:=.agg #[.int .i64 d,.int .i64 f,.int .i64 c,.slice a e b]
def bB (c:World) (a:Nat) (b:TypeId):Made c a b 1 none 0 0 []:=⟨World.ownsRow_nil _ _ _ _,Rd.nil _ _ _ _,zAs _,zAp _⟩
def iE (c:Nat) (a b:Int):Bool:=decide (0<=a/\0<=b/\a<=(c:Int)/\b<=(c:Int) - a)
def doM (a:List UInt8) (f d b e:Int) (c:List UInt8):List UInt8×Told:=
 if d=1 then
    if iE a.length b 0=false then (a,⟨2,0, [], []⟩) else if f -(a.length:Int) < (c.length:Int) then (a,⟨3,0, [], []⟩) else (a.take b.toNat++(c++a.drop b.toNat),⟨0,0, [], []⟩)
 else if d=2 then
    if iE a.length b e=false then (a,⟨2,0, [], []⟩) else (a.take b.toNat++a.drop (b.toNat+e.toNat),⟨0,0, [], []⟩)
 else if d=5 then
    if iE a.length b e=false then (a,⟨2,0, [], []⟩) else (a,⟨0,0,(a.drop b.toNat).take e.toNat, []⟩)
 else if d=3 then
    if iE a.length b (c.length:Int)=false then (a,⟨2,0, [], []⟩) else (a.take b.toNat++(c++a.drop (b.toNat+c.length)),⟨0,0, [], []⟩)
 else if d=4 then (a,⟨0,(a.length:Int), [], []⟩)
 else if d=6 then (a,⟨0,((fH a c).length:Int), [], []⟩)
 else if d=7 then (a,⟨0,((fH a c).length:Int), [],fH a c⟩)
 else if d=8 then (a,⟨0,0, [], []⟩)
 else (a,⟨1,0, [], []⟩)
def iH {f:Nat} {b a:Int} (e:iE f b a=true):∃c d:Nat,b=(c:Int)/\a=(d:Int)/\c+d<=f:=by
 unfold iE at e;have:=of_decide_eq_true e;exact ⟨b.toNat,a.toNat,by omega,by omega,by omega⟩
end
section
def uG (b:List UInt8) (a:Nat) (c:List UInt8):List UInt8:=b.take a++(c++b.drop a)
def aH3 (a:List UInt8) (b:Nat):uG a b []=a:=by
 unfold uG;rw [List.nil_append,zAu]
def wL (a:List UInt8) {k:Nat} (b:List UInt8) (c:k<=a.length):(uG a k b).length=a.length+b.length:=by
 unfold uG;rw [zAi,zAi,zAj,zAw];omega
def aH4 (b:List UInt8) {a:Nat} (c:List UInt8) (d:UInt8) (f:a<=b.length):aP (uG b a c) (a+c.length) d=uG b a (c++ [d]):=by
 have e:(b.take a).length=a:=by rw [zAj];omega
 unfold aP uG;rw [List.take_append,List.drop_append,e,Nat.add_sub_cancel_left,List.take_append_of_le_length nL,List.take_length,List.drop_append_of_le_length nL,List.drop_length,zAg oM,List.drop_of_length_le oM];simp
def aIn (b:List UInt8) {a c:Nat} (e:a+c < b.length):aF (b.take a++b.drop (a+c)) a=b.take a++b.drop (a+(c+1)):=by
 have d:(b.take a).length=a:=by rw [zAj];omega
 unfold aF;rw [List.take_append_of_le_length oM,zAg oM,List.drop_append,d,List.drop_of_length_le oM,show a+1 - a=1 by omega,List.nil_append,List.drop_drop];rfl
def aFy (a:List UInt8) {p j:Nat} (b:p+j<=a.length):(a.take p++a.drop (p+j)).length=a.length - j:=by
 rw [zAi,zAj,zAw];omega
def aHp (c d:List UInt8) {b a:Nat} {e:UInt8} (f:d[a]?=some e) (g:b+a < c.length):(c.take b++(d.take a++c.drop (b+a))).set (b+a) e=c.take b++(d.take (a+1)++c.drop (b+(a+1))):=by
 have j:(c.take b).length=b:=by rw [zAj];omega
 obtain ⟨l,k⟩:=zAc.1 f;have i:(d.take a).length=a:=by rw [zAj];omega
 rw [List.set_append_right _ _ oM,j,Nat.add_sub_cancel_left,List.set_append_right _ _ oM,i,Nat.sub_self,zAx g,List.set_cons_zero,zAv,f];simp [Nat.add_assoc]
def aFf (a b:List UInt8) {p j:Nat} (d:j<=b.length) (c:p+j<=a.length):(a.take p++(b.take j++a.drop (p+j))).length=a.length:=by
 rw [zAi,zAi,zAj,zAj,zAw];omega
end
end Go.Proofs.YthldmddkfbijhaaGreatDoor
