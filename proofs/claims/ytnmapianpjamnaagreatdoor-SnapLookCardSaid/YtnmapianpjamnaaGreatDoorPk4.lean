/- Lemmas of the walk. Conditions: each its own. -/
import Derived.Test.YtnmapianpjamnaaGreatDoorPk1
import Derived.Test.YtnmapianpjamnaaGreatDoorProg
set_option linter.all false
set_option maxRecDepth 100000
set_option maxHeartbeats 1000000
namespace Go.Proofs.YtnmapianpjamnaaGreatDoor
open Tryz
section
def fX (c:Nat) {b a:Nat} (f:b<=a):aI c b<=aI c a:=by
 induction a with
 | zero=>obtain rfl:b=0:=oM
         exact zAs _
 | succ a e=>
   rw [bV];by_cases d:b<=a;have:=e d;omega;obtain rfl:b=a+1:=oM;rw [bV];exact zAs _
def yD (b:Nat) {e:Nat}:∀ {a:Nat},e < aI b a->∃c,c < a/\b.testBit c=true/\aI b c=e
 | 0,h=>by rw [jB] at h;omega
 | a+1,h=>by
   by_cases f:e < aI b a;obtain ⟨c,j,g,i⟩:=yD b f;exact ⟨c,by omega,g,i⟩
   · rw [bV] at h;cases d:b.testBit a with
     | false=>rw [d] at h;simp at h;omega
     | true=>
       rw [d] at h;simp at h;exact ⟨a,by omega,d,by omega⟩
def aBb (c:Nat) {a b:Nat} (e:c.testBit a=true) (f:c.testBit b=true) (g:aI c a=aI c b):a=b:=by
 rcases Nat.lt_trichotomy a b with d | d | d;have:=fX c (show a+1<=b from d);rw [bV,e] at this;simp at this;omega;exact d;have:=fX c (show b+1<=a from d);rw [bV,f] at this;simp at this;omega
def yH {a:Nat} (e:0 < a) (d:a < 2 ^ 64):∃b,a=2 ^ Lib.ctz 64 a*(2*b+1)/\Lib.ctz 64 a < 64:=by
 obtain ⟨b,f,g⟩:=Lib.ctzFrom_spec 64 a e d;have c:Lib.ctz 64 a=Lib.ctzFrom 64 a:=by unfold Lib.ctz;rw [zBv oM]
 exact ⟨b,by rw [c];exact f,by rw [c];exact g⟩
def rE (a c b:Nat):(2 ^ a*(2*c+1)).testBit b=if b < a then false else if b=a then true else c.testBit (b - a - 1):=by
 rw [Nat.mul_comm,Nat.testBit_mul_two_pow];by_cases f:b < a;rw [zBw f,zBx oM];rfl
 · rw [zBv f,zBy oM,Bool.true_and];by_cases d:b=a
   · rw [zBw d];subst d;rw [Nat.sub_self];simp [Nat.testBit_zero]
   · rw [zBv d];obtain ⟨e,g⟩:∃e,b - a=e+1:=⟨b - a - 1,by omega⟩;rw [g,Nat.testBit_succ];have:(2*c+1)/ 2=c:=oM;rw [this];congr 1
def aA5 (a c b:Nat):(2 ^ a*(2*c+1) - 1).testBit b=if b < a then true else if b=a then false else c.testBit (b - a - 1):=by
 have j:0 < 2 ^ a:=Nat.two_pow_pos a;have g:2 ^ a*(2*c+1) - 1=2 ^ a*(2*c)+(2 ^ a - 1):=by rw [Nat.mul_add,zBl];omega
 rw [g,Nat.testBit_two_pow_mul_add _ oM];by_cases d:b < a
 · rw [zBw d,zBw d,Nat.testBit_two_pow_sub_one,zBy d]
 · rw [zBv d,zBv d];by_cases e:b=a
   · rw [zBw e];subst e;rw [Nat.sub_self];simp [Nat.testBit_zero]
   · rw [zBv e];obtain ⟨f,i⟩:∃f,b - a=f+1:=⟨b - a - 1,by omega⟩;rw [i,Nat.testBit_succ];have:2*c / 2=c:=oM;rw [this];congr 1
def aAj {a:Nat} (g:0 < a) (f:a < 2 ^ 64) (b:Nat):(a&&&(a - 1)).testBit b=(a.testBit b&&decide (b≠Lib.ctz 64 a)):=by
 obtain ⟨j,e,i⟩:=yH g f;generalize Lib.ctz 64 a=k at e i;subst e;rw [Nat.testBit_and,rE,aA5];by_cases c:b < k
 · simp [c]
 · by_cases d:b=k
   · simp [d]
   · simp [c,d]
def yM {a:Nat} (e:0 < a) (d:a < 2 ^ 64):a.testBit (Lib.ctz 64 a)=true/\∀b,b < Lib.ctz 64 a->a.testBit b=false:=by
 obtain ⟨i,c,f⟩:=yH e d;generalize Lib.ctz 64 a=k at c f⊢;subst c;refine ⟨?_,fun b g=>?_⟩
 · rw [rE,zBv oM,zBw rfl]
 · rw [rE,zBw g]
def clr (a:Nat):Nat->Nat
 | 0=>a
 | i+1=>clr a i&&&(clr a i - 1)
def xG (b a:Nat):clr b a<=b:=by
 induction a with
 | zero=>exact zAs _
 | succ a c=>exact zAk Nat.and_le_left c
def rP {a:Nat} (o:a < 2 ^ 64) {i:Nat} (m:a.testBit i=true):∀b,b<=aI a i->∀c,(clr a b).testBit c=(a.testBit c&&decide (b<=aI a c))
 | 0,_,c=>by simp [clr]
 | b+1,hi,c=>by
   have e:=rP o m b oM;have n:(clr a b).testBit i=true:=(by rw [e,m,zBy oM];rfl);have j:0 < clr a b:=by
    rcases zBa (clr a b) with f | f
    · rw [f] at n;simp at n
    exact f
   have l:clr a b < 2 ^ 64:=Nat.lt_of_le_of_lt (xG a b) o;obtain ⟨d,p⟩:=yM j l;show (clr a b&&&(clr a b - 1)).testBit c=_;rw [aAj j l];generalize Lib.ctz 64 (clr a b)=k at d p;rw [e,zBd,zBz] at d;obtain ⟨d,y⟩:=d;have x:aI a k=b:=by
    by_cases g:b < aI a k
    · obtain ⟨v,q,r,s⟩:=yD a g;have:=p v q;rw [e,r,s] at this;simp at this
    omega
   rw [e];cases u:a.testBit c with
   | false=>rfl
   | true=>
     rw [Bool.true_and,Bool.true_and,Bool.eq_iff_iff,zBd,zBz,zBz,zBz];constructor;rintro ⟨g,t⟩;by_cases w:aI a c=b;exact absurd (aBb a u d oM) t;omega;intro g;refine ⟨by omega,?_⟩;rintro rfl;omega
def yN {x:Nat} (e:x < 2 ^ 64) {b i:Nat} (d:x.testBit b=true) (c:i<=aI x b):0 < clr x i:=by
 have:=rP e d i c b;rw [d,zBy c] at this;rcases zBa (clr x i) with a | a
 · rw [a] at this;simp at this
 exact a
def aCq {x:Nat} (e:x < 2 ^ 64) {b a:Nat} (d:x.testBit b=true) (m:aI x b=a):Lib.ctz 64 (clr x a)=b:=by
 have j:=yN e d (i:=a) oM;have k:clr x a < 2 ^ 64:=Nat.lt_of_le_of_lt (xG x a) e;obtain ⟨g,l⟩:=yM j k;have f:=rP e d a oM;rcases Nat.lt_trichotomy (Lib.ctz 64 (clr x a)) b with c | c | c;rw [f,zBd,zBz] at g;have:=fX x (show Lib.ctz 64 (clr x a)+1<=b from c);rw [bV,g.1] at this;simp at this;omega;exact c
 · have:=l b c;rw [f,d,zBy oM] at this;simp at this
def cT (a:Nat) (b:Bool):Nat:=if b then a else 18446744073709551615 - a
def sR (a:Nat) (b:Bool) (c:a < 18446744073709551616):cT a b < 18446744073709551616:=by
 unfold cT;split <;> omega
def fU (a:Nat) (c:Bool) (f:a < 18446744073709551616) {b:Nat} (e:b < 64):(cT a c).testBit b=(a.testBit b==c):=by
 unfold cT;cases c with
 | true=>simp
 | false=>
   have d:18446744073709551615 - a=2 ^ 64 -(a+1):=oM;simp only [Bool.false_eq_true,if_false];rw [d,Nat.testBit_two_pow_sub_succ oM,zBy e];cases a.testBit b <;> rfl
def gN (e:Nat) (b:List Bool) (d:Bool):∀a,a<=b.length->(∀c,c < a->∀f,b[c]?=some f->e.testBit c=(f==d))->aI e a=(b.take a).count d
 | 0,_,_=>by simp [jB]
 | a+1,hn,h=>by have g:b[a]?=some (b[a]' oM):=zAa oM;rw [bV,gN e b d a oM (fun c i=>h c oM),zAv,g,zCb,h a oM _ g];simp [List.count_cons]
def vO (c:List Bool) {a:Nat} (e:a < 64) {b:Bool} (d:c[a]?=some b):(w0 c).testBit a=b:=by
 unfold w0;rw [fJ,zAb,zBr,zBw e,d];rfl
def aAE (b:List Bool) {q:Nat} {a:Bool} (c:b[64+q]?=some a):(w1 b).testBit q=a:=by
 unfold w1;rw [fJ,zAb,zBs,c];rfl
def aCS {a:List Bool} {b:Bool} {c d:Nat} (n:a.length<=128) (j:a[c]?=some b) (l:(a.take c).count b=d) (e:c < 64):
 (cT (w0 a) b).testBit c=true/\aI (cT (w0 a) b) c=d/\d < aI (cT (w0 a) b) 64:=by
 have i:=nP a;have o:=(zAc.1 j).1;have f:(cT (w0 a) b).testBit c=true:=by rw [fU _ _ i e,vO a e j];simp
 have g:aI (cT (w0 a) b) c=d:=by rw [<-l];exact gN _ a b c oM fun q p m k=>by rw [fU _ _ i oM,vO a oM k]
 refine ⟨f,g,?_⟩;have:=fX (cT (w0 a) b) (show c+1<=64 by omega);rw [bV,f,g] at this;simp at this;omega
def aCT {a:List Bool} {b:Bool} {c f:Nat} (r:a.length<=128) (m:a[c]?=some b) (u:(a.take c).count b=f) (t:64<=c):
 ∃i g,aI (cT (w0 a) b) 64=i/\i<=f/\f - i=g/\(cT (w1 a) b).testBit (c - 64)=true/\aI (cT (w1 a) b) (c - 64)=g/\g < aI (cT (w1 a) b) 64:=by
 have s:=nP a;have l:=nO a r;have v:=(zAc.1 m).1;have p:aI (cT (w0 a) b) 64=(a.take 64).count b:=gN _ a b 64 oM fun n e o d=>by rw [fU _ _ s e,vO a e d]
 have w:(a.take c).count b=(a.take 64).count b+((a.drop 64).take (c - 64)).count b:=by
  have:a.take c=a.take 64++(a.drop 64).take (c - 64):=by rw [<-List.take_add];congr 1;omega
  rw [this,zCb]
 have j:(cT (w1 a) b).testBit (c - 64)=true:=by rw [fU _ _ l oM,aAE a (q:=c - 64) (by rw [show 64+(c - 64)=c by omega];exact m)];simp
 have k:aI (cT (w1 a) b) (c - 64)=((a.drop 64).take (c - 64)).count b:=
  gN _ (a.drop 64) b (c - 64) (by rw [zAw];omega) fun n e o d=>by rw [zBs] at d;rw [fU _ _ l oM,aAE a d]
 refine ⟨_,_,p,by omega,rfl,j,by rw [k];omega,?_⟩;have:=fX (cT (w1 a) b) (show c - 64+1<=64 by omega);rw [bV,j,k] at this;simp at this;omega
end
section
open Go.RowKit Go
section
variable {P : Program} {ops : Array Oper} {Q : Exit -> Act -> World -> Prop} {md : Region.Mode}
def cE (c b:Nat):Array Bool:=((List.range b).map fun a=>decide (a < c)).toArray
def rJ (b a:Nat) (k:b<=a):(cE b a).toList.count false=a - b:=by
 unfold cE;rw [List.toList_toArray]
 induction a with
 | zero=>simp
 | succ a j=>
   rw [List.range_succ,zAz,zCb];rcases zBe a b with c | c
   · have:b=a+1:=oM;subst this;have d:(List.map (fun i=>decide (i < a+1)) (List.range a)).count false=0:=(by rw [List.count_eq_zero];intro f;obtain ⟨l,g,e⟩:=zAy.1 f;have:=zCg.1 g;simp at e;omega);rw [d];simp
   rw [j c];have:¬(a < b):=oM;simp [this];omega
def dW {a:Nat} {f:Array Bool} {b:Act} {g:World} (e:Region.ready md ops f= []) (d:Q .normal b g):wpAny P md ops Q a f b g:=by
 cases a with
 | zero=>exact ⟨e,d⟩
 | succ a=>exact ⟨fun _=>d,fun i c=>by rw [e] at c;cases c⟩
def dI {f:Nat} {a:Array Bool} {b:Act} {g:World} {i:Nat} (e:Region.ready md ops a= [i]) (j:wpOp P ops Q i (wpAny P md ops Q f (a.setIfInBounds i true)) b g):wpAny P md ops Q (f+1) a b g:=
 ⟨fun c=>(by rw [e] at c;cases c),fun k d=>(by rw [e] at d;cases List.mem_singleton.1 d;exact j)⟩
def nM (g:Nat) (D:World->Prop) (S:Nat->World->World->Prop) (K:Nat->World->Prop) (L:Nat->Value->World->Prop) (E:Act)
 (W:World) (ao:g<=ops.size) (a1:eQ md ops E.tmps.size=true) (ax:((List.range ops.size).all fun e=>decide (e < g)||(List.range g).all fun a=>upB md ops ops.size e a)=true) (af:D W) (ah:∀a,K a W) (ae:∀b i x,b < g->D i->S b i x->D x)
 (ag:∀a b i x,b < g->a≠b->upB md ops ops.size b a=false->K a i->D i->S b i x->K a x)
 (au:∀a b C i x,b < g->a≠b->oQ md ops a b=false->upB md ops ops.size a b=false->L a C i->D i->S b i x->L a C x)
 (av:∀b k,b < g->ops[b]?=some k->bQ P ops Q md D S K L E b k)
 (a9:∀p i ac,D i->p.tmps.size=E.tmps.size->p.defers=E.defers->
  (∀v,(∀(e:Nat) (j:Oper),e < g->ops[e]?=some j->j.dst≠some v)->p.tmps.getD v undef=E.tmps.getD v undef)->
  (∀a k,a < g->ops[a]?=some k->∃C,(∀t,k.dst=some t->p.tmps.getD t undef=C)/\L a C i)->wpAny P md ops Q (ops.size - g+ac) (cE g ops.size) p i):
 wpAny P md ops Q ops.size (Array.replicate ops.size false) E W:=by
 have aA:∀f:Array Bool,f.size=ops.size->Region.ready md ops f= []->∀a,a < ops.size->f.getD a false=true:=by
  intro f J a3 a
  induction a using Nat.strongRecOn with
  | _ a a5=>
    intro l;cases z:f.getD a false with
    | true=>rfl
    | false=>
      exfalso;have V:a∈Region.ready md ops f:=(by refine mem_ready.2 ⟨?_,ops[a],zAq l,fun o q G=>?_⟩;have Z:a < f.size:=oM;simp [Z] at z⊢;exact z;have:=(bZ a1 (zAq l)).1 o q G;exact a5 o.on this oM);rw [a3] at V;cases V
 have az:∀A f p i,f.size=ops.size->f.toList.count false<=A->Loose7 md ops D K L E f p i->(∀e,g<=e->f.getD e false=false)->wpAny P md ops Q A f p i:=by
  intro A
  induction A with
  | zero=>
    intro f p i J z c R
    have F:∀a,a < ops.size->f.getD a false=true:=by
        intro a l;have Z:a < f.size:=oM;cases I:f.getD a false with
        | true=>rfl
        | false=>
          exfalso;have:false∈f.toList:=(by simp [Z] at I;exact I ▸(by simp));have:=List.count_pos_iff.2 this;omega
    have aq:g=ops.size:=by
        rcases zBe g ops.size with u | u
        · have y:=F g u;rw [R g nL] at y;cases y
        omega
    have q:f=cE g ops.size:=by
        apply Array.ext
        · simp [cE,J]
        intro a u y;have r:=F a oM;simp [u] at r;simp [cE,r];omega
    have r:=a9 p i 0 c.world c.size c.defers (fun v ht=>c.old v fun e j d m=>absurd m (ht e j (by have:=(zAh.1 d).1;omega) d)) fun a k l n=>c.val a k n (F a (zAh.1 n).1);rw [<-q,<-aq,Nat.sub_self] at r;exact r
  | succ A a5=>
    intro f p i J z c R;by_cases F:∀a,a < g->f.getD a false=true
    · have q:f=cE g ops.size:=by
       apply Array.ext
       · simp [cE,J]
       intro a u y;rcases zBe a g with w | w;have r:=F a w;simp [u] at r;simp [cE,r];exact w;have r:=R a w;simp [u] at r;simp [cE,r];omega
      have aC:ops.size - g<=A+1:=(by rw [q,rJ _ _ ao] at z;exact z);have r:=a9 p i (A+1 -(ops.size - g)) c.world c.size c.defers (fun v ht=>c.old v fun e j d m=>by
       rcases zBe e g with w | w;exact absurd m (ht e j w d)
       · exact R e w) fun a k l n=>c.val a k n (F a l)
      rw [<-q,show ops.size - g+(A+1 -(ops.size - g))=A+1 by omega] at r;exact r
    refine ⟨fun a3=>absurd (fun a l=>aA f J a3 a oM) F,fun b an=>?_⟩;obtain ⟨a7,k,n,T⟩:=mem_ready.1 an;have O:b < ops.size:=(zAh.1 n).1;have H:b < f.size:=oM;have B:f.getD b false=false:=(by simp [H] at a7⊢;exact a7);have U:b < g:=(by rcases zBe b g with w | w;exact w;exfalso;refine F fun a l=>?_;have a8:=zBf.1 ax b (zCg.2 O);have ad:¬(b < g):=oM;simp only [ad,decide_false,Bool.false_or] at a8;exact dX c.shut _ b a k n T (zBf.1 a8 a (zCg.2 l)));refine av b k U n p i c.world (c.pre b k n B) c.size c.defers (fun v ht=>c.old v fun e j d m=>?_) (fun o q G j t d m=>by obtain ⟨C,u,y⟩:=c.val o.on j d (T o q G);rw [u t m];exact y) _ fun C x X ai=>?_
    · rcases nH ht d m with rfl |⟨o,q,G,am⟩;exact B
      · cases s:f.getD e false with
        | false=>rfl
        | true=>
          have:=c.shut e j d s o q G;rw [am,B] at this;cases this
    · refine a5 _ _ _ (by simpa using J) ?_ ?_ (fun e s=>by rw [getD_set_ne false (by omega:b≠e)];exact R e s);have I:f.toList[b]'(by simpa using H)=false:=(by simp [H] at B⊢;exact B);rw [Array.toList_setIfInBounds,List.count_set (by simpa using H),I];simp;have V:false∈f.toList:=I ▸ zBj _;have:=List.count_pos_iff.2 V;rw [<-Array.count_toList];omega
      · have aw:(p.put k.dst C).tmps.size=E.tmps.size:=by
          rw [<-c.size];cases k.dst with
          | none=>rfl
          | some t=>simp [Act.put]
        refine ⟨ae b i x U c.world X,fun a j d l=>?_,aw,?_,fun v ht=>?_,fun a j d l=>?_,fun e j d s o q G=>?_⟩
        · have aa:a≠b:=fun o=>by rw [o,aM _ _ H] at l;cases l
          rw [getD_set_ne false aa.symm] at l;refine ag a b i x U aa ?_ (c.pre a j d l) c.world X;cases a4:upB md ops ops.size b a with
          | false=>rfl
          | true=>
            have:=dX c.shut _ b a k n T a4;rw [l] at this;cases this
        · rw [<-c.defers];cases k.dst <;> rfl
        · have ap:k.dst≠some v:=fun m=>by have:=ht b k n m;rw [aM _ _ H] at this;cases this
          have ar:=c.old v fun e j d m=>by
           have:=ht e j d m;cases s:f.getD e false with
           | false=>rfl
           | true=>
             by_cases ab:b=e
             · subst ab;rw [B] at s;cases s
             · rw [getD_set_ne false ab,s] at this;cases this
          rw [<-ar];cases a2:k.dst with
          | none=>rfl
          | some t=>
            have Y:t≠v:=fun c=>ap (by rw [a2,c]);simp [Act.put,zAm,Y]
        · rcases cH _ _ _ l with rfl | M
          · rw [n] at d;injection d with d;subst d;refine ⟨C,fun t m=>?_,ai⟩;have al:=((bZ a1 n).2 t m).1;rw [m];have:t < p.tmps.size:=(by rw [c.size];exact al);simp [Act.put,zAm,this]
          · by_cases a0:a=b
            · subst a0;rw [B] at M;cases M
            obtain ⟨aB,ay,I⟩:=c.val a j d M
            have aj:oQ md ops a b=false:=by
              cases z:oQ md ops a b with
              | false=>rfl
              | true=>
                exfalso;unfold oQ at z;rw [d] at z;obtain ⟨o,q,y⟩:=List.any_eq_true.1 z;simp only [zBd,zCn] at y;have:=c.shut a j d M o (Array.mem_toList_iff.1 q) y.1;rw [y.2,B] at this;cases this
            have ak:upB md ops ops.size a b=false:=by
              cases a4:upB md ops ops.size a b with
              | false=>rfl
              | true=>
                have:=dX c.shut _ a b j d (c.shut a j d M) a4;rw [B] at this;cases this
            refine ⟨aB,fun t m=>?_,au _ _ _ _ _ U a0 aj ak I c.world X⟩;rw [<-ay t m];cases a2:k.dst with
            | none=>rfl
            | some a6=>
              have Y:a6≠t:=fun c=>a0 (((bZ a1 n).2 a6 a2).2 a j d (c ▸ m));simp [Act.put,zAm,Y]
        rcases cH _ _ _ s with rfl | s;rw [n] at d;injection d with d;subst d;have u:=T o q G;by_cases N:e=o.on;rw [<-N];exact aM _ _ H _;rw [getD_set_ne false N];exact u;have u:=c.shut e j d s o q G;by_cases N:b=o.on;rw [<-N];exact aM _ _ H _;rw [getD_set_ne false N];exact u
 refine az _ _ _ _ (by simp) (by simp) ⟨af,fun b _ _ _=>ah b,rfl,rfl,fun _ _=>rfl,fun a k n l=>?_,fun e j d s=>?_⟩ (fun e s=>by
  rw [zAm];rcases zBe e ops.size with c | c
  · simp [c]
  · rw [Array.getElem?_eq_none (by simpa using c)];rfl)
 · have O:a < ops.size:=(zAh.1 n).1;simp [O] at l
 · have O:e < ops.size:=(zAh.1 d).1;simp [O] at s
def sP (d:Nat) (t:List Nat) (f:World->Prop) (l:Nat->World->World->Prop) (m:Nat->World->Prop) (g:Nat->Value->World->Prop) (i:Act)
 (p:World) (G:(ops.toList.take d).filterMap (·.dst)=t) (M:d<=ops.size) (L:eQ md ops i.tmps.size=true) (U:((List.range ops.size).all fun q=>decide (q < d)||(List.range d).all fun a=>upB md ops ops.size q a)=true) (B:f p) (E:∀a,m a p) (A:∀c b e,c < d->f b->l c b e->f e)
 (D:∀a c b e,c < d->a≠c->upB md ops ops.size c a=false->m a b->f b->l c b e->m a e)
 (R:∀a c o b e,c < d->a≠c->oQ md ops a c=false->g a o b->f b->l c b e->g a o e)
 (S:∀c r,c < d->ops[c]?=some r->bQ P ops Q md f l m g i c r)
 (H:∀(x:Operand->Value) b u,f b->(∀a n,a < d->((ops[a]?).bind (·.dst))=some n->g a (x (.tmp n)) b)->wpAny P md ops Q (ops.size - d+u) (cE d ops.size) (bY x t i) b):
 wpAny P md ops Q ops.size (Array.replicate ops.size false) i p:=by
 refine nM d f l m g i p M L U B E A D (fun a c o b e j v z _=>R a c o b e j v z) S fun s b u C T F N V=>?_;have j:=H s.eval b u C fun a n I k=>by
  cases w:ops[a]? with
  | none=>rw [w] at k;cases k
  | some r=>
    rw [w] at k;obtain ⟨o,j,v⟩:=V a r I w;have:=j n k;change g a (s.tmps.getD n undef) b;rw [this];exact v
 rw [<-iK s i t T F fun W ht=>N W fun q y J O k=>ht ?_] at j;exact j;rw [<-G];refine List.mem_filterMap.2 ⟨y,?_,k⟩;have K:(ops.toList.take d)[q]?=some y:=(by rw [zBr,zBw J,Array.getElem?_toList];exact O);exact zAd K
def eE {d:Nat} {a:Oper} {b:Act} {e:World} {c:Act->World->Prop} (i:ops[d]?=some a) (g:a.guard=none) (f:Oper.upon P a b c Q ((execOp b.eval a).run P e)):wpOp P ops Q d c b e:=by
 unfold wpOp;simp only [i];have j:Region.wanted a (yielded ops b.tmps)=true:=by unfold Region.wanted;rw [g]
 rw [zBw j];exact .inl f
end
def eK {P:Program} {ops:Array Oper} {Q:Exit->Act->World->Prop} {md:Region.Mode} (e:Nat) (r:List Nat) (i:Nat->Prop) (c:Nat) (t:List Nat) (o:World->Prop) (q:Value->World->Prop) (p:List (Value->World->Prop)) (l:Act) (j:World)
 (F:(ops.toList.take e).filterMap (·.dst)=r) (I:e<=ops.size) (H:eQ md ops l.tmps.size=true) (O:((List.range ops.size).all fun d=>decide (d < e)||(List.range e).all fun a=>upB md ops ops.size d a)=true)
 (L:(t.all fun a=>a==c||upB md ops ops.size c a)=true)
 (K:o j) (J:∀b g,o b->Keep i j b->Grow b g->o g) (E:Stb q) (M:∀S∈p,uX i S)
 (N:∀k z,k < e->ops[k]?=some z->bQ P ops Q md (Keep i j) (mZ i c) (fun a b=>t.contains a=true->o b) (VsJ c q p) l k z)
 (G:∀(v:Operand->Value) b f,Keep i j b->(∀a u,a < e->((ops[a]?).bind (·.dst))=some u->VsJ c q p a (v (.tmp u)) b)->wpAny P md ops Q (ops.size - e+f) (cE e ops.size) (bY v r l) b):
 wpAny P md ops Q ops.size (Array.replicate ops.size false) l j:=by
 refine sP e r (Keep i j) (mZ i c) (fun a b=>t.contains a=true->o b) (VsJ c q p) l j F I H O (Keep.refl _ _) (fun _ _=>K) (fun k b g _ C d=>C.trans (jD d)) (fun a k b g _ s R m D d x=>?_) (fun a k A b g _ s _ n _ d=>?_) N G;by_cases y:k=c;exfalso;subst y;have w:=zBf.1 L a (by simpa using x);simp only [R,Bool.or_false,zCn] at w;exact s w;exact J b g (m x) D (d.2 y);unfold VsJ at n⊢;by_cases m:a=c;rw [zBw m] at n⊢;exact E A b g n (d.2 fun B=>s (m.trans B.symm));rw [zBv m] at n⊢;exact tB M a A b g n (jD d)
def dG {e:Nat} {c:Nat->Oper->Prop} {d:List Oper} (f:∀a b,(d.take e)[a]?=some b->c (0+a) b):∀a b,a < e->d.toArray[a]?=some b->c a b:=by
 intro a b g i;have:=f a b (by rw [zBr,zBw g];simpa using i);rwa [zBi] at this
section
variable {P : Program} {ops : Array Oper} {Q : Exit -> Act -> World -> Prop} {md : Region.Mode}
def nK (P:Program) (ops:Array Oper) (Q:Exit->Act->World->Prop) (md:Region.Mode) (o:(Operand->Value)->World->Prop) (p:Nat->Value->World->World->Prop) (q:Nat->World->Prop) (k:Nat->(Operand->Value)->Value->World->Prop) (d:Act) (b:Nat) (m:Oper):Prop:=
 ∀a c,o a.eval c->q b c->a.tmps.size=d.tmps.size->a.defers=d.defers->
    (∀f,kX md ops b f=true->a.tmps.getD f undef=d.tmps.getD f undef)->
    (∀e∈m.after,Region.binds md e=true->∀n l,ops[e.on]?=some n->n.dst=some l->k e.on a.eval (a.tmps.getD l undef) c)->
    ∀j:Act->World->Prop,(∀g i,p b g c i->k b a.eval g i->j (a.put m.dst g) i)->wpOp P ops Q b j a c
def bJ {q:(Operand->Value)->World->Prop} {r:Nat->Value->World->World->Prop} {s:Nat->World->Prop} {n:Nat->(Operand->Value)->Value->World->Prop} {t:Act} {e:Nat} {b:Oper} (E:ops[e]?=some b) (C:b.guard=none)
 (w:∀a:Operand->Value,∀d,q a d->s e d->(∀f,a (.const f)=f)->(∀u,a (.func u)=.func (.func u) #[] #[])->(∀i,kX md ops e i=true->a (.tmp i)=t.eval (.tmp i))->
  (∀m k,b.after.toList.any (fun g=>Region.binds md g&&g.on==m)=true->((ops[m]?).bind (·.dst))=some k->n m a (a (.tmp k)) d)->
  ∀c j,c.eval=a->(∀f p,r e f d p->n e a f p->j (c.put b.dst f) p)->Oper.upon P b c j Q ((execOp a b).run P d)):nK P ops Q md q r s n t e b:=by
 intro c d z A K J F G j y;unfold wpOp;simp only [E];have H:Region.wanted b (yielded ops c.tmps)=true:=by unfold Region.wanted;rw [C]
 rw [zBw H];refine .inl (w c.eval d z A (fun _=>rfl) (fun _=>rfl) (fun i ht=>F i ht) (fun m k D l=>?_) c j rfl y);obtain ⟨g,B,v⟩:=List.any_eq_true.1 D;simp only [zBd,zCn] at v;obtain ⟨x,rfl⟩:=v;cases o:ops[g.on]? with
 | none=>rw [o] at l;cases l
 | some I=>rw [o] at l;exact G g (Array.mem_toList_iff.1 B) x I k o l
def aCP {m:Nat} (k:eQ md ops m=true):∀c b d,upB md ops c b d=true->d < b:=by
 intro c
 induction c with
 | zero=>intro b d a;cases a
 | succ c l=>
   intro b d a;unfold upB at a;cases f:ops[b]? with
   | none=>rw [f] at a;cases a
   | some o=>
     rw [f] at a;obtain ⟨i,j,e⟩:=List.any_eq_true.1 a;simp only [zBd,Bool.or_eq_true,zCn] at e;have n:=(bZ k f).1 i (Array.mem_toList_iff.1 j) e.1;rcases e.2 with g | g;omega;have:=l _ _ g;omega
def vP {f:Nat} (d:eQ md ops f=true) (c a b:Nat) (g:b<=a) (e:upB md ops c b a=true):False:=by
 have:=aCP d c b a e;omega
structure LooseF (md:Region.Mode) (ops:Array Oper) (C:(Operand->Value)->World->Prop) (U:Nat->World->Prop) (V:Nat->(Operand->Value)->Value->World->Prop) (a0:Act) (listed:Array Bool) (a:Act) (w:World):Prop where
 world:C a.eval w
 pre:∀j o,ops[j]?=some o->listed.getD j false=false->U j w
 size:a.tmps.size=a0.tmps.size
 defers:a.defers=a0.defers
 old:∀t,(∀k p,ops[k]?=some p->p.dst=some t->listed.getD k false=false)->a.tmps.getD t undef=a0.tmps.getD t undef
 val:∀i o,ops[i]?=some o->listed.getD i false=true->∃v,(∀d,o.dst=some d->a.tmps.getD d undef=v)/\V i a.eval v w
 shut:∀k p,ops[k]?=some p->listed.getD k false=true->∀e∈p.after,Region.binds md e=true->listed.getD e.on false=true
def qS (y:(Operand->Value)->World->Prop) (S:Nat->Value->World->World->Prop) (G:Nat->World->Prop) (z:Nat->(Operand->Value)->Value->World->Prop) (u:Act)
 (X:World) (V:eQ md ops u.tmps.size=true) (ab:y u.eval X) (ad:∀a,G a X) (aa:∀b c v w g f t,ops[b]?=some c->(∀l,c.dst=some l->w (.tmp l)=g)->(∀i,c.dst≠some i->w (.tmp i)=v (.tmp i))->y v f->S b g f t->y w t) (ac:∀a b g f t,a≠b->upB md ops ops.size b a=false->G a f->S b g f t->G a t)
 (am:∀b c v w g f,ops[b]?=some c->(∀i,c.dst≠some i->w (.tmp i)=v (.tmp i))->z b v g f->z b w g f)
 (an:∀a b c v w g a4 f t,ops[b]?=some c->(∀i,c.dst≠some i->w (.tmp i)=v (.tmp i))->a≠b->upB md ops ops.size a b=false->z a v g f->y v f->S b a4 f t->z a w g t)
 (ao:∀b c,ops[b]?=some c->nK P ops Q md y S G z u b c)
 (ah:∀k f,y k.eval f->k.tmps.size=u.tmps.size->k.defers=u.defers->
  (∀i,(∀(r:Nat) (n:Oper),ops[r]?=some n->n.dst≠some i)->k.tmps.getD i undef=u.tmps.getD i undef)->
  (∀a c,ops[a]?=some c->∃g,(∀l,c.dst=some l->k.tmps.getD l undef=g)/\z a k.eval g f)->Q .normal k f):
 wpAny P md ops Q ops.size (Array.replicate ops.size false) u X:=by
 have a6:∀d k f,d.size=ops.size->(∀a,a < ops.size->d.getD a false=true)->LooseF md ops y G z u d k f->Q .normal k f:=by intro d k f E T e;refine ah k f e.world e.size e.defers (fun i ht=>e.old i fun r n j o=>absurd o (ht r n j)) fun a c m=>e.val a c m (T a (zAh.1 m).1)
 have av:∀d:Array Bool,d.size=ops.size->Region.ready md ops d= []->∀a,a < ops.size->d.getD a false=true:=by
  intro d E R a
  induction a using Nat.strongRecOn with
  | _ a a3=>
    intro q;cases H:d.getD a false with
    | true=>rfl
    | false=>
      exfalso;have W:a∈Region.ready md ops d:=(by refine mem_ready.2 ⟨?_,ops[a],zAq q,fun p C B=>?_⟩;have M:a < d.size:=oM;simp [M] at H⊢;exact H;have:=(bZ V (zAq q)).1 p C B;exact a3 p.on this oM);rw [R] at W;cases W
 have au:∀J d k f,d.size=ops.size->d.toList.count false<=J->LooseF md ops y G z u d k f->wpAny P md ops Q J d k f:=by
  intro J
  induction J with
  | zero=>
    intro d k f E H e
    have T:∀a,a < ops.size->d.getD a false=true:=by
        intro a q;have M:a < d.size:=oM;cases F:d.getD a false with
        | true=>rfl
        | false=>
          exfalso;have:false∈d.toList:=(by simp [M] at F;exact F ▸(by simp));have:=List.count_pos_iff.2 this;omega
    refine ⟨?_,a6 d k f E T e⟩;cases R:Region.ready md ops d with
    | nil=>rfl
    | cons a aw=>
      exfalso;have q:a∈Region.ready md ops d:=(by rw [R];exact List.mem_cons_self ..);obtain ⟨K,c,m,_⟩:=mem_ready.1 q;have I:a < ops.size:=(zAh.1 m).1;have x:=T a I;have M:a < d.size:=oM;simp [M] at K x;rw [K] at x;cases x
  | succ J a3=>
    intro d k f E H e;refine ⟨fun R=>a6 d k f E (av d E R) e,fun b aj=>?_⟩;obtain ⟨K,c,m,Z⟩:=mem_ready.1 aj;have I:b < ops.size:=(zAh.1 m).1;have D:b < d.size:=oM;have A:d.getD b false=false:=by simp [D] at K⊢;exact K
    have a2:∀g i,c.dst≠some i->(k.put c.dst g).eval (.tmp i)=k.eval (.tmp i):=by
        intro g i ht;cases O:c.dst with
        | none=>rfl
        | some l=>
          have L:l≠i:=fun p=>ht (by rw [O,p]);simp [Act.eval,Act.put,zAm,L]
    have ag:∀g l,c.dst=some l->(k.put c.dst g).eval (.tmp l)=g:=(by intro g l o;have a0:=((bZ V m).2 l o).1;have:l < k.tmps.size:=(by rw [e.size];exact a0);simp [Act.eval,Act.put,zAm,o,this]);refine ao b c m k f e.world (e.pre b c m A) e.size e.defers (fun i ht=>e.old i fun r n j o=>?_) (fun p C B n l j o=>by obtain ⟨g,x,a9⟩:=e.val p.on n j (Z p C B);rw [x l o];exact a9) _ fun g t Y ae=>?_
    · rcases nH ht j o with rfl |⟨p,C,B,ai⟩;exact A
      · cases s:d.getD r false with
        | false=>rfl
        | true=>
          have:=e.shut r n j s p C B;rw [ai,A] at this;cases this
    · refine a3 _ _ _ (by simpa using E) ?_ ?_;have F:d.toList[b]'(by simpa using D)=false:=(by simp [D] at A⊢;exact A);rw [Array.toList_setIfInBounds,List.count_set (by simpa using D),F];simp;have W:false∈d.toList:=F ▸ zBj _;have:=List.count_pos_iff.2 W;rw [<-Array.count_toList];omega
      · have ap:(k.put c.dst g).tmps.size=u.tmps.size:=by
          rw [<-e.size];cases c.dst with
          | none=>rfl
          | some l=>simp [Act.put]
        refine ⟨aa b c _ _ g f t m (ag g) (a2 g) e.world Y,fun a n j q=>?_,ap,?_,fun i ht=>?_,fun a n j q=>?_,fun r n j s p C B=>?_⟩
        · have a7:a≠b:=fun p=>by rw [p,aM _ _ D] at q;cases q
          rw [getD_set_ne false a7.symm] at q;refine ac a b g f t a7 ?_ (e.pre a n j q) Y;cases ar:upB md ops ops.size b a with
          | false=>rfl
          | true=>
            have:=dX e.shut _ b a c m Z ar;rw [q] at this;cases this
        · rw [<-e.defers];cases c.dst <;> rfl
        · have ak:c.dst≠some i:=fun o=>by have:=ht b c m o;rw [aM _ _ D] at this;cases this
          have al:=e.old i fun r n j o=>by
           have:=ht r n j o;cases s:d.getD r false with
           | false=>rfl
           | true=>
             by_cases a8:b=r
             · subst a8;rw [A] at s;cases s
             · rw [getD_set_ne false a8,s] at this;cases this
          rw [<-al];cases O:c.dst with
          | none=>rfl
          | some l=>
            have L:l≠i:=fun e=>ak (by rw [O,e]);simp [Act.put,zAm,L]
        · rcases cH _ _ _ q with rfl | U
          · rw [m] at j;injection j with j;subst j;refine ⟨g,fun l o=>?_,am _ _ _ _ _ _ m (a2 g) ae⟩;have a0:=((bZ V m).2 l o).1;rw [o];have:l < k.tmps.size:=(by rw [e.size];exact a0);simp [Act.put,zAm,this]
          · by_cases a1:a=b
            · subst a1;rw [A] at U;cases U
            obtain ⟨a4,aq,F⟩:=e.val a n j U
            have af:upB md ops ops.size a b=false:=by
              cases H:upB md ops ops.size a b with
              | false=>rfl
              | true=>
                exfalso;have:=dX e.shut _ a b n j (e.shut a n j U) H;rw [A] at this;cases this
            refine ⟨a4,fun l o=>?_,an _ _ _ _ _ _ _ _ _ m (a2 g) a1 af F e.world Y⟩;rw [<-aq l o];cases O:c.dst with
            | none=>rfl
            | some a5=>
              have L:a5≠l:=fun e=>a1 (((bZ V m).2 a5 O).2 a n j (e ▸ o));simp [Act.put,zAm,L]
        rcases cH _ _ _ s with rfl | s;rw [m] at j;injection j with j;subst j;have x:=Z p C B;by_cases N:r=p.on;rw [<-N];exact aM _ _ D _;rw [getD_set_ne false N];exact x;have x:=e.shut r n j s p C B;by_cases N:b=p.on;rw [<-N];exact aM _ _ D _;rw [getD_set_ne false N];exact x
 refine au _ _ _ _ (by simp) (by simp) ⟨ab,fun b _ _ _=>ad b,rfl,rfl,fun _ _=>rfl,fun a c m q=>?_,fun r n j s=>?_⟩
 · have I:a < ops.size:=(zAh.1 m).1;simp [I] at q
 · have I:r < ops.size:=(zAh.1 j).1;simp [I] at s
def qR (u:List Nat) (m:(Operand->Value)->World->Prop) (p:Nat->Value->World->World->Prop) (q:Nat->World->Prop) (i:Nat->(Operand->Value)->Value->World->Prop) (n:Act) (r:World)
 (E:ops.toList.filterMap (·.dst)=u)
 (H:eQ md ops n.tmps.size=true) (z:m n.eval r) (C:∀a,q a r) (y:∀c f d j e b l,ops[c]?=some f->(∀k,f.dst=some k->j (.tmp k)=e)->(∀g,f.dst≠some g->j (.tmp g)=d (.tmp g))->m d b->p c e b l->m j l) (B:∀a c e b l,a≠c->upB md ops ops.size c a=false->q a b->p c e b l->q a l)
 (J:∀c f d j e b,ops[c]?=some f->(∀g,f.dst≠some g->j (.tmp g)=d (.tmp g))->i c d e b->i c j e b)
 (L:∀a c f d j e R b l,ops[c]?=some f->(∀g,f.dst≠some g->j (.tmp g)=d (.tmp g))->a≠c->upB md ops ops.size a c=false->i a d e b->m d b->p c R b l->i a j e l)
 (M:∀c f,ops[c]?=some f->nK P ops Q md m p q i n c f)
 (F:∀(d:Operand->Value) b,m d b->(∀a k,((ops[a]?).bind (·.dst))=some k->i a d (d (.tmp k)) b)->(∀a,a < ops.size->∃e,i a d e b)->Q .normal (bY d u n) b):
 wpAny P md ops Q ops.size (Array.replicate ops.size false) n r:=by
 refine qS m p q i n r H z C y B J L M fun s b A N D I x=>?_;have t:=F s.eval b A (fun a k o=>by
  cases w:ops[a]? with
  | none=>rw [w] at o;cases o
  | some f=>
    rw [w] at o;obtain ⟨e,t,v⟩:=x a f w;have:=t k o;change i a s.eval (s.tmps.getD k undef) b;rw [this];exact v) (fun a G=>by
  obtain ⟨e,_,v⟩:=x a _ (zAq G);exact ⟨e,v⟩)
 rw [<-iK s n u N D fun g ht=>I g fun S O K o=>ht ?_] at t;exact t;rw [<-E];exact List.mem_filterMap.2 ⟨O,Array.mem_toList_iff.2 (Array.mem_of_getElem? K),o⟩
end
def blk?:Value->Option Nat
 | .pointer (some a)=>some a.block
 | .slice (some a) _ _=>some a.block
 | _=>none
def vM (d:List Nat) (c:Operand->Value) (f:World):Prop:=
 (∀b∈d,∀a,blk? (c (.tmp b))=some a->a < f.heap.size)/\∀b∈d,∀e∈d,b≠e->∀a,blk? (c (.tmp b))=some a->blk? (c (.tmp e))≠some a
def oP {d:List Nat} {c:Operand->Value} {j:World} (g:(d.all fun a=>(blk? (c (.tmp a))).isNone)=true):vM d c j:=by
 have i:∀a∈d,blk? (c (.tmp a))=none:=fun a b=>by simpa using zBf.1 g a b
 refine ⟨fun a b f e=>?_,fun a b _ _ _ f e=>?_⟩<;>(rw [i a b] at e;cases e)
def aBU (b:Value) (c d:World):Prop:=∀a,blk? b=some a->c.heap.size<=a/\a < d.heap.size
def qO (g:List Nat) (ops:Array Oper) (e:World->World->Prop) (d c:Nat) (i:Value) (a b:World):Prop:=a.heap.size<=b.heap.size/\(c=d->e a b)/\(c≠d->Grow a b)/\∀f∈g,((ops[c]?).bind (·.dst))=some f->aBU i a b
def bW {d:List Nat} {ops:Array Oper} {i:World->World->Prop} {c b:Nat} {o:Value} {f g:World} (e:Grow f g) (n:(b==c)=false) (m:(d.all fun a=>((ops[b]?).bind (·.dst))!= some a)=true):qO d ops i c b o f g:=
 ⟨e.size,fun j=>by simp [j] at n,fun _=>e,fun a k l=>by have:=zBf.1 m a k;simp [l] at this⟩
def eY {j:List Nat} {ops:Array Oper} {g:World->World->Prop} {c e:Nat} {f:Value} {a b:World} (d:Grow a b) (l:(e==c)=false) (k:aBU f a b):qO j ops g c e f a b:=
 ⟨d.size,fun i=>by simp [i] at l,fun _=>d,fun _ _ _=>k⟩
def aBi {f:List Nat} {ops:Array Oper} {e:World->World->Prop} {a:Nat} {n:Value} {c d:World} (i:e c d) (m:c.heap.size<=d.heap.size) (l:(f.all fun b=>((ops[a]?).bind (·.dst))!= some b)=true):qO f ops e a a n c d:=
 ⟨m,fun _=>i,fun g=>absurd rfl g,fun b j k=>by have:=zBf.1 l b j;simp [k] at this⟩
abbrev KP:=List Nat×((Operand->Value)->Value->World->Prop)
def k0 (a:Value->World->Prop):KP:=([],fun _ b c=>a b c)
def kEq (a:Nat):KP:=([a],fun b c _=>c=b (.tmp a))
def kLk (b c:Nat) (d:Value->Value->World->Prop):KP:=([b,c],fun a _ e=>d (a (.tmp b)) (a (.tmp c)) e)
def vI (a:KP):Prop:=∀b c:Operand->Value,(∀d∈a.1,c (.tmp d)=b (.tmp d))->∀e f,a.2 b e f->a.2 c e f
def xD (b:Value->World->Prop):vI (k0 b):=fun _ _ _ _ _ a=>a
def yK (a:Nat):vI (kEq a):=fun f b d e g c=>by
 show e=b (.tmp a);rw [d a (by simp [kEq])];exact c
def aCm (a b:Nat) (e:Value->Value->World->Prop):vI (kLk a b e):=fun i c d j g f=>by
 show e (c (.tmp a)) (c (.tmp b)) g;rw [d a (by simp [kLk]),d b (by simp [kLk])];exact f
def xP (f:World->World->Prop) (b:KP):Prop:=∀a c d e,b.2 a c d->f d e->b.2 a c e
def eS {e:World->World->Prop} {d:Value->World->Prop} (f:∀a b c,d a b->e b c->d a c):xP e (k0 d):=fun _ a b c g i=>f a b c g i
def nC (a:World->World->Prop) (b:Value):xP a (k0 (is b)):=fun _ _ _ _ c _=>c
def tA (a:World->World->Prop):xP a (k0 dU):=fun _ _ _ _ _ _=>trivial
def kK (a:World->World->Prop) (c:Nat):xP a (kEq c):=fun _ _ _ _ b _=>b
def kJ {d:World->World->Prop} {k l:Nat} {c:Value->Value->World->Prop} (g:∀e f a b,c e f a->d a b->c e f b):xP d (kLk k l c):=fun _ _ a b i j=>g _ _ a b i j
def VsQ (c:List KP) (b:Nat) (a:Operand->Value) (d:Value) (e:World):Prop:=(c.getD b (k0 dU)).2 a d e
def xX (a:List KP) (b:Nat):a.getD b (k0 dU)∈a∨a.getD b (k0 dU)=k0 dU:=by
 rw [zAb];cases c:a[b]? with
 | none=>exact .inr rfl
 | some d=>exact .inl (zAd c)
def nN {P:Program} {ops:Array Oper} {Q:Exit->Act->World->Prop} {md:Region.Mode} (M s:List Nat) (B:Nat) (C:World->World->Prop) (A:World->Prop) (g:List KP) (D:Act) (I:World)
 (r:ops.toList.filterMap (·.dst)=M) (T:eQ md ops D.tmps.size=true)
 (ae:((List.range ops.size).all fun b=>(List.range ops.size).all fun c=>match ops[c]? with
  | some e=>upB md ops ops.size b c||(g.getD b (k0 dU)).1.all fun j=>e.dst != some j
  | none=>true)=true)
 (a3:A I) (a1:vM s D.eval I) (a2:∀a k,A a->(Grow a k∨C a k)->A k)
 (a9:∀G∈g,vI G) (L:∀G∈g,xP Grow G) (ah:∀G∈g.eraseIdx B,xP C G)
 (ai:∀c e,ops[c]?=some e->nK P ops Q md (fun d a=>A a/\vM s d a) (qO s ops C B) (fun _ _=>True) (VsQ g) D c e)
 (ab:∀(d:Operand->Value) a,A a->vM s d a->(∀b E,((ops[b]?).bind (·.dst))=some E->VsQ g b d (d (.tmp E)) a)->(∀b,b < ops.size->∃f,VsQ g b d f a)->Q .normal (bY d M D) a):
 wpAny P md ops Q ops.size (Array.replicate ops.size false) D I:=by
 have a7:∀ {c f a k},qO s ops C B c f a k->Grow a k∨C a k:=fun {c f a k} p=>by by_cases v:c=B;exact .inr (p.2.1 v);exact .inl (p.2.2.1 v)
 have ag:∀c,upB md ops ops.size c c=false:=by
  intro c;cases R:upB md ops ops.size c c with
  | false=>rfl
  | true=>exact (vP T _ _ _ nL R).elim
 have aa:∀b,vI (g.getD b (k0 dU)):=fun b=>by rcases xX g b with p | p;exact a9 _ p;rw [p];exact xD _
 have S:∀b c e (d o:Operand->Value) f a,b < ops.size->ops[c]?=some e->(∀j,e.dst≠some j->o (.tmp j)=d (.tmp j))->upB md ops ops.size b c=false->VsQ g b d f a->VsQ g b o f a:=by intro b c e d o f a y n q O z;have l:=zBf.1 (zBf.1 ae b (by simpa using y)) c (by simpa using (zAh.1 n).1);simp only [n,O,Bool.false_or] at l;exact aa b d o (fun j ht=>q j (by have:=zBf.1 l j ht;simpa using this)) f a z
 refine qR M (fun d a=>A a/\vM s d a) (qO s ops C B) (fun _ _=>True) (fun b d f a=>b < ops.size->VsQ g b d f a) D I r T ⟨a3,a1⟩ (fun _=>trivial) (fun c e d o f a k n x q p F=>⟨a2 a k p.1 (a7 F),?_⟩) (fun _ _ _ _ _ _ _ _ _=>trivial) (fun c e d o f a n q z v=>S c c e d o f a v n q (ag c) (z v)) (fun b c e d o f al a k n q ac O z R F y=>?_) (fun c e n W a l m X Y Z a0 V a4=>ai c e n W a l m X Y Z (fun J q a8 aj E U x=>a0 J q a8 aj E U x (zAh.1 U).1) V (fun f k a5 a6=>a4 f k a5 fun _=>a6)) (fun d a p l m=>ab d a p.1 p.2 (fun b E x=>l b E x (by
  cases n:ops[b]? with
  | none=>rw [n] at x;cases x
  | some e=>exact (zAh.1 n).1)) (fun b y=>(m b y).imp fun f z=>z y))
 · have ak:=F.1;obtain ⟨l,m⟩:=p.2;have N:∀i∈s,e.dst=some i->aBU (o (.tmp i)) a k:=fun i w r=>by rw [x i r];exact F.2.2.2 i w (by rw [n];exact r)
   refine ⟨fun i w t u=>?_,fun i w j ht L t u H=>?_⟩;by_cases r:e.dst=some i;exact (N i w r t u).2;rw [q i r] at u;have:=l i w t u;omega;by_cases r:e.dst=some i;have K:e.dst≠some j:=fun J=>L (by rw [r] at J;injection J);rw [q j K] at H;have:=(N i w r t u).1;have:=l j ht t H;omega;rw [q i r] at u;by_cases K:e.dst=some j;have:=(N j ht K t H).1;have:=l i w t u;omega;rw [q j K] at H;exact m i w j ht L t u H
 · have l:=S b c e d o f a y n q O (z y);unfold VsQ at l⊢;by_cases v:c=B
   · subst v
     have af:g.getD b (k0 dU)∈g.eraseIdx c∨g.getD b (k0 dU)=k0 dU:=by
        rw [zAb];cases ad:g[b]? with
        | none=>exact .inr rfl
        | some G=>exact .inl (List.mem_eraseIdx_iff_getElem?.2 ⟨b,ac,ad⟩)
     rcases af with m | m;exact ah _ m o f a k l (F.2.1 rfl)
     · rw [m];trivial
   · rcases xX g b with m | m;exact L _ m o f a k l (F.2.2.1 v)
     · rw [m];trivial
end
end Go.Proofs.YtnmapianpjamnaaGreatDoor
