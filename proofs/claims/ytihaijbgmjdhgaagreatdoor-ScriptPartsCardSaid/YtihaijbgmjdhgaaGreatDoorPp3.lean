/- Lemmas of the walk. Conditions: each its own. -/
import Derived.Test.YtihaijbgmjdhgaaGreatDoorPp0
import Derived.Test.YtihaijbgmjdhgaaGreatDoorProg
set_option linter.all false
set_option maxRecDepth 100000
set_option maxHeartbeats 2000000
namespace Go.Proofs.YtihaijbgmjdhgaaGreatDoor
open Tryz
section
open Go.RowKit
def aCn (d:World->World->Prop) (a:Value->World->Prop):Prop:=∀b w c,a b w->d w c->a b c
theorem nO (a:World->World->Prop) (b:Value):aCn a (is b):=fun _ _ _ c _=>c
theorem oE (a:World->World->Prop):aCn a dJ:=fun _ _ _ _ _=>trivial
theorem fS {g:World->World->Prop} {c:List (Value->World->Prop)} (i:∀f∈c,aCn g f):∀b d w e,Vs c b d w->g w e->Vs c b d e:=by
 intro b d w e a j;unfold Vs at a⊢;rw [zAb] at a⊢;rcases hl:c[b]? with _ | f;rw [hl] at a;exact a;rw [hl] at a;exact i f (zAd hl) d w e a j
end
section
open Go.RowKit Go
section
variable {P : Program} {ops : Array Oper} {Q : Exit -> Act -> World -> Prop} {md : Region.Mode}
def bG (c b:Nat):Array Bool:=((List.range b).map fun a=>decide (a < c)).toArray
theorem lN (b a:Nat) (k:b<=a):(bG b a).toList.count false=a - b:=by
 unfold bG;rw [List.toList_toArray]
 induction a with
 | zero=>simp
 | succ a j=>
   rw [List.range_succ,zAy,zCa];rcases zBd a b with c | c
   · have:b=a+1:=oM;subst this;have d:(List.map (fun i=>decide (i < a+1)) (List.range a)).count false=0:=(by rw [List.count_eq_zero];intro f;obtain ⟨l,g,e⟩:=zAx.1 f;have:=zCf.1 g;simp at e;omega);rw [d];simp
   rw [j c];have:¬(a < b):=oM;simp [this];omega
theorem fK {a:Nat} {f:Array Bool} {b:Act} {w:World} (e:Region.ready md ops f= []) (d:Q .normal b w):wpAny P md ops Q a f b w:=by
 cases a with
 | zero=>exact ⟨e,d⟩
 | succ a=>exact ⟨fun _=>d,fun g c=>by rw [e] at c;cases c⟩
theorem dW {f:Nat} {a:Array Bool} {b:Act} {w:World} {i:Nat} (e:Region.ready md ops a= [i]) (g:wpOp P ops Q i (wpAny P md ops Q f (a.setIfInBounds i true)) b w):wpAny P md ops Q (f+1) a b w:=
 ⟨fun c=>(by rw [e] at c;cases c),fun j d=>(by rw [e] at d;cases List.mem_singleton.1 d;exact g)⟩
theorem nY (g:Nat) (D:World->Prop) (T:Nat->World->World->Prop) (L:Nat->World->Prop) (M:Nat->Value->World->Prop) (E:Act)
 (Y:World) (aq:g<=ops.size) (a3:eL md ops E.tmps.size=true) (az:((List.range ops.size).all fun e=>decide (e < g)||(List.range g).all fun a=>upB md ops ops.size e a)=true) (ah:D Y) (aj:∀a,L a Y) (ag:∀b w x,b < g->D w->T b w x->D x)
 (ai:∀a b w x,b < g->a≠b->upB md ops ops.size b a=false->L a w->D w->T b w x->L a x)
 (aw:∀a b C w x,b < g->a≠b->kK md ops a b=false->upB md ops ops.size a b=false->M a C w->D w->T b w x->M a C x)
 (ax:∀b j,b < g->ops[b]?=some j->bS P ops Q md D T L M E b j)
 (ab:∀o w ae,D w->o.tmps.size=E.tmps.size->o.defers=E.defers->
  (∀u,(∀(e:Nat) (i:Oper),e < g->ops[e]?=some i->i.dst≠some u)->o.tmps.getD u undef=E.tmps.getD u undef)->
  (∀a j,a < g->ops[a]?=some j->∃C,(∀s,j.dst=some s->o.tmps.getD s undef=C)/\M a C w)->wpAny P md ops Q (ops.size - g+ae) (bG g ops.size) o w):
 wpAny P md ops Q ops.size (Array.replicate ops.size false) E Y:=by
 have aC:∀f:Array Bool,f.size=ops.size->Region.ready md ops f= []->∀a,a < ops.size->f.getD a false=true:=by
  intro f K a5 a
  induction a using Nat.strongRecOn with
  | _ a a7=>
    intro k;cases z:f.getD a false with
    | true=>rfl
    | false=>
      exfalso;have X:a∈Region.ready md ops f:=(by refine mem_ready.2 ⟨?_,ops[a],zAq k,fun n p G=>?_⟩;have a1:a < f.size:=oM;simp [a1] at z⊢;exact z;have:=(bV a3 (zAq k)).1 n p G;exact a7 n.on this oM);rw [a5] at X;cases X
 have aB:∀A f o w,f.size=ops.size->f.toList.count false<=A->Loose7 md ops D L M E f o w->(∀e,g<=e->f.getD e false=false)->wpAny P md ops Q A f o w:=by
  intro A
  induction A with
  | zero=>
    intro f o w K z c S
    have F:∀a,a < ops.size->f.getD a false=true:=by
        intro a k;have a1:a < f.size:=oM;cases J:f.getD a false with
        | true=>rfl
        | false=>
          exfalso;have:false∈f.toList:=(by simp [a1] at J;exact J ▸(by simp));have:=List.count_pos_iff.2 this;omega
    have au:g=ops.size:=by
        rcases zBd g ops.size with t | t
        · have y:=F g t;rw [S g nL] at y;cases y
        omega
    have p:f=bG g ops.size:=by
        apply Array.ext
        · simp [bG,K]
        intro a t y;have q:=F a oM;simp [t] at q;simp [bG,q];omega
    have q:=ab o w 0 c.world c.size c.defers (fun u I=>c.old u fun e i d l=>absurd l (I e i (by have:=(zAh.1 d).1;omega) d)) fun a j k m=>c.val a j m (F a (zAh.1 m).1);rw [<-p,<-au,Nat.sub_self] at q;exact q
  | succ A a7=>
    intro f o w K z c S;by_cases F:∀a,a < g->f.getD a false=true
    · have p:f=bG g ops.size:=by
       apply Array.ext
       · simp [bG,K]
       intro a t y;rcases zBd a g with v | v;have q:=F a v;simp [t] at q;simp [bG,q];exact v;have q:=S a v;simp [t] at q;simp [bG,q];omega
      have aF:ops.size - g<=A+1:=(by rw [p,lN _ _ aq] at z;exact z);have q:=ab o w (A+1 -(ops.size - g)) c.world c.size c.defers (fun u I=>c.old u fun e i d l=>by
       rcases zBd e g with v | v;exact absurd l (I e i v d)
       · exact S e v) fun a j k m=>c.val a j m (F a k)
      rw [<-p,show ops.size - g+(A+1 -(ops.size - g))=A+1 by omega] at q;exact q
    refine ⟨fun a5=>absurd (fun a k=>aC f K a5 a oM) F,fun b ap=>?_⟩;obtain ⟨a9,j,m,U⟩:=mem_ready.1 ap;have R:b < ops.size:=(zAh.1 m).1;have H:b < f.size:=oM;have B:f.getD b false=false:=(by simp [H] at a9⊢;exact a9);have V:b < g:=(by rcases zBd b g with v | v;exact v;exfalso;refine F fun a k=>?_;have aa:=zBe.1 az b (zCf.2 R);have af:¬(b < g):=oM;simp only [af,decide_false,Bool.false_or] at aa;exact cO c.shut _ b a j m U (zBe.1 aa a (zCf.2 k)));refine ax b j V m o w c.world (c.pre b j m B) c.size c.defers (fun u I=>c.old u fun e i d l=>?_) (fun n p G i s d l=>by obtain ⟨C,t,y⟩:=c.val n.on i d (U n p G);rw [t s l];exact y) _ fun C x Z ak=>?_
    · rcases lB I d l with rfl |⟨n,p,G,ao⟩;exact B
      · cases r:f.getD e false with
        | false=>rfl
        | true=>
          have:=c.shut e i d r n p G;rw [ao,B] at this;cases this
    · refine a7 _ _ _ (by simpa using K) ?_ ?_ (fun e r=>by rw [getD_set_ne false (by omega:b≠e)];exact S e r);have J:f.toList[b]'(by simpa using H)=false:=(by simp [H] at B⊢;exact B);rw [Array.toList_setIfInBounds,List.count_set (by simpa using H),J];simp;have X:false∈f.toList:=J ▸ zBi _;have:=List.count_pos_iff.2 X;rw [<-Array.count_toList];omega
      · have ay:(o.put j.dst C).tmps.size=E.tmps.size:=by
          rw [<-c.size];cases j.dst with
          | none=>rfl
          | some s=>simp [Act.put]
        refine ⟨ag b w x V c.world Z,fun a i d k=>?_,ay,?_,fun u I=>?_,fun a i d k=>?_,fun e i d r n p G=>?_⟩
        · have ac:a≠b:=fun n=>by rw [n,aE _ _ H] at k;cases k
          rw [getD_set_ne false ac.symm] at k;refine ai a b w x V ac ?_ (c.pre a i d k) c.world Z;cases a6:upB md ops ops.size b a with
          | false=>rfl
          | true=>
            have:=cO c.shut _ b a j m U a6;rw [k] at this;cases this
        · rw [<-c.defers];cases j.dst <;> rfl
        · have ar:j.dst≠some u:=fun l=>by have:=I b j m l;rw [aE _ _ H] at this;cases this
          have av:=c.old u fun e i d l=>by
           have:=I e i d l;cases r:f.getD e false with
           | false=>rfl
           | true=>
             by_cases ad:b=e
             · subst ad;rw [B] at r;cases r
             · rw [getD_set_ne false ad,r] at this;cases this
          rw [<-av];cases a4:j.dst with
          | none=>rfl
          | some s=>
            have a0:s≠u:=fun c=>ar (by rw [a4,c]);simp [Act.put,zAm,a0]
        · rcases cE _ _ _ k with rfl | N
          · rw [m] at d;injection d with d;subst d;refine ⟨C,fun s l=>?_,ak⟩;have an:=((bV a3 m).2 s l).1;rw [l];have:s < o.tmps.size:=(by rw [c.size];exact an);simp [Act.put,zAm,this]
          · by_cases a2:a=b
            · subst a2;rw [B] at N;cases N
            obtain ⟨aD,aA,J⟩:=c.val a i d N
            have al:kK md ops a b=false:=by
              cases z:kK md ops a b with
              | false=>rfl
              | true=>
                exfalso;unfold kK at z;rw [d] at z;obtain ⟨n,p,y⟩:=List.any_eq_true.1 z;simp only [zBc,zCl] at y;have:=c.shut a i d N n (Array.mem_toList_iff.1 p) y.1;rw [y.2,B] at this;cases this
            have am:upB md ops ops.size a b=false:=by
              cases a6:upB md ops ops.size a b with
              | false=>rfl
              | true=>
                have:=cO c.shut _ a b i d (c.shut a i d N) a6;rw [B] at this;cases this
            refine ⟨aD,fun s l=>?_,aw _ _ _ _ _ V a2 al am J c.world Z⟩;rw [<-aA s l];cases a4:j.dst with
            | none=>rfl
            | some a8=>
              have a0:a8≠s:=fun c=>a2 (((bV a3 m).2 a8 a4).2 a i d (c ▸ l));simp [Act.put,zAm,a0]
        rcases cE _ _ _ r with rfl | r;rw [m] at d;injection d with d;subst d;have t:=U n p G;by_cases O:e=n.on;rw [<-O];exact aE _ _ H _;rw [getD_set_ne false O];exact t;have t:=c.shut e i d r n p G;by_cases O:b=n.on;rw [<-O];exact aE _ _ H _;rw [getD_set_ne false O];exact t
 refine aB _ _ _ _ (by simp) (by simp) ⟨ah,fun b _ _ _=>aj b,rfl,rfl,fun _ _=>rfl,fun a j m k=>?_,fun e i d r=>?_⟩ (fun e r=>by
  rw [zAm];rcases zBd e ops.size with c | c
  · simp [c]
  · rw [Array.getElem?_eq_none (by simpa using c)];rfl)
 · have R:a < ops.size:=(zAh.1 m).1;simp [R] at k
 · have R:e < ops.size:=(zAh.1 d).1;simp [R] at r
theorem tS (c:Nat) (s:List Nat) (e:World->Prop) (k:Nat->World->World->Prop) (l:Nat->World->Prop) (f:Nat->Value->World->Prop) (g:Act)
 (o:World) (G:(ops.toList.take c).filterMap (·.dst)=s) (M:c<=ops.size) (L:eL md ops g.tmps.size=true) (V:((List.range ops.size).all fun p=>decide (p < c)||(List.range c).all fun a=>upB md ops ops.size p a)=true) (B:e o) (E:∀a,l a o) (A:∀b w d,b < c->e w->k b w d->e d)
 (D:∀a b w d,b < c->a≠b->upB md ops ops.size b a=false->l a w->e w->k b w d->l a d)
 (R:∀a b n w d,b < c->a≠b->kK md ops a b=false->f a n w->e w->k b w d->f a n d)
 (S:∀b q,b < c->ops[b]?=some q->bS P ops Q md e k l f g b q)
 (H:∀(x:Operand->Value) w t,e w->(∀a m,a < c->((ops[a]?).bind (·.dst))=some m->f a (x (.tmp m)) w)->wpAny P md ops Q (ops.size - c+t) (bG c ops.size) (cD x s g) w):
 wpAny P md ops Q ops.size (Array.replicate ops.size false) g o:=by
 refine nY c e k l f g o M L V B E A D (fun a b n w d i u z _=>R a b n w d i u z) S fun r w t C T F N X=>?_;have i:=H r.eval w t C fun a m I j=>by
  cases v:ops[a]? with
  | none=>rw [v] at j;cases j
  | some q=>
    rw [v] at j;obtain ⟨n,i,u⟩:=X a q I v;have:=i m j;change f a (r.tmps.getD m undef) w;rw [this];exact u
 rw [<-gU r g s T F fun Y U=>N Y fun p y J O j=>U ?_] at i;exact i;rw [<-G];refine List.mem_filterMap.2 ⟨y,?_,j⟩;have K:(ops.toList.take c)[p]?=some y:=(by rw [zBq,zBv J,Array.getElem?_toList];exact O);exact zAd K
theorem eT {d:Nat} {a:Oper} {b:Act} {w:World} {c:Act->World->Prop} (g:ops[d]?=some a) (f:a.guard=none) (e:Oper.upon P a b c Q ((execOp b.eval a).run P w)):wpOp P ops Q d c b w:=by
 unfold wpOp;simp only [g];have i:Region.wanted a (yielded ops b.tmps)=true:=by unfold Region.wanted;rw [f]
 rw [zBv i];exact .inl e
end
theorem eY {P:Program} {ops:Array Oper} {Q:Exit->Act->World->Prop} {md:Region.Mode} (d:Nat) (q:List Nat) (g:Nat->Prop) (b:Nat) (s:List Nat) (n:World->Prop) (p:Value->World->Prop) (o:List (Value->World->Prop)) (k:Act) (i:World)
 (F:(ops.toList.take d).filterMap (·.dst)=q) (I:d<=ops.size) (H:eL md ops k.tmps.size=true) (O:((List.range ops.size).all fun c=>decide (c < d)||(List.range d).all fun a=>upB md ops ops.size c a)=true)
 (L:(s.all fun a=>a==b||upB md ops ops.size b a)=true)
 (K:n i) (J:∀w e,n w->Keep g i w->Grow w e->n e) (E:Stb p) (M:∀S∈o,pG g S)
 (N:∀j z,j < d->ops[j]?=some z->bS P ops Q md (Keep g i) (jT g b) (fun a w=>s.contains a=true->n w) (VsJ b p o) k j z)
 (G:∀(u:Operand->Value) w f,Keep g i w->(∀a t,a < d->((ops[a]?).bind (·.dst))=some t->VsJ b p o a (u (.tmp t)) w)->wpAny P md ops Q (ops.size - d+f) (bG d ops.size) (cD u q k) w):
 wpAny P md ops Q ops.size (Array.replicate ops.size false) k i:=by
 refine tS d q (Keep g i) (jT g b) (fun a w=>s.contains a=true->n w) (VsJ b p o) k i F I H O (Keep.refl _ _) (fun _ _=>K) (fun j w e _ C c=>C.trans (fN c)) (fun a j w e _ r R l D c x=>?_) (fun a j A w e _ r _ m _ c=>?_) N G;by_cases y:j=b;exfalso;subst y;have v:=zBe.1 L a (by simpa using x);simp only [R,Bool.or_false,zCl] at v;exact r v;exact J w e (l x) D (c.2 y);unfold VsJ at m⊢;by_cases l:a=b;rw [zBv l] at m⊢;exact E A w e m (c.2 fun B=>r (l.trans B.symm));rw [zBu l] at m⊢;exact oF M a A w e m (fN c)
theorem fR {e:Nat} {c:Nat->Oper->Prop} {d:List Oper} (f:∀a b,(d.take e)[a]?=some b->c (0+a) b):∀a b,a < e->d.toArray[a]?=some b->c a b:=by
 intro a b g i;have:=f a b (by rw [zBq,zBv g];simpa using i);rwa [zBh] at this
end
section
def gP:Nat->Nat->List UInt8
 | 0,_=> []
 | f+1,n=>if n=0 then [] else gP f (n / 128)++ [UInt8.ofNat (n % 128+128)]
def aW (a:Nat):List UInt8:=gP 10 (a / 128)++ [UInt8.ofNat (a % 128)]
def cH (a:List Nat):List UInt8:=a.flatMap aW
def cU:List UInt8->Bool->Nat->Nat->Option (Nat×Nat)
 | [],_,_,_=>none
 | c::r,first,acc,pos=>
   if (first&&c.toNat==128)||decide (144115188075855871 < acc) then none
   else if c.toNat < 128 then some (acc*128+c.toNat % 128,pos+1) else cU r false (acc*128+c.toNat % 128) (pos+1)
def cT (b:List UInt8) (a:Int):Nat×Int×Int:=
 if a < 0∨(b.length:Int) < a then (0,a,2)
 else match cU (b.drop a.toNat) true 0 a.toNat with
    | some (c,d)=>(c,d,0)
    | none=>(0,a,4)
def sN:Nat->Nat->List UInt8
 | 0,_=> []
 | k+1,n=>sN k n++ [UInt8.ofNat (n / 256 ^ k % 256)]
def lM (a:Nat):List UInt8:=sN 4 a
def ofN (b:List UInt8) (a:Nat):Nat->Nat
 | 0=>0
 | k+1=>ofN b a k+(b[a+k]?.getD 0).toNat*256 ^ k
def ofB (b:List UInt8) (a:Int):Nat×Int:=
 if a < 0∨(b.length:Int) < a then (0,2) else if (b.length:Int) - a < 4 then (0,4) else (ofN b a.toNat 4,0)
theorem aDz (c:List UInt8) (b:Nat) (a:Nat):ofN c b a < 256 ^ a:=by
 induction a with
 | zero=>simp [ofN]
 | succ a e=>
   have:(c[b+a]?.getD 0).toNat < 256:=UInt8.toNat_lt _;simp only [ofN,Nat.pow_succ];have d:(c[b+a]?.getD 0).toNat*256 ^ a<=255*256 ^ a:=Nat.mul_le_mul_right _ oM;omega
theorem iE (a:UInt8) (d:List UInt8) (first:Bool) (b c:Nat):cU (a::d) first b c=
 if (first&&a.toNat==128)||decide (144115188075855871 < b) then none
 else if a.toNat < 128 then some (b*128+a.toNat % 128,c+1) else cU d false (b*128+a.toNat % 128) (c+1):=by conv=>lhs;rw [cU]
theorem mH (a:Nat):gP a 0= []:=by cases a <;> simp [gP]
theorem aAj (b:Nat):∀a,a < 128 ^ b->gP (b+1) a=gP b a:=by
 induction b with
 | zero=>intro a c;have:a=0:=by simpa using c
         subst this;simp [gP]
 | succ b e=>
   intro a c;by_cases d:a=0
   · subst d;simp [mH]
   · rw [gP,zBu d,e (a / 128) (by rw [Nat.div_lt_iff_lt_mul oM];rw [Nat.pow_succ] at c;exact c)]
     conv=>rhs;rw [gP,zBu d]
theorem aAi (a:Nat) (b:a≠0) (c:a < 128 ^ 10):gP 10 a=gP 10 (a / 128)++ [UInt8.ofNat (a % 128+128)]:=by
 rw [aAj 9 (a / 128) oM]
 conv=>lhs;rw [gP,zBu b]
theorem uQ (a:Nat):∀b,(gP a b).length<=a:=by
 induction a with
 | zero=>intro b;simp [gP]
 | succ a c=>
   intro b;unfold gP;split
   · simp
   have:=c (b / 128);simp;omega
theorem cB (a:Nat):(aW a).length<=11:=by
 have:=uQ 10 (a / 128);simp [aW];omega
theorem oX (a:List Nat):(cH a).length<=11*a.length:=by
 induction a with
 | nil=>simp [cH]
 | cons b a c=>
   have:=cB b;simp [cH] at c⊢;omega
theorem vE (b:List Nat) (a:Nat) (c:Nat) (d:b[a]?=some c):cH (b.take (a+1))=cH (b.take a)++aW c:=by
 have e:a < b.length:=(zAc.1 d).1;rw [List.take_succ_eq_append_getElem e];have:b[a]=c:=(zAc.1 d).2;rw [this];simp [cH,List.flatMap_append]
theorem aCY (b c a:Nat) (f:c+1<=a) (e:a=0∨1<=b / 2 ^(7*a)):b / 2 ^(7*(c+1))≠0:=by
 have g:1<=b / 2 ^(7*a):=by rcases e with d | d <;> omega
 have i:b / 2 ^(7*a)<=b / 2 ^(7*(c+1)):=Nat.div_le_div_left (zBn oM oM) (Nat.pow_pos oM);omega
theorem aDB (a b:Nat) (c:a < 18446744073709551616):a / 2 ^(7*(b+1)) < 128 ^ 9:=by
 have d:a / 2 ^(7*(b+1))<=a / 2 ^ 7:=Nat.div_le_div_left (zBn oM oM) (Nat.pow_pos oM);omega
theorem aDF (b a:Nat):b / 2 ^(7*(a+1))=b / 2 ^(7*a)/ 128:=by
 rw [Nat.div_div_eq_div_mul,show 7*(a+1)=7*a+7 by omega,Nat.pow_add]
theorem aAa (b a:Nat) (e:b < 18446744073709551616) (f:a<=9) (d:128<=b / 2 ^(7*a)):a+1<=9:=by
 by_cases c:a=9;subst c;rw [Nat.le_div_iff_mul_le dC] at d;omega;omega
theorem kG (a:Nat):cH [a]=aW a:=by simp [cH]
theorem aAu (b:Nat):∀a e c,a < 128 ^ b->a < 144115188075855872->cU (gP b a++e) true 0 c=cU e (a==0) a (c+(gP b a).length):=by
 induction b with
 | zero=>intro a e c d _;have:a=0:=by simpa using d
         subst this;simp [gP]
 | succ b k=>
   intro a e c d l;by_cases f:a=0
   · subst f;simp [mH]
   · rw [gP,zBu f,zCj,k (a / 128) _ c (by rw [Nat.div_lt_iff_lt_mul oM];rw [Nat.pow_succ] at d;exact d) oM];rw [List.singleton_append,iE];have j:(UInt8.ofNat (a % 128+128)).toNat=a % 128+128:=(by simp [UInt8.toNat_ofNat'];omega);rw [j,zBu,zBu oM]
     · have i:a / 128*128+(a % 128+128)% 128=a:=oM;rw [i,zAi,List.length_singleton,Nat.add_assoc];have:(a==0)=false:=(by simp [f]);rw [this]
     by_cases g:a / 128=0;simp [g];omega;simp [g];omega
theorem jM (a:Nat) (e:a < 18446744073709551616) (d:List UInt8) (b:Nat):cU (aW a++d) true 0 b=some (a,b+(aW a).length):=by
 unfold aW;rw [zCj,aAu 10 (a / 128) _ b oM oM,List.singleton_append,iE];have c:(UInt8.ofNat (a % 128)).toNat=a % 128:=by simp [UInt8.toNat_ofNat'];omega
 rw [c,zBu,zBv oM,zAi,List.length_singleton];congr 2;omega;simp;omega
theorem aB4 (a:Nat):0 < (aW a).length:=by simp [aW]
theorem aBV (b d:List UInt8) (a:Nat) (c:a < 18446744073709551616):cT (b++(aW a++d)) (b.length:Int)=(a,((b.length+(aW a).length:Nat):Int),0):=by
 rw [cT,zBu (by simp;omega)];simp only [zBp,List.drop_left];rw [jM a c]
def bX (a:List (Int×Nat)) (b:Int):List (Int×Nat):=
 match a.getLast? with
 | some (c,d)=>if c=b then a.dropLast++ [(c,d+1)] else a++ [(b,1)]
 | none=> [(b,1)]
def aO (a:List Int):List (Int×Nat):=a.foldl bX []
theorem uB (b:List Int) (a:Nat) (d:Int) (c:b[a]?=some d):aO (b.take (a+1))=bX (aO (b.take a)) d:=by
 have e:a < b.length:=(zAc.1 c).1;rw [List.take_succ_eq_append_getElem e,(zAc.1 c).2];simp [aO,List.foldl_append]
theorem eD (c:List (Int×Nat)) (a:Int) (b:Nat):bX (c++ [(a,b)]) a=c++ [(a,b+1)]:=by simp [bX]
theorem dO (d:List (Int×Nat)) (b a:Int) (c:Nat) (e:b≠a):bX (d++ [(b,c)]) a=d++ [(b,c)]++ [(a,1)]:=by simp [bX,e]
theorem uC (a:Int):bX [] a= [(a,1)]:=by simp [bX]
theorem uD (a:List (Int×Nat)) (b:Int):(bX a b).length<=a.length+1/\a.length<=(bX a b).length:=by
 rcases List.eq_nil_or_concat a with rfl |⟨f,⟨d,e⟩,rfl⟩
 · simp [bX]
 · rw [List.concat_eq_append];by_cases c:d=b
   · subst c;rw [eD];simp
   · rw [dO _ _ _ _ c];simp
theorem gZ (a:List Int):(aO a).length<=a.length:=by
 have e:∀(a:List Int) (b:List (Int×Nat)),(a.foldl bX b).length<=b.length+a.length:=by
  intro a
  induction a with
  | nil=>intro b;simp
  | cons c a d=>intro b;have:=d (bX b c);have f:=(uD b c).1;simp only [List.foldl_cons,zCd];omega
 have:=e a [];simpa [aO] using this
def cV (b:List (Int×Nat)):List Int:=b.flatMap fun a=>List.replicate a.2 a.1
theorem vC (a:List (Int×Nat)) (b:Int):cV (bX a b)=cV a++ [b]:=by
 rcases List.eq_nil_or_concat a with rfl |⟨f,⟨d,e⟩,rfl⟩
 · simp [bX,cV]
 · rw [List.concat_eq_append];by_cases c:d=b
   · subst c;rw [eD];simp [cV,List.flatMap_append,List.replicate_succ']
   · rw [dO _ _ _ _ c];simp [cV,List.flatMap_append]
theorem iU (a:List Int):cV (aO a)=a:=by
 have d:∀(a:List Int) (b:List (Int×Nat)),cV (a.foldl bX b)=cV b++a:=by
  intro a
  induction a with
  | nil=>intro b;simp
  | cons e a c=>intro b;rw [List.foldl_cons,c,vC];simp
 have:=d a [];simpa [aO,cV] using this
def mR (a:List (Int×Nat)):Prop:=(∀e∈a,1<=e.2)/\a.Pairwise (fun _ _=>True)/\∀d b c,a[d]?=some b->a[d+1]?=some c->b.1≠c.1
theorem wQ (k:List (Int×Nat)) (l:Int) (s:mR k):mR (bX k l):=by
 obtain ⟨r,_,n⟩:=s;refine ⟨?_,List.pairwise_of_forall (by intros;trivial),?_⟩
 · rcases List.eq_nil_or_concat k with rfl |⟨g,⟨f,j⟩,rfl⟩
   · simp [bX]
   · rw [List.concat_eq_append] at*
     by_cases e:f=l
     · subst e;rw [eD];intro p c;rcases zCk.1 c with c | c;exact r p (List.mem_append_left _ c)
       · have:=List.mem_singleton.1 c;subst this;simp
     · rw [dO _ _ _ _ e];intro p c;rcases zCk.1 c with c | c;exact r p c
       · have:=List.mem_singleton.1 c;subst this;simp
 · intro d m q b a;rcases List.eq_nil_or_concat k with rfl |⟨g,⟨f,j⟩,rfl⟩
   · simp [bX] at a
   · rw [List.concat_eq_append] at*
     by_cases e:f=l
     · subst e;rw [eD] at b a;have o:d+1 < (g++ [(f,j+1)]).length:=(zAc.1 a).1;simp at o;by_cases i:d+1=g.length;rw [zAo oM,i] at a;simp at a;rw [zAn oM] at b;have:=n d m (f,j) (by rw [zAn oM];exact b) (by rw [zAo oM,i];simp);rw [<-a];exact this
       · rw [zAn oM] at b a;exact n d m q (by rw [zAn oM];exact b) (by rw [zAn oM];exact a)
     rw [dO _ _ _ _ e] at b a;have o:d+1 < (g++ [(f,j)]++ [(l,1)]).length:=(zAc.1 a).1;simp at o;by_cases i:d=g.length;subst i;rw [zAn (by simp)] at b;simp at b;rw [zAo (by simp)] at a;simp at a;rw [<-b,<-a];exact e;rw [zAn (by simp;omega)] at b a;exact n d m q b a
theorem qS (a:List Int):mR (aO a):=by
 have e:∀(a:List Int) (b:List (Int×Nat)),mR b->mR (a.foldl bX b):=by
  intro a
  induction a with
  | nil=>intro b c;exact c
  | cons f a d=>intro b c;exact d _ (wQ b f c)
 exact e a [] ⟨by simp,List.Pairwise.nil,by simp⟩
theorem xQ (a:List (Int×Nat)) (d:Int×Nat) (b:d∈a):d.2<=(cV a).length:=by
 induction a with
 | nil=>cases b
 | cons c a f=>
   have e:cV (c::a)=List.replicate c.2 c.1++cV a:=(by simp [cV]);rw [e,zAi,zCi];rcases List.mem_cons.1 b with rfl | b;omega;have:=f b;omega
theorem jX (b:List Int) (a:Int×Nat) (c:a∈aO b):a.2<=b.length:=by
 have:=xQ _ a c;rwa [iU] at this
def fQ (a:Int):Prop:=0<=a/\a < 257
instance (s:Int):Decidable (fQ s):=inferInstanceAs (Decidable (_/\_))
def bK (a:Int×Nat):List UInt8:=aW a.1.toNat++aW a.2
def dA (a:List (Int×Nat)):List UInt8:=aW a.length++a.flatMap bK
def kX (a:List Int):Option (List UInt8):=if ∀b∈aO a,fQ b.1 then some (dA (aO a)) else none
theorem mX (a:Int×Nat):(bK a).length<=22:=by
 have:=cB a.1.toNat;have:=cB a.2;simp [bK];omega
theorem pZ (b:List (Int×Nat)) (a:Nat) (d:Int×Nat) (c:b[a]?=some d):(b.take (a+1)).flatMap bK=(b.take a).flatMap bK++bK d:=by
 have e:a < b.length:=(zAc.1 c).1;rw [List.take_succ_eq_append_getElem e,(zAc.1 c).2];simp [List.flatMap_append]
theorem mZ (a:List (Int×Nat)):(a.flatMap bK).length<=22*a.length:=by
 induction a with
 | nil=>simp
 | cons b a c=>
   have:=mX b;rw [List.flatMap_cons,zAi,zCd];omega
def jR (b:List UInt8) (a:Nat):Option (Nat×Nat×Nat):=
 match cU (b.drop a) true 0 a with
 | none=>none
 | some (f,c)=>
   match cU (b.drop c) true 0 c with
   | none=>none
   | some (e,d)=>some (f,e,d)
def rgo (c:List UInt8) (e:Nat):Nat->Nat->Nat->List Int->List Int×Int
 | 0,a,_,acc=>if a=c.length then (acc,0) else ([],4)
 | n+1,a,last,acc=>
   match jR c a with
   | none=>([],4)
   | some (b,d,f)=>if 257<=b∨b=last∨d=0 then ([],4) else if e - acc.length < d then ([],3) else rgo c e n f b (acc++List.replicate d (b:Int))
def iD (a:List UInt8) (c:Int):List Int×Int:=
 match cU a true 0 0 with
 | none=>([],4)
 | some (d,b)=>rgo a c.toNat d b 257 []
theorem oV (f:List UInt8):∀first b d e c,cU f first b d=some (e,c)->d < c/\c<=d+f.length/\e < 18446744073709551616:=by
 induction f with
 | nil=>intro first b d e c a;rw [cU] at a;cases a
 | cons j l i=>
   intro first b d e c a
   rw [iE] at a;split at a
   · cases a
   · rename_i g
     split at a
     · injection a with a;injection a with h1 h2;subst h1;subst h2;have k:b<=144115188075855871:=(by rcases zBd 144115188075855871 b with a | a;exact absurd (by simp [a]) g;exact a);refine ⟨by omega,by simp,by omega⟩
     have:=i _ _ _ _ _ a;simp only [zCd];omega
theorem kB (b:List UInt8) (a d c:Nat) (f:a<=b.length) (e:cU (b.drop a) true 0 a=some (d,c)):cT b (a:Int)=(d,(c:Int),0):=by
 rw [cT,zBu oM];simp only [zBp,e]
theorem kC (b:List UInt8) (a:Nat) (d:a<=b.length) (c:cU (b.drop a) true 0 a=none):cT b (a:Int)=(0,(a:Int),4):=by
 rw [cT,zBu oM];simp only [zBp,c]
theorem uK (b:List UInt8) (f g a e:Nat) (c:List Int) (d:jR b a=none):rgo b f (g+1) a e c=([],4):=by simp only [rgo,d]
theorem uJ (d:List UInt8) (e j f i:Nat) (c:List Int) (a b g:Nat) (k:jR d f=some (a,b,g)):
 rgo d e (j+1) f i c=if 257<=a∨a=i∨b=0 then ([],4) else if e - c.length < b then ([],3) else rgo d e j g a (c++List.replicate b (a:Int)):=by simp only [rgo,k]
theorem uF (b:List UInt8) (a:Nat) (c:cU (b.drop a) true 0 a=none):jR b a=none:=by simp only [jR,c]
theorem uE (b:List UInt8) (a f c:Nat) (d:cU (b.drop a) true 0 a=some (f,c)) (e:cU (b.drop c) true 0 c=none):jR b a=none:=by simp only [jR,d,e]
theorem oL (b:List UInt8) (a f c e d:Nat) (g:cU (b.drop a) true 0 a=some (f,c)) (i:cU (b.drop c) true 0 c=some (e,d)):jR b a=some (f,e,d):=by simp only [jR,g,i]
theorem lL (a:Nat):(lM a).length=4:=by simp [lM,sN]
theorem aBY (a e b:Nat) (g:b < a):(sN a e)[b]?=some (UInt8.ofNat (e / 256 ^ b % 256)):=by
 induction a with
 | zero=>omega
 | succ a d=>
   have c:∀a,(sN a e).length=a:=fun a=>by induction a with
    | zero=>rfl
    | succ a d=>simp [sN,d]
   rw [sN];by_cases f:b=a
   · subst f;rw [zAo (by rw [c];omega),c];simp
   · rw [zAn (by rw [c];omega),d oM]
theorem aCU (c f:List UInt8) (a:Nat) (j:a < 4294967296):ofB (c++(lM a++f)) (c.length:Int)=(a,0):=by
 have k:=lL a;rw [ofB,zBu (by simp;omega),zBu (by simp;omega)];have d:∀b,b < 4->(c++(lM a++f))[c.length+b]?=some (UInt8.ofNat (a / 256 ^ b % 256)):=fun b i=>by rw [zAo oM,Nat.add_sub_cancel_left,zAn oM];exact aBY 4 a b i
 simp only [ofN,zBp];rw [d 0 oM,d 1 oM,d 2 oM,d 3 oM];have g:∀e:Nat,(UInt8.ofNat (e % 256)).toNat=e % 256:=fun e=>by simp [UInt8.toNat_ofNat']
 simp only [Option.getD_some,g];congr 1;simp only [Nat.reducePow,Nat.div_one,zBk];omega
def iF (a:Nat):Nat:=if a % 2=1 then (a / 2)^^^ 3988292384 else a / 2
def lO:Nat->Nat->Nat
 | 0,s=>s
 | k+1,s=>iF (lO k s)
def fX (a:Nat):Nat:=lO 8 a
def nB:List UInt8->Nat->Nat
 | [],a=>a
 | c::r,a=>nB r (fX ((a % 256)^^^ c.toNat)^^^(a / 256))
def sO (b:Nat) (a:List UInt8):Nat:=4294967295 - nB a (4294967295 - b)
def iW (a:List UInt8):Nat:=sO 0 a
theorem xW {a:Nat} (b:a < 4294967296):iF a < 4294967296:=by
 unfold iF;split;exact Nat.xor_lt_two_pow (n:=32) oM oM;omega
theorem oY {c:Nat} (b:c < 4294967296):∀a,lO a c < 4294967296
 | 0=>b
 | a+1=>xW (oY b a)
theorem rF {a:Nat} (b:a < 256):fX a < 4294967296:=oY oM 8
theorem aCc {b:Nat} (c:b < 4294967296) (a:UInt8):(b % 256)^^^ a.toNat < 256:=Nat.xor_lt_two_pow (n:=8) oM a.toNat_lt
theorem aCb {a:Nat} (c:a < 4294967296) (b:UInt8):fX ((a % 256)^^^ b.toNat)^^^(a / 256) < 4294967296:=
 Nat.xor_lt_two_pow (n:=32) (rF (aCc c b)) oM
theorem lP:∀(d:List UInt8) (b:Nat),b < 4294967296->nB d b < 4294967296
 | [],_,a=>a
 | c::r,b,a=>lP r _ (aCb a c)
theorem oZ:∀(c:List UInt8) (a:UInt8) (b:Nat),nB (c++ [a]) b=fX ((nB c b % 256)^^^ a.toNat)^^^(nB c b / 256)
 | [],_,_=>rfl
 | d::r,a,b=>oZ r a _
theorem zE (a:List UInt8):iW a < 4294967296:=by
 unfold iW sO;have:=lP a (4294967295 - 0) oM;omega
def cL (a:List UInt8):List UInt8:=aW a.length++(a++lM (iW a))
def eF:List UInt8:= [83,75,82,49]
def oI (d:List Nat) (a b:Nat):List UInt8:=(List.range (b / a+1)).flatMap fun c=>aW (d.idxOf (c*a))
def fE (a:List Nat):List Int:=a.map fun b:Nat=>(b:Int)
def dV (a:List Nat):List UInt8:=dA (aO (fE a))
def jS (c e:List Nat) (d b a:Nat):List UInt8:=eF++(cH [d,b,a]++(cL (dV c)++cL (oI e b a)))
def dK (a e:List Nat) (c d b:Nat):List UInt8:=jS a e c d b++lM (iW (jS a e c d b))
theorem oR {d a r:List UInt8} {b c e:Nat} (f:d=a++(aW b++r)) (g:a.length=c) (j:c+(aW b).length=e) (i:b < 18446744073709551616):cT d (c:Int)=(b,(e:Int),0):=by
 rw [f,<-j,<-g];exact aBV a r b i
structure SnAt (body:List UInt8) (most rate N:Nat) (f s:List UInt8) (p1 p2 p3 p4 p5:Nat):Prop where
 e1:body=eF++(aW most++(aW rate++(aW N++(cL f++cL s))))
 h1:4+(aW most).length=p1
 h2:p1+(aW rate).length=p2
 h3:p2+(aW N).length=p3
 h4:p3+(cL f).length=p4
 h5:p4+(cL s).length=p5
theorem vH (c e:List Nat) (d b a:Nat):jS c e d b a=eF++(aW d++(aW b++(aW a++(cL (dV c)++cL (oI e b a))))):=by
 unfold jS;simp [cH]
theorem SnAt.of (c e:List Nat) (d b a:Nat):∃g i j k f,SnAt (jS c e d b a) d b a (dV c) (oI e b a) g i j k f/\(jS c e d b a).length=f:=by
 refine ⟨_,_,_,_,_,⟨vH c e d b a,rfl,rfl,rfl,rfl,rfl⟩,?_⟩;rw [vH];simp [eF];omega
theorem SnAt.n1 {c g o:List UInt8} {b n f e j k l m:Nat} (d:SnAt c b n f g o e j k l m) (i:b < 18446744073709551616):cT c 4=(b,(e:Int),0):=
 oR (a:=eF) d.e1 rfl d.h1 i
theorem SnAt.n2 {e f k:List UInt8} {g c d i j m n o:Nat} (b:SnAt e g c d f k i j m n o) (l:c < 18446744073709551616):cT e (i:Int)=(c,(j:Int),0):=
 oR (a:=eF++aW g) (r:=aW d++(cL f++cL k)) (by rw [b.e1];simp) (by rw [zAi];have:=b.h1;have:eF.length=4:=rfl;omega) b.h2 l
theorem SnAt.n3 {d e k:List UInt8} {f j c m g i n o:Nat} (b:SnAt d f j c e k m g i n o) (l:c < 18446744073709551616):cT d (g:Int)=(c,(i:Int),0):=
 oR (a:=eF++(aW f++aW j)) (r:=cL e++cL k) (by rw [b.e1];simp) (by rw [zAi,zAi];have:=b.h1;have:=b.h2;have:eF.length=4:=rfl;omega) b.h3 l
theorem fL (a:List UInt8):(cL a).length=(aW a.length).length+(a.length+4):=by
 unfold cL;rw [zAi,zAi,lL]
theorem SnAt.f1 {c b m:List UInt8} {f j e p q d g r:Nat} (a:SnAt c f j e b m p q d g r) (o:b.length < 18446744073709551616):
 ∃i:Nat,cT c (d:Int)=(b.length,(i:Int),0)/\i+(b.length+4)=g/\(c.drop i).take b.length=b/\g<=c.length:=by
 have k:c=(eF++(aW f++(aW j++aW e)))++(aW b.length++((b++lM (iW b))++cL m)):=by rw [a.e1];simp [cL]
 have l:(eF++(aW f++(aW j++aW e))).length=d:=by simp only [zAi];have:=a.h1;have:=a.h2;have:=a.h3;have:eF.length=4:=rfl;omega
 refine ⟨d+(aW b.length).length,oR k l rfl o,?_,?_,?_⟩;have:=a.h4;rw [fL] at this;omega
 · rw [k,<-zCj,List.drop_left' (by rw [zAi,l]),zCj,List.take_left' rfl]
 have x:=a.h5;have n:=congrArg List.length a.e1;simp only [zAi] at n;have s:=a.h1;have t:=a.h2;have u:=a.h3;have v:=a.h4;have y:eF.length=4:=rfl;omega
theorem SnAt.f2 {c f b:List UInt8} {g k e p q r d i:Nat} (a:SnAt c g k e f b p q r d i) (o:b.length < 18446744073709551616):
 ∃j:Nat,cT c (d:Int)=(b.length,(j:Int),0)/\j+(b.length+4)=i/\(c.drop j).take b.length=b/\i=c.length:=by
 have l:c=(eF++(aW g++(aW k++(aW e++cL f))))++(aW b.length++((b++lM (iW b))++ [])):=by rw [a.e1];simp [cL]
 have m:(eF++(aW g++(aW k++(aW e++cL f)))).length=d:=by simp only [zAi];have:=a.h1;have:=a.h2;have:=a.h3;have:=a.h4;have:eF.length=4:=rfl;omega
 refine ⟨d+(aW b.length).length,oR l m rfl o,?_,?_,?_⟩;have:=a.h5;rw [fL] at this;omega
 · rw [l,<-zCj,List.drop_left' (by rw [zAi,m]),zCj,List.take_left' rfl]
 have x:=a.h5;have n:=congrArg List.length a.e1;simp only [zAi] at n;have s:=a.h1;have t:=a.h2;have u:=a.h3;have v:=a.h4;have y:eF.length=4:=rfl;omega
end
section
open Go.RowKit
theorem gG:(prog.info? 5).map (fun a=>(a.zero,a.size,a.bytes))=some (some (.int .u8 0),1,1):=by kernel_rfl
def uv (a:Nat):Value:=.int .u64 (a:Int)
theorem aD0 (a:Nat):bits .or .u8 ((a:Int)% 256) 128=((a % 128+128:Nat):Int):=by
 have c:∀b:Fin 256,bits .or .u8 ((b.val:Nat):Int) 128=((b.val % 128+128:Nat):Int):=by decide+kernel
 have:=c ⟨a % 256,by omega⟩;simp only at this;rw [show ((a:Int)% 256)=((a % 256:Nat):Int) by omega,this];omega
theorem aDN (a:Nat):bits .and .u8 ((a:Int)% 256) 127=((a % 128:Nat):Int):=by
 have c:∀b:Fin 256,bits .and .u8 ((b.val:Nat):Int) 127=((b.val % 128:Nat):Int):=by decide+kernel
 have:=c ⟨a % 256,by omega⟩;simp only at this;rw [show ((a:Int)% 256)=((a % 256:Nat):Int) by omega,this];omega
theorem aD3 (b a:Nat):Value.int .u8 (bits .or .u8 ((b:Int)/ 2 ^ a % 256) 128)=bv (UInt8.ofNat (b / 2 ^ a % 128+128)):=by
 have:((b:Int)/ 2 ^ a)=((b / 2 ^ a:Nat):Int):=by push_cast;rfl
 rw [this,aD0];unfold bv;congr 1;simp [UInt8.toNat_ofNat'];omega
theorem aDI (a:Nat):Value.int .u8 (bits .and .u8 ((a:Int)% 256) 127)=bv (UInt8.ofNat (a % 128)):=by
 rw [aDN];unfold bv;congr 1;simp [UInt8.toNat_ofNat'];omega
theorem aDc (y:Option Addr) (g R:Nat) (d:List Nat) (w:World) (v:Rd w w.heap.size 1 y g (d.map uv)) (D:∀a∈d,a < 18446744073709551616) (ag:g<=100000):
 Calls prog 166 #[.slice y g R] w fun S K=>∃k b,S=.returned k/\K.ownsRow w.heap.size 5 1 k b ((cH d).map bv)/\Below w.heap.size w K:=by
 obtain ⟨J,C,G,H,I⟩:=info_parts gG;obtain ⟨O,M⟩:=hqq2 v D;have E:=v.1;have A:=lhd E;clear v D E;go_enter func166,ntmps166;go_wp2;go_loopw [3,9] (fun k e wr=>∃b q:Nat,b<=g/\e=.int .i64 b/\wr.ownsRow w.heap.size 5 1 k q ((cH (d.take b)).map bv)/\Below w.heap.size w wr) (fun _ e _=>g -(intOf e).toNat)
 case atStart=>exact ⟨0,0,zAp _,rfl,World.ownsRow_nil _ _ _ _,Below.refl _ _⟩
 case round=>
  obtain ⟨b,q,af,rfl,u,r⟩:=hrel;by_cases a5:b < g
  · have a9:∃a,d[b]?=some a:=(by have:=A.out;simp at this;exact ⟨d[b]' oM,zAa oM⟩);obtain ⟨a,p⟩:=a9;obtain ⟨ac,ai,aj,rfl,ae,x,Z⟩:=(O.out.below r).get a5;rw [zAf,p] at x;simp at x;subst x;unfold uv at Z;have F:a < 18446744073709551616:=M.out a (zAd p);obtain ⟨N,z⟩:=hqq2 p F;clear p F;go_wp2
    go_loop [6] (fun j=>∃c:Nat,c<=9/\j=.int .i64 (7*(c:Int))/\(c=0∨1<=a / 2 ^(7*c))) (fun j=>100 -(intOf j).toNat)
    case atStart=>exact ⟨0,by omega,rfl,.inl rfl⟩
    case round=>
        obtain ⟨c,a1,rfl,a0⟩:=hrel;go_wp2
        · have X:(128:Int)<=(a:Int)/ 2 ^(7*c):=(by assumption);have Y:128<=a / 2 ^(7*c):=(by exact_mod_cast X);have a3:=aAa a c z.out a1 Y;refine ⟨⟨c+1,a3,by go_num,.inr (by rw [aDF];omega)⟩,by simp [intOf];omega⟩
        · have a7:(a:Int)/ 2 ^(7*c) < 128:=(by assumption);have a8:a / 2 ^(7*c) < 128:=(by exact_mod_cast a7);go_loopw [3,6] (fun k j L=>∃f i:Nat,f<=c/\j=.int .i64 (7*(f:Int))/\L.ownsRow w.heap.size 5 1 k i ((cH (d.take b)++gP 10 (a / 2 ^(7*(f+1)))).map bv)/\Below w.heap.size w L) (fun _ j _=>(intOf j).toNat)
          case atStart=>exact ⟨c,q,zAs _,rfl,by rw [aDF,Nat.div_eq_of_lt a8];simpa [mH] using u,r⟩
          case round=>
           obtain ⟨f,i,a2,rfl,l,s⟩:=hrel;have n:=s.size;have ah:i<=1100010:=(by have U:=l.1;have V:=oX (d.take b);have ad:=uQ 10 (a / 2 ^(7*(f+1)));simp at U V;omega);by_cases T:f=0
           · subst T;go_wp2_with (at_builtin;refine aY _ rfl (.tmp 33) (.tmp 37) _ rfl w.heap.size 5 J (.int .u8 0) 1 1 underlying22 C G H I rfl dC u3 i _ rfl l rfl rfl (by simp [Value.oneCell']) (by unfold maxLen;omega) oM n ?_;intro aa ab m o a6 B);have t:=aL s l o n;clear o B;go_roundw
             case rel=>refine ⟨b+1,i+1,by omega,by go_num,?_,t⟩;rw [vE d b a N.out];rw [aDI] at m;simpa [aW] using m
             case measure=>simp [intOf];omega
           · go_wp2_with (at_builtin;refine aY _ rfl (.tmp 24) (.tmp 31) _ rfl w.heap.size 5 J (.int .u8 0) 1 1 underlying22 C G H I rfl dC u3 i _ rfl l rfl rfl (by simp [Value.oneCell']) (by unfold maxLen;omega) oM n ?_;intro aa ab m o a6 B);have t:=aL s l o n;refine ⟨⟨f - 1,i+1,by omega,cS oM,?_,t⟩,by simp [intOf];omega⟩;rw [aD3] at m;obtain ⟨e,rfl⟩:∃e,f=e+1:=⟨f - 1,by omega⟩;rw [zBa,aAi (a / 2 ^(7*(e+1))),<-aDF];simpa using m;exact aCY a e c a2 a0;exact zAl (aDB a e z.out) dC
  · have a4:b=g:=oM;subst a4;go_wp2;go_ret;refine ⟨u3,q,rfl,?_,r⟩;have:d.take b=d:=zAg (by have:=A.out;simp at this;omega);rw [this] at u;exact u
theorem aDd (e:Option Addr) (d j i:Nat) (a:List Nat) (w:World) (r:Rd w i 1 e d (a.map uv)) (m:i<=w.heap.size) (q:∀t∈a,t < 18446744073709551616) (f:d<=100000):
 Calls prog 166 #[.slice e d j] w fun k g=>∃b c,k=.returned (.slice b (cH a).length c)/\Made g w.heap.size 5 1 b (cH a).length c ((cH a).map bv)/\Below w.heap.size w g:=by
 refine (aDc e d j a w (r.mono m) q f).mono fun k g ⟨u,s,o,l,n⟩=>?_;have p:(cH a).length=s:=by simpa using l.1
 subst p;obtain ⟨b,c,rfl,f⟩:=aF l;exact ⟨b,c,o,f,n⟩
theorem pN (c:Option Addr) (b i d:Nat) (a:List Nat) (w:World) (e:List UInt8) (f:Nat) (n:cH a=e) (o:e.length=f) (r:Rd w d 1 c b (a.map uv)) (m:d<=w.heap.size) (p:∀s∈a,s < 18446744073709551616) (q:b<=100000):
 Calls prog 166 #[.slice c b i] w fun l k=>∃g j,l=.returned (.slice g f j)/\Made k w.heap.size 5 1 g f j (e.map bv)/\Below w.heap.size w k:=by
 subst n;subst o;exact aDd c b i d a w r m p q
def gF (a:Int×Nat):List Value:= [iv a.1,iv (a.2:Int)]
def aX (a:List (Int×Nat)):List Value:=a.flatMap gF
theorem kW (a:List (Int×Nat)):(aX a).length=a.length*2:=by
 induction a with
 | nil=>rfl
 | cons b a d=>
   have c:aX (b::a)=gF b++aX a:=(by simp [aX]);rw [c,zAi,d,zCd];simp [gF];omega
theorem eZ (a b:List (Int×Nat)):aX (a++b)=aX a++aX b:=by simp [aX,List.flatMap_append]
theorem fH (b:List (Int×Nat)) (a d:Nat) (g:Int×Nat) (c:b[a]?=some g) (k:d < 2):(aX b)[a*2+d]?=(gF g)[d]?:=by
 induction b generalizing a with
 | nil=>simp at c
 | cons e b j=>
   have f:aX (e::b)=gF e++aX b:=(by simp [aX]);have i:(gF e).length=2:=rfl;rcases a with _ | a
   · simp at c;subst c;rw [f,Nat.zero_mul,zBh,zAn oM]
   simp only [List.getElem?_cons_succ] at c;rw [f,zAo oM,i,show (a+1)*2+d - 2=a*2+d by omega];exact j a c
theorem aBz:(prog.info? 260).map (fun a=>(a.zero,a.size,a.bytes))=some (some (.agg #[.int .i64 0,.int .i64 0]),2,16):=by kernel_rfl
theorem aDP (J:Option Addr) (i a3 K:Nat) (e:List Int) (w:World) (F:Rd w K 1 J i (e.map iv)) (ac:K<=w.heap.size) (aC:i<=1099511627776):
 Calls prog 245 #[.slice J i a3] w fun a5 a0=>∃v,a5=.returned v/\a0.ownsRow w.heap.size 260 2 v (aO e).length (aX (aO e))/\Below w.heap.size w a0:=by
 obtain ⟨Z,L,V,X,Y⟩:=info_parts aBz;have O:e.length=i:=by simpa using F.1
 obtain ⟨x,a2⟩:=hqq2 O (F.mono ac);clear F O;go_enter func245,ntmps245;go_wp2;go_loopw [3,9] (fun v I wr=>∃c:Nat,c<=i/\I=.int .i64 c/\wr.ownsRow w.heap.size 260 2 v (aO (e.take c)).length (aX (aO (e.take c)))/\Below w.heap.size w wr) (fun _ I _=>i -(intOf I).toNat)
 case atStart=>exact ⟨0,zAp _,rfl,World.ownsRow_nil _ _ _ _,Below.refl _ _⟩
 case round=>
  obtain ⟨c,aB,rfl,f,m⟩:=hrel;have u:=m.size;by_cases ai:c < i
  · obtain ⟨l,G⟩:∃l,e[c]?=some l:=⟨e[c]'(by have:=x.out;omega),zAa (by have:=x.out;omega)⟩;obtain ⟨aq,aH,aI,rfl,ax,H,ad⟩:=(a2.out.below m).get ai;rw [zAf,G] at H;simp at H;subst H;unfold iv at ad;have R:=uB e c l G;have N:=gZ (e.take c);rw [zAj] at N;have D:∀b∈aO (e.take c),b.2<=i:=fun b am=>by have:=jX _ b am;rw [zAj] at this;omega
    generalize aO (e.take c)=r at*
    have y:=lhd R;clear R G;rcases List.eq_nil_or_concat r with rfl |⟨j,⟨b,d⟩,rfl⟩
    · obtain ⟨a1,a4,rfl,aj⟩:=aF f;have ah:([]:List (Int×Nat)).length=0:=rfl;rw [ah] at*
      clear aj D;go_wp2_with (at_builtin;refine aY _ rfl (.tmp 36) (.tmp 39) _ rfl w.heap.size 260 Z _ 2 16 underlying257 L V X Y rfl dC (.slice a1 0 a4) 0 _ rfl f rfl rfl (by simp [Value.oneCell']) (by unfold maxLen;omega) oM u ?_;intro ao ap E o ak B);have C:=aL m f o u;clear o B;go_roundw
      case rel=>refine ⟨c+1,by omega,by go_num,?_,C⟩;rw [y.out,uC];exact E
      case measure=>simp [intOf];omega
    · rw [List.concat_eq_append] at*
      obtain ⟨a,q⟩:=eqx j.length;have M:(j++ [(b,d)]).length=a+1:=(by simp [q]);rw [M] at f N;obtain ⟨g,k,t,rfl,ae,af,aE,ay,_⟩:∃g k t,u3=.slice (some ⟨g,0,none⟩) (a+1) k/\w.heap.size<=g/\wr.heap[g]?=some (.cells t 260 (0,0))/\a+1<=k/\k<=maxLen/\True:=(by rcases f.2 with ⟨_,aw⟩|⟨g,k,t,a7,a8,a9,aa,ab,_⟩;omega;exact ⟨g,k,t,a7,a8,a9,aa,ab,trivial⟩);have T:(aX (j++ [(b,d)]))[a*2]?=some (iv b):=(by have:=fH (j++ [(b,d)]) a 0 (b,d) (by rw [zAo oM,q];simp) oM;simpa [gF] using this);have U:(aX (j++ [(b,d)]))[a*2+1]?=some (iv d):=(by have:=fH (j++ [(b,d)]) a 1 (b,d) (by rw [zAo oM,q];simp) oM;simpa [gF] using this);have au:wr.cell? ⟨g,a*2,none⟩=some (.int .i64 b):=(f.cellAt (a*2) oM).trans T;have av:wr.cell? ⟨g,a*2+1,none⟩=some (.int .i64 (d:Int)):=(f.cellAt (a*2+1) oM).trans U;have ar:=f.frozenAt (a*2+1);have aD:(d:Int)<=1099511627776:=(by have:=D (b,d) (by simp);simp only at this;omega);have aG:((a+1:Nat):Int) - 1=(a:Int):=oM;have s:=lhd q;clear T U q M af D;by_cases n:b=l
      · have an:(b==l)=true:=(by rw [zCl];exact n);have z:=lhd n;clear n;go_wp2;obtain ⟨al,aA⟩:=f.stored (a*2+1) (.int .i64 ((d:Int)+1));refine ⟨⟨c+1,by omega,by go_num,?_,m.setCell (p:=⟨g,a*2+1,none⟩) ae _⟩,by simp [intOf];omega⟩;rw [y.out,<-z.out,eD];have A:(j++ [(b,d+1)]).length=a+1:=(by simp [s.out]);have a6:(aX (j++ [(b,d)])).set (a*2+1) (.int .i64 ((d:Int)+1))=aX (j++ [(b,d+1)]):=(by rw [eZ,eZ,List.set_append_right _ _ (by rw [kW,s.out];omega),kW,s.out];congr 1;rw [show a*2+1 - a*2=1 by omega];rfl);rw [A,<-a6];exact al
      · have an:(b==l)=false:=(by rw [zBz];exact n);have z:=lhd n;clear n;go_wp2_with (at_builtin;refine aY _ rfl (.tmp 36) (.tmp 39) _ rfl w.heap.size 260 Z _ 2 16 underlying257 L V X Y rfl dC (.slice (some ⟨g,0,none⟩) (a+1) k) (a+1) _ rfl f rfl rfl (by simp [Value.oneCell']) (by unfold maxLen;omega) oM u ?_;intro ao ap E o ak B);have C:=aL m f o u;clear o B;go_roundw
        case rel=>refine ⟨c+1,by omega,by go_num,?_,C⟩;rw [y.out,dO _ _ _ _ z.out,eZ];have A:(j++ [(b,d)]++ [(l,1)]).length=a+1+1:=(by simp [s.out]);rw [A];exact E
        case measure=>simp [intOf];omega
  · have ag:c=i:=oM;have S:e.take c=e:=zAg (by have:=x.out;omega);have az:i<=c:=oM;rw [S] at f;clear ag S;go_wp2;go_ret;exact ⟨u3,rfl,f,m⟩
theorem aCq (d:Option Addr) (c l e:Nat) (g:List Int) (w:World) (j:List (Int×Nat)) (i:Nat) (n:aO g=j) (r:j.length=i) (t:Rd w e 1 d c (g.map iv)) (o:e<=w.heap.size) (f:c<=1099511627776):
 Calls prog 245 #[.slice d c l] w fun m k=>∃a b,m=.returned (.slice a i b)/\Made k w.heap.size 260 2 a i b (aX j)/\Below w.heap.size w k:=by
 subst n;subst r;refine (aDP d c l e g w t o f).mono fun m k ⟨u,q,s,p⟩=>?_;obtain ⟨a,b,rfl,f⟩:=aF s;exact ⟨a,b,q,f,p⟩
section
variable {w W : World}
theorem eE {a:Nat} {g i j k b c d e:Value} (f:Bk W a 41 #[g,i,j,k]):
 Bk ((((W.setCell a b).setCell ⟨a,1,none⟩ c).setCell ⟨a,2,none⟩ d).setCell ⟨a,3,none⟩ e) a 41 #[b,c,d,e]:=by
 have:=(((f.set 0 b).set 1 c).set 2 d).set 3 e;simpa using this
theorem gR {a:Nat} {v0 v1 v2 v3:Value} (b:w.heap.size<=a):Below w.heap.size w W->Below w.heap.size w ((((W.setCell a v0).setCell ⟨a,1,none⟩ v1).setCell ⟨a,2,none⟩ v2).setCell ⟨a,3,none⟩ v3):=
 fun c=>(((c.setCell (p:=a) b v0).setCell (p:=⟨a,1,none⟩) b v1).setCell (p:=⟨a,2,none⟩) b v2).setCell (p:=⟨a,3,none⟩) b v3
theorem oT {c:Nat->Prop} {a:Nat} {v0 v1 v2 v3:Value} (b:w.heap.size<=a):Keep c w W->Keep c w ((((W.setCell a v0).setCell ⟨a,1,none⟩ v1).setCell ⟨a,2,none⟩ v2).setCell ⟨a,3,none⟩ v3):=
 fun d=>(((d.setCell (p:=a) (.inr b) v0).setCell (p:=⟨a,1,none⟩) (.inr b) v1).setCell (p:=⟨a,2,none⟩) (.inr b) v2).setCell (p:=⟨a,3,none⟩) (.inr b) v3
theorem kJ {s:Nat} {v0 v1 v2 v3:Value}:Keep (fun a=>a=s) W ((((W.setCell s v0).setCell ⟨s,1,none⟩ v1).setCell ⟨s,2,none⟩ v2).setCell ⟨s,3,none⟩ v3):=
 ((((Keep.refl (fun a=>a=s) W).setCell (p:=s) (.inl rfl) v0).setCell (p:=⟨s,1,none⟩) (.inl rfl) v1).setCell (p:=⟨s,2,none⟩) (.inl rfl) v2).setCell (p:=⟨s,3,none⟩) (.inl rfl) v3
end
theorem aAo (b:Nat) (d:TypeId) (j i:Nat) (k:List Value):Stb (fV b d j i k):=fun _ _ _ ⟨a,c,e,f⟩ g=>⟨a,c,e,f.below g⟩
end
section
structure Sp where
 kind:Int
 p:Int
 k:Int
 D:List UInt8
def spK (a:UInt8):Int:=((a.toNat % 8+1:Nat):Int)
def spP (b a:UInt8):Int:=if 248<=b.toNat then (a.toNat:Int) - 128 else ((a.toNat % 32:Nat):Int)
def spN (b a:UInt8):Int:=if 248<=b.toNat then (a.toNat:Int) - 128 else ((a.toNat % 8:Nat):Int)
def iL (a:UInt8):Bool:=decide (a.toNat % 8=0)||decide (a.toNat % 8=2)||decide (a.toNat % 8=5)||decide (a.toNat % 8=6)
def bW (a:UInt8):UInt8:=97+a % 3
def lH (a b c:UInt8):List UInt8:=List.replicate (c.toNat % 4) (bW b)++if 128<=a.toNat then [98] else []
def spD (a b c:UInt8):List UInt8:=if iL a=true then lH a b c else []
def zZ (a b c:UInt8):Sp:=⟨spK a,spP a b,spN a c,spD a b c⟩
def aBt (b:List UInt8) (a:Nat):Sp:=zZ (b.getD (3*a) 0) (b.getD (3*a+1) 0) (b.getD (3*a+2) 0)
theorem dB (a:UInt8):(bW a).toNat=97+a.toNat % 3:=by
 unfold bW;rw [UInt8.toNat_add,UInt8.toNat_mod];have:(3:UInt8).toNat=3:=rfl;have b:(97:UInt8).toNat=97:=rfl;rw [this,b];have:=Nat.mod_lt a.toNat (by decide:0 < 3);omega
end
end Go.Proofs.YtihaijbgmjdhgaaGreatDoor
