/- Lemmas of the walk. Conditions: each its own. -/
import Derived.Test.YtcfpmjbojoidoaaGreatDoorPd0
import Derived.Test.YtcfpmjbojoidoaaGreatDoorProg
set_option linter.all false
set_option maxRecDepth 100000
set_option maxHeartbeats 2000000
namespace Go.Proofs.YtcfpmjbojoidoaaGreatDoor
open Tryz
section
open Go.RowKit
def mB (b a:List UInt8) (d:Nat):List Nat:=(List.range d).filter fun c=>a.isPrefixOf (b.drop c)
def dL (b a:List UInt8):List Nat:=mB b a (b.length+1 - a.length)
def nv (a:Nat):Value:=iv (a:Int)
def aFp (b a:List UInt8) (c:Nat) (d:a.isPrefixOf (b.drop c)=false):mB b a (c+1)=mB b a c:=by
 simp [mB,List.range_succ,List.filter_append,d]
structure Told where
 code:Int
 num:Int
 data:List UInt8
 places:List Nat
def rN (a:Told) (b:Option Addr) (d:Nat) (c:Option Addr) (e:Nat):Array Value:=#[.int .i64 a.code,.int .i64 a.num,.slice b a.data.length d,.slice c a.places.length e]
def fC (d f c:Int) (a:Option Addr) (e b:Nat):Value:=.agg #[.int .i64 d,.int .i64 f,.int .i64 c,.slice a e b]
def eU (c:World) (a:Nat) (b:TypeId):Made c a b 1 none 0 0 []:=⟨World.ownsRow_nil _ _ _ _,Rd.nil _ _ _ _,zAs _,zAp _⟩
def jV (c:Nat) (a b:Int):Bool:=decide (0<=a/\0<=b/\a<=(c:Int)/\b<=(c:Int) - a)
def doM (a:List UInt8) (f d b e:Int) (c:List UInt8):List UInt8×Told:=
 if d=1 then
    if jV a.length b 0=false then (a,⟨2,0, [], []⟩) else if f -(a.length:Int) < (c.length:Int) then (a,⟨3,0, [], []⟩) else (a.take b.toNat++(c++a.drop b.toNat),⟨0,0, [], []⟩)
 else if d=2 then
    if jV a.length b e=false then (a,⟨2,0, [], []⟩) else (a.take b.toNat++a.drop (b.toNat+e.toNat),⟨0,0, [], []⟩)
 else if d=5 then
    if jV a.length b e=false then (a,⟨2,0, [], []⟩) else (a,⟨0,0,(a.drop b.toNat).take e.toNat, []⟩)
 else if d=3 then
    if jV a.length b (c.length:Int)=false then (a,⟨2,0, [], []⟩) else (a.take b.toNat++(c++a.drop (b.toNat+c.length)),⟨0,0, [], []⟩)
 else if d=4 then (a,⟨0,(a.length:Int), [], []⟩)
 else if d=6 then (a,⟨0,((dL a c).length:Int), [], []⟩)
 else if d=7 then (a,⟨0,((dL a c).length:Int), [],dL a c⟩)
 else if d=8 then (a,⟨0,0, [], []⟩)
 else (a,⟨1,0, [], []⟩)
def pZ {f:Nat} {b a:Int} (e:jV f b a=true):∃c d:Nat,b=(c:Int)/\a=(d:Int)/\c+d<=f:=by
 unfold jV at e;have:=of_decide_eq_true e;exact ⟨b.toNat,a.toNat,by omega,by omega,by omega⟩
end
section
open Go.RowKit Go
section
variable {P : Program} {ops : Array Oper} {Q : Exit -> Act -> World -> Prop} {md : Region.Mode}
def bY (c b:Nat):Array Bool:=((List.range b).map fun a=>decide (a < c)).toArray
def aAt (b a:Nat) (k:b<=a):(bY b a).toList.count false=a - b:=by
 unfold bY;rw [List.toList_toArray]
 induction a with
 | zero=>simp
 | succ a j=>
   rw [List.range_succ,zAz,zCc];rcases zBe a b with c | c
   · have:b=a+1:=oM;subst this;have d:(List.map (fun i=>decide (i < a+1)) (List.range a)).count false=0:=(by rw [List.count_eq_zero];intro f;obtain ⟨l,g,e⟩:=zAy.1 f;have:=zCi.1 g;simp at e;omega);rw [d];simp
   rw [j c];have:¬(a < b):=oM;simp [this];omega
def cD {a:Nat} {f:Array Bool} {b:Act} {g:World} (e:Region.ready md ops f= []) (d:Q .normal b g):wpAny P md ops Q a f b g:=by
 cases a with
 | zero=>exact ⟨e,d⟩
 | succ a=>exact ⟨fun _=>d,fun i c=>by rw [e] at c;cases c⟩
def bS {f:Nat} {a:Array Bool} {b:Act} {g:World} {i:Nat} (e:Region.ready md ops a= [i]) (j:wpOp P ops Q i (wpAny P md ops Q f (a.setIfInBounds i true)) b g):wpAny P md ops Q (f+1) a b g:=
 ⟨fun c=>(by rw [e] at c;cases c),fun k d=>(by rw [e] at d;cases List.mem_singleton.1 d;exact j)⟩
def tX (g:Nat) (D:World->Prop) (T:Nat->World->World->Prop) (L:Nat->World->Prop) (M:Nat->Value->World->Prop) (E:Act)
 (X:World) (ap:g<=ops.size) (a2:hQ md ops E.tmps.size=true) (ay:((List.range ops.size).all fun e=>decide (e < g)||(List.range g).all fun a=>upB md ops ops.size e a)=true) (ag:D X) (ai:∀a,L a X) (af:∀b i x,b < g->D i->T b i x->D x)
 (ah:∀a b i x,b < g->a≠b->upB md ops ops.size b a=false->L a i->D i->T b i x->L a x)
 (av:∀a b C i x,b < g->a≠b->vQ md ops a b=false->upB md ops ops.size a b=false->M a C i->D i->T b i x->M a C x)
 (aw:∀b k,b < g->ops[b]?=some k->cT P ops Q md D T L M E b k)
 (aa:∀p i ad,D i->p.tmps.size=E.tmps.size->p.defers=E.defers->
  (∀v,(∀(e:Nat) (j:Oper),e < g->ops[e]?=some j->j.dst≠some v)->p.tmps.getD v undef=E.tmps.getD v undef)->
  (∀a k,a < g->ops[a]?=some k->∃C,(∀t,k.dst=some t->p.tmps.getD t undef=C)/\M a C i)->wpAny P md ops Q (ops.size - g+ad) (bY g ops.size) p i):
 wpAny P md ops Q ops.size (Array.replicate ops.size false) E X:=by
 have aB:∀f:Array Bool,f.size=ops.size->Region.ready md ops f= []->∀a,a < ops.size->f.getD a false=true:=by
  intro f K a4 a
  induction a using Nat.strongRecOn with
  | _ a a6=>
    intro l;cases z:f.getD a false with
    | true=>rfl
    | false=>
      exfalso;have W:a∈Region.ready md ops f:=(by refine mem_ready.2 ⟨?_,ops[a],zAq l,fun o q G=>?_⟩;have a0:a < f.size:=oM;simp [a0] at z⊢;exact z;have:=(dK a2 (zAq l)).1 o q G;exact a6 o.on this oM);rw [a4] at W;cases W
 have aA:∀A f p i,f.size=ops.size->f.toList.count false<=A->Loose7 md ops D L M E f p i->(∀e,g<=e->f.getD e false=false)->wpAny P md ops Q A f p i:=by
  intro A
  induction A with
  | zero=>
    intro f p i K z c S
    have F:∀a,a < ops.size->f.getD a false=true:=by
        intro a l;have a0:a < f.size:=oM;cases J:f.getD a false with
        | true=>rfl
        | false=>
          exfalso;have:false∈f.toList:=(by simp [a0] at J;exact J ▸(by simp));have:=List.count_pos_iff.2 this;omega
    have ar:g=ops.size:=by
        rcases zBe g ops.size with u | u
        · have y:=F g u;rw [S g nL] at y;cases y
        omega
    have q:f=bY g ops.size:=by
        apply Array.ext
        · simp [bY,K]
        intro a u y;have r:=F a oM;simp [u] at r;simp [bY,r];omega
    have r:=aa p i 0 c.world c.size c.defers (fun v I=>c.old v fun e j d m=>absurd m (I e j (by have:=(zAh.1 d).1;omega) d)) fun a k l n=>c.val a k n (F a (zAh.1 n).1);rw [<-q,<-ar,Nat.sub_self] at r;exact r
  | succ A a6=>
    intro f p i K z c S;by_cases F:∀a,a < g->f.getD a false=true
    · have q:f=bY g ops.size:=by
       apply Array.ext
       · simp [bY,K]
       intro a u y;rcases zBe a g with w | w;have r:=F a w;simp [u] at r;simp [bY,r];exact w;have r:=S a w;simp [u] at r;simp [bY,r];omega
      have aD:ops.size - g<=A+1:=(by rw [q,aAt _ _ ap] at z;exact z);have r:=aa p i (A+1 -(ops.size - g)) c.world c.size c.defers (fun v I=>c.old v fun e j d m=>by
       rcases zBe e g with w | w;exact absurd m (I e j w d)
       · exact S e w) fun a k l n=>c.val a k n (F a l)
      rw [<-q,show ops.size - g+(A+1 -(ops.size - g))=A+1 by omega] at r;exact r
    refine ⟨fun a4=>absurd (fun a l=>aB f K a4 a oM) F,fun b ao=>?_⟩;obtain ⟨a8,k,n,U⟩:=mem_ready.1 ao;have R:b < ops.size:=(zAh.1 n).1;have H:b < f.size:=oM;have B:f.getD b false=false:=(by simp [H] at a8⊢;exact a8);have V:b < g:=(by rcases zBe b g with w | w;exact w;exfalso;refine F fun a l=>?_;have a9:=zBf.1 ay b (zCi.2 R);have ae:¬(b < g):=oM;simp only [ae,decide_false,Bool.false_or] at a9;exact gM c.shut _ b a k n U (zBf.1 a9 a (zCi.2 l)));refine aw b k V n p i c.world (c.pre b k n B) c.size c.defers (fun v I=>c.old v fun e j d m=>?_) (fun o q G j t d m=>by obtain ⟨C,u,y⟩:=c.val o.on j d (U o q G);rw [u t m];exact y) _ fun C x Y aj=>?_
    · rcases tM I d m with rfl |⟨o,q,G,an⟩;exact B
      · cases s:f.getD e false with
        | false=>rfl
        | true=>
          have:=c.shut e j d s o q G;rw [an,B] at this;cases this
    · refine a6 _ _ _ (by simpa using K) ?_ ?_ (fun e s=>by rw [getD_set_ne false (by omega:b≠e)];exact S e s);have J:f.toList[b]'(by simpa using H)=false:=(by simp [H] at B⊢;exact B);rw [Array.toList_setIfInBounds,List.count_set (by simpa using H),J];simp;have W:false∈f.toList:=J ▸ zBj _;have:=List.count_pos_iff.2 W;rw [<-Array.count_toList];omega
      · have ax:(p.put k.dst C).tmps.size=E.tmps.size:=by
          rw [<-c.size];cases k.dst with
          | none=>rfl
          | some t=>simp [Act.put]
        refine ⟨af b i x V c.world Y,fun a j d l=>?_,ax,?_,fun v I=>?_,fun a j d l=>?_,fun e j d s o q G=>?_⟩
        · have ab:a≠b:=fun o=>by rw [o,bE _ _ H] at l;cases l
          rw [getD_set_ne false ab.symm] at l;refine ah a b i x V ab ?_ (c.pre a j d l) c.world Y;cases a5:upB md ops ops.size b a with
          | false=>rfl
          | true=>
            have:=gM c.shut _ b a k n U a5;rw [l] at this;cases this
        · rw [<-c.defers];cases k.dst <;> rfl
        · have aq:k.dst≠some v:=fun m=>by have:=I b k n m;rw [bE _ _ H] at this;cases this
          have au:=c.old v fun e j d m=>by
           have:=I e j d m;cases s:f.getD e false with
           | false=>rfl
           | true=>
             by_cases ac:b=e
             · subst ac;rw [B] at s;cases s
             · rw [getD_set_ne false ac,s] at this;cases this
          rw [<-au];cases a3:k.dst with
          | none=>rfl
          | some t=>
            have Z:t≠v:=fun c=>aq (by rw [a3,c]);simp [Act.put,zAm,Z]
        · rcases eB _ _ _ l with rfl | N
          · rw [n] at d;injection d with d;subst d;refine ⟨C,fun t m=>?_,aj⟩;have am:=((dK a2 n).2 t m).1;rw [m];have:t < p.tmps.size:=(by rw [c.size];exact am);simp [Act.put,zAm,this]
          · by_cases a1:a=b
            · subst a1;rw [B] at N;cases N
            obtain ⟨aC,az,J⟩:=c.val a j d N
            have ak:vQ md ops a b=false:=by
              cases z:vQ md ops a b with
              | false=>rfl
              | true=>
                exfalso;unfold vQ at z;rw [d] at z;obtain ⟨o,q,y⟩:=List.any_eq_true.1 z;simp only [zBd,zCq] at y;have:=c.shut a j d N o (Array.mem_toList_iff.1 q) y.1;rw [y.2,B] at this;cases this
            have al:upB md ops ops.size a b=false:=by
              cases a5:upB md ops ops.size a b with
              | false=>rfl
              | true=>
                have:=gM c.shut _ a b j d (c.shut a j d N) a5;rw [B] at this;cases this
            refine ⟨aC,fun t m=>?_,av _ _ _ _ _ V a1 ak al J c.world Y⟩;rw [<-az t m];cases a3:k.dst with
            | none=>rfl
            | some a7=>
              have Z:a7≠t:=fun c=>a1 (((dK a2 n).2 a7 a3).2 a j d (c ▸ m));simp [Act.put,zAm,Z]
        rcases eB _ _ _ s with rfl | s;rw [n] at d;injection d with d;subst d;have u:=U o q G;by_cases O:e=o.on;rw [<-O];exact bE _ _ H _;rw [getD_set_ne false O];exact u;have u:=c.shut e j d s o q G;by_cases O:b=o.on;rw [<-O];exact bE _ _ H _;rw [getD_set_ne false O];exact u
 refine aA _ _ _ _ (by simp) (by simp) ⟨ag,fun b _ _ _=>ai b,rfl,rfl,fun _ _=>rfl,fun a k n l=>?_,fun e j d s=>?_⟩ (fun e s=>by
  rw [zAm];rcases zBe e ops.size with c | c
  · simp [c]
  · rw [Array.getElem?_eq_none (by simpa using c)];rfl)
 · have R:a < ops.size:=(zAh.1 n).1;simp [R] at l
 · have R:e < ops.size:=(zAh.1 d).1;simp [R] at s
def aBb (d:Nat) (t:List Nat) (f:World->Prop) (l:Nat->World->World->Prop) (m:Nat->World->Prop) (g:Nat->Value->World->Prop) (i:Act)
 (p:World) (G:(ops.toList.take d).filterMap (·.dst)=t) (M:d<=ops.size) (L:hQ md ops i.tmps.size=true) (V:((List.range ops.size).all fun q=>decide (q < d)||(List.range d).all fun a=>upB md ops ops.size q a)=true) (B:f p) (E:∀a,m a p) (A:∀c b e,c < d->f b->l c b e->f e)
 (D:∀a c b e,c < d->a≠c->upB md ops ops.size c a=false->m a b->f b->l c b e->m a e)
 (R:∀a c o b e,c < d->a≠c->vQ md ops a c=false->g a o b->f b->l c b e->g a o e)
 (S:∀c r,c < d->ops[c]?=some r->cT P ops Q md f l m g i c r)
 (H:∀(x:Operand->Value) b u,f b->(∀a n,a < d->((ops[a]?).bind (·.dst))=some n->g a (x (.tmp n)) b)->wpAny P md ops Q (ops.size - d+u) (bY d ops.size) (dB x t i) b):
 wpAny P md ops Q ops.size (Array.replicate ops.size false) i p:=by
 refine tX d f l m g i p M L V B E A D (fun a c o b e j v z _=>R a c o b e j v z) S fun s b u C T F N W=>?_;have j:=H s.eval b u C fun a n I k=>by
  cases w:ops[a]? with
  | none=>rw [w] at k;cases k
  | some r=>
    rw [w] at k;obtain ⟨o,j,v⟩:=W a r I w;have:=j n k;change g a (s.tmps.getD n undef) b;rw [this];exact v
 rw [<-mI s i t T F fun X U=>N X fun q y J O k=>U ?_] at j;exact j;rw [<-G];refine List.mem_filterMap.2 ⟨y,?_,k⟩;have K:(ops.toList.take d)[q]?=some y:=(by rw [zBs,zBx J,Array.getElem?_toList];exact O);exact zAd K
def cG {d:Nat} {a:Oper} {b:Act} {e:World} {c:Act->World->Prop} (i:ops[d]?=some a) (g:a.guard=none) (f:Oper.upon P a b c Q ((execOp b.eval a).run P e)):wpOp P ops Q d c b e:=by
 unfold wpOp;simp only [i];have j:Region.wanted a (yielded ops b.tmps)=true:=by unfold Region.wanted;rw [g]
 rw [zBx j];exact .inl f
end
def eH {P:Program} {ops:Array Oper} {Q:Exit->Act->World->Prop} {md:Region.Mode} (e:Nat) (r:List Nat) (i:Nat->Prop) (c:Nat) (t:List Nat) (o:World->Prop) (q:Value->World->Prop) (p:List (Value->World->Prop)) (l:Act) (j:World)
 (F:(ops.toList.take e).filterMap (·.dst)=r) (I:e<=ops.size) (H:hQ md ops l.tmps.size=true) (O:((List.range ops.size).all fun d=>decide (d < e)||(List.range e).all fun a=>upB md ops ops.size d a)=true)
 (L:(t.all fun a=>a==c||upB md ops ops.size c a)=true)
 (K:o j) (J:∀b g,o b->Keep i j b->Grow b g->o g) (E:Stb q) (M:∀S∈p,xM i S)
 (N:∀k z,k < e->ops[k]?=some z->cT P ops Q md (Keep i j) (nX i c) (fun a b=>t.contains a=true->o b) (VsJ c q p) l k z)
 (G:∀(v:Operand->Value) b f,Keep i j b->(∀a u,a < e->((ops[a]?).bind (·.dst))=some u->VsJ c q p a (v (.tmp u)) b)->wpAny P md ops Q (ops.size - e+f) (bY e ops.size) (dB v r l) b):
 wpAny P md ops Q ops.size (Array.replicate ops.size false) l j:=by
 refine aBb e r (Keep i j) (nX i c) (fun a b=>t.contains a=true->o b) (VsJ c q p) l j F I H O (Keep.refl _ _) (fun _ _=>K) (fun k b g _ C d=>C.trans (iT d)) (fun a k b g _ s R m D d x=>?_) (fun a k A b g _ s _ n _ d=>?_) N G;by_cases y:k=c;exfalso;subst y;have w:=zBf.1 L a (by simpa using x);simp only [R,Bool.or_false,zCq] at w;exact s w;exact J b g (m x) D (d.2 y);unfold VsJ at n⊢;by_cases m:a=c;rw [zBx m] at n⊢;exact E A b g n (d.2 fun B=>s (m.trans B.symm));rw [zBw m] at n⊢;exact uA M a A b g n (iT d)
def bO {e:Nat} {c:Nat->Oper->Prop} {d:List Oper} (f:∀a b,(d.take e)[a]?=some b->c (0+a) b):∀a b,a < e->d.toArray[a]?=some b->c a b:=by
 intro a b g i;have:=f a b (by rw [zBs,zBx g];simpa using i);rwa [zBi] at this
section
variable {P : Program} {ops : Array Oper} {Q : Exit -> Act -> World -> Prop} {md : Region.Mode}
def tU (P:Program) (ops:Array Oper) (Q:Exit->Act->World->Prop) (md:Region.Mode) (o:(Operand->Value)->World->Prop) (p:Nat->Value->World->World->Prop) (q:Nat->World->Prop) (k:Nat->(Operand->Value)->Value->World->Prop) (d:Act) (b:Nat) (m:Oper):Prop:=
 ∀a c,o a.eval c->q b c->a.tmps.size=d.tmps.size->a.defers=d.defers->
    (∀f,pO md ops b f=true->a.tmps.getD f undef=d.tmps.getD f undef)->
    (∀e∈m.after,Region.binds md e=true->∀n l,ops[e.on]?=some n->n.dst=some l->k e.on a.eval (a.tmps.getD l undef) c)->
    ∀j:Act->World->Prop,(∀g i,p b g c i->k b a.eval g i->j (a.put m.dst g) i)->wpOp P ops Q b j a c
def cL {q:(Operand->Value)->World->Prop} {r:Nat->Value->World->World->Prop} {s:Nat->World->Prop} {n:Nat->(Operand->Value)->Value->World->Prop} {t:Act} {e:Nat} {b:Oper} (E:ops[e]?=some b) (C:b.guard=none)
 (w:∀a:Operand->Value,∀d,q a d->s e d->(∀f,a (.const f)=f)->(∀u,a (.func u)=.func (.func u) #[] #[])->(∀i,pO md ops e i=true->a (.tmp i)=t.eval (.tmp i))->
  (∀m k,b.after.toList.any (fun g=>Region.binds md g&&g.on==m)=true->((ops[m]?).bind (·.dst))=some k->n m a (a (.tmp k)) d)->
  ∀c j,c.eval=a->(∀f p,r e f d p->n e a f p->j (c.put b.dst f) p)->Oper.upon P b c j Q ((execOp a b).run P d)):tU P ops Q md q r s n t e b:=by
 intro c d z A L K F H j y;unfold wpOp;simp only [E];have I:Region.wanted b (yielded ops c.tmps)=true:=by unfold Region.wanted;rw [C]
 rw [zBx I];refine .inl (w c.eval d z A (fun _=>rfl) (fun _=>rfl) (fun i G=>F i G) (fun m k D l=>?_) c j rfl y);obtain ⟨g,B,v⟩:=List.any_eq_true.1 D;simp only [zBd,zCq] at v;obtain ⟨x,rfl⟩:=v;cases o:ops[g.on]? with
 | none=>rw [o] at l;cases l
 | some J=>rw [o] at l;exact H g (Array.mem_toList_iff.1 B) x J k o l
def aIO {m:Nat} (k:hQ md ops m=true):∀c b d,upB md ops c b d=true->d < b:=by
 intro c
 induction c with
 | zero=>intro b d a;cases a
 | succ c l=>
   intro b d a;unfold upB at a;cases f:ops[b]? with
   | none=>rw [f] at a;cases a
   | some o=>
     rw [f] at a;obtain ⟨i,j,e⟩:=List.any_eq_true.1 a;simp only [zBd,Bool.or_eq_true,zCq] at e;have n:=(dK k f).1 i (Array.mem_toList_iff.1 j) e.1;rcases e.2 with g | g;omega;have:=l _ _ g;omega
def aCN {f:Nat} (d:hQ md ops f=true) (c a b:Nat) (g:b<=a) (e:upB md ops c b a=true):False:=by
 have:=aIO d c b a e;omega
structure LooseF (md:Region.Mode) (ops:Array Oper) (C:(Operand->Value)->World->Prop) (U:Nat->World->Prop) (V:Nat->(Operand->Value)->Value->World->Prop) (a0:Act) (listed:Array Bool) (a:Act) (w:World):Prop where
 world:C a.eval w
 pre:∀j o,ops[j]?=some o->listed.getD j false=false->U j w
 size:a.tmps.size=a0.tmps.size
 defers:a.defers=a0.defers
 old:∀t,(∀k p,ops[k]?=some p->p.dst=some t->listed.getD k false=false)->a.tmps.getD t undef=a0.tmps.getD t undef
 val:∀i o,ops[i]?=some o->listed.getD i false=true->∃v,(∀d,o.dst=some d->a.tmps.getD d undef=v)/\V i a.eval v w
 shut:∀k p,ops[k]?=some p->listed.getD k false=true->∀e∈p.after,Region.binds md e=true->listed.getD e.on false=true
def zQ (y:(Operand->Value)->World->Prop) (T:Nat->Value->World->World->Prop) (H:Nat->World->Prop) (z:Nat->(Operand->Value)->Value->World->Prop) (u:Act)
 (Y:World) (W:hQ md ops u.tmps.size=true) (ac:y u.eval Y) (ae:∀a,H a Y) (ab:∀b c v w g f t,ops[b]?=some c->(∀l,c.dst=some l->w (.tmp l)=g)->(∀i,c.dst≠some i->w (.tmp i)=v (.tmp i))->y v f->T b g f t->y w t) (ad:∀a b g f t,a≠b->upB md ops ops.size b a=false->H a f->T b g f t->H a t)
 (an:∀b c v w g f,ops[b]?=some c->(∀i,c.dst≠some i->w (.tmp i)=v (.tmp i))->z b v g f->z b w g f)
 (ao:∀a b c v w g a5 f t,ops[b]?=some c->(∀i,c.dst≠some i->w (.tmp i)=v (.tmp i))->a≠b->upB md ops ops.size a b=false->z a v g f->y v f->T b a5 f t->z a w g t)
 (ap:∀b c,ops[b]?=some c->tU P ops Q md y T H z u b c)
 (ai:∀k f,y k.eval f->k.tmps.size=u.tmps.size->k.defers=u.defers->
  (∀i,(∀(r:Nat) (n:Oper),ops[r]?=some n->n.dst≠some i)->k.tmps.getD i undef=u.tmps.getD i undef)->
  (∀a c,ops[a]?=some c->∃g,(∀l,c.dst=some l->k.tmps.getD l undef=g)/\z a k.eval g f)->Q .normal k f):
 wpAny P md ops Q ops.size (Array.replicate ops.size false) u Y:=by
 have a7:∀d k f,d.size=ops.size->(∀a,a < ops.size->d.getD a false=true)->LooseF md ops y H z u d k f->Q .normal k f:=by intro d k f F U e;refine ai k f e.world e.size e.defers (fun i E=>e.old i fun r n j o=>absurd o (E r n j)) fun a c m=>e.val a c m (U a (zAh.1 m).1)
 have aw:∀d:Array Bool,d.size=ops.size->Region.ready md ops d= []->∀a,a < ops.size->d.getD a false=true:=by
  intro d F S a
  induction a using Nat.strongRecOn with
  | _ a a4=>
    intro q;cases I:d.getD a false with
    | true=>rfl
    | false=>
      exfalso;have X:a∈Region.ready md ops d:=(by refine mem_ready.2 ⟨?_,ops[a],zAq q,fun p C B=>?_⟩;have N:a < d.size:=oM;simp [N] at I⊢;exact I;have:=(dK W (zAq q)).1 p C B;exact a4 p.on this oM);rw [S] at X;cases X
 have av:∀K d k f,d.size=ops.size->d.toList.count false<=K->LooseF md ops y H z u d k f->wpAny P md ops Q K d k f:=by
  intro K
  induction K with
  | zero=>
    intro d k f F I e
    have U:∀a,a < ops.size->d.getD a false=true:=by
        intro a q;have N:a < d.size:=oM;cases G:d.getD a false with
        | true=>rfl
        | false=>
          exfalso;have:false∈d.toList:=(by simp [N] at G;exact G ▸(by simp));have:=List.count_pos_iff.2 this;omega
    refine ⟨?_,a7 d k f F U e⟩;cases S:Region.ready md ops d with
    | nil=>rfl
    | cons a ax=>
      exfalso;have q:a∈Region.ready md ops d:=(by rw [S];exact List.mem_cons_self ..);obtain ⟨L,c,m,_⟩:=mem_ready.1 q;have J:a < ops.size:=(zAh.1 m).1;have x:=U a J;have N:a < d.size:=oM;simp [N] at L x;rw [L] at x;cases x
  | succ K a4=>
    intro d k f F I e;refine ⟨fun S=>a7 d k f F (aw d F S) e,fun b ak=>?_⟩;obtain ⟨L,c,m,a0⟩:=mem_ready.1 ak;have J:b < ops.size:=(zAh.1 m).1;have D:b < d.size:=oM;have A:d.getD b false=false:=by simp [D] at L⊢;exact L
    have a3:∀g i,c.dst≠some i->(k.put c.dst g).eval (.tmp i)=k.eval (.tmp i):=by
        intro g i E;cases R:c.dst with
        | none=>rfl
        | some l=>
          have M:l≠i:=fun p=>E (by rw [R,p]);simp [Act.eval,Act.put,zAm,M]
    have ah:∀g l,c.dst=some l->(k.put c.dst g).eval (.tmp l)=g:=(by intro g l o;have a1:=((dK W m).2 l o).1;have:l < k.tmps.size:=(by rw [e.size];exact a1);simp [Act.eval,Act.put,zAm,o,this]);refine ap b c m k f e.world (e.pre b c m A) e.size e.defers (fun i E=>e.old i fun r n j o=>?_) (fun p C B n l j o=>by obtain ⟨g,x,aa⟩:=e.val p.on n j (a0 p C B);rw [x l o];exact aa) _ fun g t Z af=>?_
    · rcases tM E j o with rfl |⟨p,C,B,aj⟩;exact A
      · cases s:d.getD r false with
        | false=>rfl
        | true=>
          have:=e.shut r n j s p C B;rw [aj,A] at this;cases this
    · refine a4 _ _ _ (by simpa using F) ?_ ?_;have G:d.toList[b]'(by simpa using D)=false:=(by simp [D] at A⊢;exact A);rw [Array.toList_setIfInBounds,List.count_set (by simpa using D),G];simp;have X:false∈d.toList:=G ▸ zBj _;have:=List.count_pos_iff.2 X;rw [<-Array.count_toList];omega
      · have aq:(k.put c.dst g).tmps.size=u.tmps.size:=by
          rw [<-e.size];cases c.dst with
          | none=>rfl
          | some l=>simp [Act.put]
        refine ⟨ab b c _ _ g f t m (ah g) (a3 g) e.world Z,fun a n j q=>?_,aq,?_,fun i E=>?_,fun a n j q=>?_,fun r n j s p C B=>?_⟩
        · have a8:a≠b:=fun p=>by rw [p,bE _ _ D] at q;cases q
          rw [getD_set_ne false a8.symm] at q;refine ad a b g f t a8 ?_ (e.pre a n j q) Z;cases au:upB md ops ops.size b a with
          | false=>rfl
          | true=>
            have:=gM e.shut _ b a c m a0 au;rw [q] at this;cases this
        · rw [<-e.defers];cases c.dst <;> rfl
        · have al:c.dst≠some i:=fun o=>by have:=E b c m o;rw [bE _ _ D] at this;cases this
          have am:=e.old i fun r n j o=>by
           have:=E r n j o;cases s:d.getD r false with
           | false=>rfl
           | true=>
             by_cases a9:b=r
             · subst a9;rw [A] at s;cases s
             · rw [getD_set_ne false a9,s] at this;cases this
          rw [<-am];cases R:c.dst with
          | none=>rfl
          | some l=>
            have M:l≠i:=fun e=>al (by rw [R,e]);simp [Act.put,zAm,M]
        · rcases eB _ _ _ q with rfl | V
          · rw [m] at j;injection j with j;subst j;refine ⟨g,fun l o=>?_,an _ _ _ _ _ _ m (a3 g) af⟩;have a1:=((dK W m).2 l o).1;rw [o];have:l < k.tmps.size:=(by rw [e.size];exact a1);simp [Act.put,zAm,this]
          · by_cases a2:a=b
            · subst a2;rw [A] at V;cases V
            obtain ⟨a5,ar,G⟩:=e.val a n j V
            have ag:upB md ops ops.size a b=false:=by
              cases I:upB md ops ops.size a b with
              | false=>rfl
              | true=>
                exfalso;have:=gM e.shut _ a b n j (e.shut a n j V) I;rw [A] at this;cases this
            refine ⟨a5,fun l o=>?_,ao _ _ _ _ _ _ _ _ _ m (a3 g) a2 ag G e.world Z⟩;rw [<-ar l o];cases R:c.dst with
            | none=>rfl
            | some a6=>
              have M:a6≠l:=fun e=>a2 (((dK W m).2 a6 R).2 a n j (e ▸ o));simp [Act.put,zAm,M]
        rcases eB _ _ _ s with rfl | s;rw [m] at j;injection j with j;subst j;have x:=a0 p C B;by_cases O:r=p.on;rw [<-O];exact bE _ _ D _;rw [getD_set_ne false O];exact x;have x:=e.shut r n j s p C B;by_cases O:b=p.on;rw [<-O];exact bE _ _ D _;rw [getD_set_ne false O];exact x
 refine av _ _ _ _ (by simp) (by simp) ⟨ac,fun b _ _ _=>ae b,rfl,rfl,fun _ _=>rfl,fun a c m q=>?_,fun r n j s=>?_⟩
 · have J:a < ops.size:=(zAh.1 m).1;simp [J] at q
 · have J:r < ops.size:=(zAh.1 j).1;simp [J] at s
def zP (u:List Nat) (m:(Operand->Value)->World->Prop) (p:Nat->Value->World->World->Prop) (q:Nat->World->Prop) (i:Nat->(Operand->Value)->Value->World->Prop) (n:Act) (r:World)
 (E:ops.toList.filterMap (·.dst)=u)
 (H:hQ md ops n.tmps.size=true) (z:m n.eval r) (C:∀a,q a r) (y:∀c f d j e b l,ops[c]?=some f->(∀k,f.dst=some k->j (.tmp k)=e)->(∀g,f.dst≠some g->j (.tmp g)=d (.tmp g))->m d b->p c e b l->m j l) (B:∀a c e b l,a≠c->upB md ops ops.size c a=false->q a b->p c e b l->q a l)
 (J:∀c f d j e b,ops[c]?=some f->(∀g,f.dst≠some g->j (.tmp g)=d (.tmp g))->i c d e b->i c j e b)
 (L:∀a c f d j e S b l,ops[c]?=some f->(∀g,f.dst≠some g->j (.tmp g)=d (.tmp g))->a≠c->upB md ops ops.size a c=false->i a d e b->m d b->p c S b l->i a j e l)
 (M:∀c f,ops[c]?=some f->tU P ops Q md m p q i n c f)
 (F:∀(d:Operand->Value) b,m d b->(∀a k,((ops[a]?).bind (·.dst))=some k->i a d (d (.tmp k)) b)->(∀a,a < ops.size->∃e,i a d e b)->Q .normal (dB d u n) b):
 wpAny P md ops Q ops.size (Array.replicate ops.size false) n r:=by
 refine zQ m p q i n r H z C y B J L M fun s b A N D I x=>?_;have t:=F s.eval b A (fun a k o=>by
  cases w:ops[a]? with
  | none=>rw [w] at o;cases o
  | some f=>
    rw [w] at o;obtain ⟨e,t,v⟩:=x a f w;have:=t k o;change i a s.eval (s.tmps.getD k undef) b;rw [this];exact v) (fun a G=>by
  obtain ⟨e,_,v⟩:=x a _ (zAq G);exact ⟨e,v⟩)
 rw [<-mI s n u N D fun g O=>I g fun T R K o=>O ?_] at t;exact t;rw [<-E];exact List.mem_filterMap.2 ⟨R,Array.mem_toList_iff.2 (Array.mem_of_getElem? K),o⟩
end
def blk?:Value->Option Nat
 | .pointer (some a)=>some a.block
 | .slice (some a) _ _=>some a.block
 | _=>none
def aCJ (d:List Nat) (c:Operand->Value) (f:World):Prop:=
 (∀b∈d,∀a,blk? (c (.tmp b))=some a->a < f.heap.size)/\∀b∈d,∀e∈d,b≠e->∀a,blk? (c (.tmp b))=some a->blk? (c (.tmp e))≠some a
def vP {d:List Nat} {c:Operand->Value} {j:World} (g:(d.all fun a=>(blk? (c (.tmp a))).isNone)=true):aCJ d c j:=by
 have i:∀a∈d,blk? (c (.tmp a))=none:=fun a b=>by simpa using zBf.1 g a b
 refine ⟨fun a b f e=>?_,fun a b _ _ _ f e=>?_⟩<;>(rw [i a b] at e;cases e)
def aHO (b:Value) (c d:World):Prop:=∀a,blk? b=some a->c.heap.size<=a/\a < d.heap.size
def zL (g:List Nat) (ops:Array Oper) (e:World->World->Prop) (d c:Nat) (i:Value) (a b:World):Prop:=a.heap.size<=b.heap.size/\(c=d->e a b)/\(c≠d->Grow a b)/\∀f∈g,((ops[c]?).bind (·.dst))=some f->aHO i a b
def dD {d:List Nat} {ops:Array Oper} {i:World->World->Prop} {c b:Nat} {o:Value} {f g:World} (e:Grow f g) (n:(b==c)=false) (m:(d.all fun a=>((ops[b]?).bind (·.dst))!= some a)=true):zL d ops i c b o f g:=
 ⟨e.size,fun j=>by simp [j] at n,fun _=>e,fun a k l=>by have:=zBf.1 m a k;simp [l] at this⟩
def iS {j:List Nat} {ops:Array Oper} {g:World->World->Prop} {c e:Nat} {f:Value} {a b:World} (d:Grow a b) (l:(e==c)=false) (k:aHO f a b):zL j ops g c e f a b:=
 ⟨d.size,fun i=>by simp [i] at l,fun _=>d,fun _ _ _=>k⟩
def aG4 {f:List Nat} {ops:Array Oper} {e:World->World->Prop} {a:Nat} {n:Value} {c d:World} (i:e c d) (m:c.heap.size<=d.heap.size) (l:(f.all fun b=>((ops[a]?).bind (·.dst))!= some b)=true):zL f ops e a a n c d:=
 ⟨m,fun _=>i,fun g=>absurd rfl g,fun b j k=>by have:=zBf.1 l b j;simp [k] at this⟩
abbrev KP:=List Nat×((Operand->Value)->Value->World->Prop)
def k0 (a:Value->World->Prop):KP:=([],fun _ b c=>a b c)
def kEq (a:Nat):KP:=([a],fun b c _=>c=b (.tmp a))
def kLk (b c:Nat) (d:Value->Value->World->Prop):KP:=([b,c],fun a _ e=>d (a (.tmp b)) (a (.tmp c)) e)
def aCD (a:KP):Prop:=∀b c:Operand->Value,(∀d∈a.1,c (.tmp d)=b (.tmp d))->∀e f,a.2 b e f->a.2 c e f
def aDA (b:Value->World->Prop):aCD (k0 b):=fun _ _ _ _ _ a=>a
def aEs (a:Nat):aCD (kEq a):=fun f b d e g c=>by
 show e=b (.tmp a);rw [d a (by simp [kEq])];exact c
def aIm (a b:Nat) (e:Value->Value->World->Prop):aCD (kLk a b e):=fun i c d j g f=>by
 show e (c (.tmp a)) (c (.tmp b)) g;rw [d a (by simp [kLk]),d b (by simp [kLk])];exact f
def aDO (f:World->World->Prop) (b:KP):Prop:=∀a c d e,b.2 a c d->f d e->b.2 a c e
def iN {e:World->World->Prop} {d:Value->World->Prop} (f:∀a b c,d a b->e b c->d a c):aDO e (k0 d):=fun _ a b c g i=>f a b c g i
def tH (a:World->World->Prop) (b:Value):aDO a (k0 (is b)):=fun _ _ _ _ c _=>c
def aBj (a:World->World->Prop):aDO a (k0 dF):=fun _ _ _ _ _ _=>trivial
def pA (a:World->World->Prop) (c:Nat):aDO a (kEq c):=fun _ _ _ _ b _=>b
def oZ {d:World->World->Prop} {k l:Nat} {c:Value->Value->World->Prop} (g:∀e f a b,c e f a->d a b->c e f b):aDO d (kLk k l c):=fun _ _ a b i j=>g _ _ a b i j
def VsQ (c:List KP) (b:Nat) (a:Operand->Value) (d:Value) (e:World):Prop:=(c.getD b (k0 dF)).2 a d e
def aD6 (a:List KP) (b:Nat):a.getD b (k0 dF)∈a∨a.getD b (k0 dF)=k0 dF:=by
 rw [zAb];cases c:a[b]? with
 | none=>exact .inr rfl
 | some d=>exact .inl (zAd c)
def tY {P:Program} {ops:Array Oper} {Q:Exit->Act->World->Prop} {md:Region.Mode} (N s:List Nat) (B:Nat) (C:World->World->Prop) (A:World->Prop) (g:List KP) (D:Act) (J:World)
 (r:ops.toList.filterMap (·.dst)=N) (U:hQ md ops D.tmps.size=true)
 (af:((List.range ops.size).all fun b=>(List.range ops.size).all fun c=>match ops[c]? with
  | some e=>upB md ops ops.size b c||(g.getD b (k0 dF)).1.all fun j=>e.dst != some j
  | none=>true)=true)
 (a4:A J) (a2:aCJ s D.eval J) (a3:∀a k,A a->(Grow a k∨C a k)->A k)
 (aa:∀G∈g,aCD G) (M:∀G∈g,aDO Grow G) (ai:∀G∈g.eraseIdx B,aDO C G)
 (aj:∀c e,ops[c]?=some e->tU P ops Q md (fun d a=>A a/\aCJ s d a) (zL s ops C B) (fun _ _=>True) (VsQ g) D c e)
 (ac:∀(d:Operand->Value) a,A a->aCJ s d a->(∀b E,((ops[b]?).bind (·.dst))=some E->VsQ g b d (d (.tmp E)) a)->(∀b,b < ops.size->∃f,VsQ g b d f a)->Q .normal (dB d N D) a):
 wpAny P md ops Q ops.size (Array.replicate ops.size false) D J:=by
 have a8:∀ {c f a k},zL s ops C B c f a k->Grow a k∨C a k:=fun {c f a k} p=>by by_cases v:c=B;exact .inr (p.2.1 v);exact .inl (p.2.2.1 v)
 have ah:∀c,upB md ops ops.size c c=false:=by
  intro c;cases S:upB md ops ops.size c c with
  | false=>rfl
  | true=>exact (aCN U _ _ _ nL S).elim
 have ab:∀b,aCD (g.getD b (k0 dF)):=fun b=>by rcases aD6 g b with p | p;exact aa _ p;rw [p];exact aDA _
 have T:∀b c e (d o:Operand->Value) f a,b < ops.size->ops[c]?=some e->(∀j,e.dst≠some j->o (.tmp j)=d (.tmp j))->upB md ops ops.size b c=false->VsQ g b d f a->VsQ g b o f a:=by intro b c e d o f a y n q R z;have l:=zBf.1 (zBf.1 af b (by simpa using y)) c (by simpa using (zAh.1 n).1);simp only [n,R,Bool.false_or] at l;exact ab b d o (fun j I=>q j (by have:=zBf.1 l j I;simpa using this)) f a z
 refine zP N (fun d a=>A a/\aCJ s d a) (zL s ops C B) (fun _ _=>True) (fun b d f a=>b < ops.size->VsQ g b d f a) D J r U ⟨a4,a2⟩ (fun _=>trivial) (fun c e d o f a k n x q p F=>⟨a3 a k p.1 (a8 F),?_⟩) (fun _ _ _ _ _ _ _ _ _=>trivial) (fun c e d o f a n q z v=>T c c e d o f a v n q (ah c) (z v)) (fun b c e d o f am a k n q ad R z S F y=>?_) (fun c e n X a l m Y Z a0 a1 W a5=>aj c e n X a l m Y Z a0 (fun K q a9 ak E V x=>a1 K q a9 ak E V x (zAh.1 V).1) W (fun f k a6 a7=>a5 f k a6 fun _=>a7)) (fun d a p l m=>ac d a p.1 p.2 (fun b E x=>l b E x (by
  cases n:ops[b]? with
  | none=>rw [n] at x;cases x
  | some e=>exact (zAh.1 n).1)) (fun b y=>(m b y).imp fun f z=>z y))
 · have al:=F.1;obtain ⟨l,m⟩:=p.2;have O:∀i∈s,e.dst=some i->aHO (o (.tmp i)) a k:=fun i w r=>by rw [x i r];exact F.2.2.2 i w (by rw [n];exact r)
   refine ⟨fun i w t u=>?_,fun i w j I M t u H=>?_⟩;by_cases r:e.dst=some i;exact (O i w r t u).2;rw [q i r] at u;have:=l i w t u;omega;by_cases r:e.dst=some i;have L:e.dst≠some j:=fun K=>M (by rw [r] at K;injection K);rw [q j L] at H;have:=(O i w r t u).1;have:=l j I t H;omega;rw [q i r] at u;by_cases L:e.dst=some j;have:=(O j I L t H).1;have:=l i w t u;omega;rw [q j L] at H;exact m i w j I M t u H
 · have l:=T b c e d o f a y n q R (z y);unfold VsQ at l⊢;by_cases v:c=B
   · subst v
     have ag:g.getD b (k0 dF)∈g.eraseIdx c∨g.getD b (k0 dF)=k0 dF:=by
        rw [zAb];cases ae:g[b]? with
        | none=>exact .inr rfl
        | some G=>exact .inl (List.mem_eraseIdx_iff_getElem?.2 ⟨b,ad,ae⟩)
     rcases ag with m | m;exact ai _ m o f a k l (F.2.1 rfl)
     · rw [m];trivial
   · rcases aD6 g b with m | m;exact M _ m o f a k l (F.2.2.1 v)
     · rw [m];trivial
end
section
open Go.RowKit
def aFH (e:World->World->Prop) (a:Value->World->Prop):Prop:=∀b c d,a b c->e c d->a b d
def gP (a:World->World->Prop) (b:Value):aFH a (is b):=fun _ _ _ c _=>c
def iY (a:World->World->Prop):aFH a dF:=fun _ _ _ _ _=>trivial
def cM {i:World->World->Prop} {c:List (Value->World->Prop)} (j:∀g∈c,aFH i g):∀b d e f,Vs c b d e->i e f->Vs c b d f:=by
 intro b d e f a k;unfold Vs at a⊢;rw [zAb] at a⊢;rcases hl:c[b]? with _ | g;rw [hl] at a;exact a;rw [hl] at a;exact j g (zAd hl) d e f a k
end
section
def aM {α:Type} (b:List α) (a:Nat) (c:α):List α:=b.take a++c::b.drop a
def aD {α:Type} (b:List α) (a:Nat):List α:=b.take a++b.drop (a+1)
def fG {α:Type} (a:List α) {b:Nat} (c:α) (d:b<=a.length):(aM a b c).length=a.length+1:=by
 unfold aM;rw [zAi,zAj,zCf,zAw];omega
def cQ {α:Type} (a:List α) {k:Nat} (b:k < a.length):(aD a k).length+1=a.length:=by
 unfold aD;rw [zAi,zAj,zAw];omega
def iB {α:Type} (c:List α) {a:Nat} (g:α) (j:a<=c.length) (b:Nat):(aM c a g)[b]?=if b < a then c[b]? else if b=a then some g else c[b - 1]?:=by
 unfold aM;have i:(c.take a).length=a:=by rw [zAj];omega
 by_cases e:b < a
 · rw [zBx e,zAn oM,zBs,zBx e]
 · rw [zBw e,zAo oM,i];by_cases f:b=a;subst f;rw [zBx rfl,Nat.sub_self];rfl
   · rw [zBw f];obtain ⟨d,rfl⟩:∃d,b=a+d+1:=⟨b - a - 1,by omega⟩;rw [show a+d+1 - a=d+1 by omega,List.getElem?_cons_succ,zBt];congr 1
def dM {α:Type} (c:List α) {a:Nat} (f:a < c.length) (b:Nat):(aD c a)[b]?=if b < a then c[b]? else c[b+1]?:=by
 unfold aD;have e:(c.take a).length=a:=by rw [zAj];omega
 by_cases d:b < a
 · rw [zBx d,zAn oM,zBs,zBx d]
 rw [zBw d,zAo oM,e,zBt];congr 1;omega
def mA {α β:Type} (a:α->β) (c:List α) (b:Nat) (d:α):(aM c b d).map a=aM (c.map a) b (a d):=by simp [aM]
def qF {α β:Type} (a:α->β) (c:List α) (b:Nat):(aD c b).map a=aD (c.map a) b:=by simp [aD]
def eM {α:Type} (a:List α) (c:Nat) (b:α):(aM a c b).Perm (b::a):=by
 unfold aM;exact (List.perm_middle).trans (by rw [zAu])
def dY {α:Type} {a:List α} {b:Nat} {c:α} (e:a[b]?=some c):(c::aD a b).Perm a:=by
 obtain ⟨f,g⟩:=zAc.1 e;have d:a=a.take b++c::a.drop (b+1):=by rw [<-g,<-zAx f,zAu]
 unfold aD;exact (List.perm_middle.symm).trans (by rw [<-d])
def nC (b:List Bool) {c:Nat} (d:Bool) (e:c<=b.length) (a:Nat):(aM b c d).getD a false=if a < c then b.getD a false else if a=c then d else b.getD (a - 1) false:=by
 rw [zAb,iB b d e];split
 · rw [zAb]
 · split;rfl
   · rw [zAb]
def nJ (a:List Bool) {c:Nat} (d:c < a.length) (b:Nat):(aD a c).getD b false=if b < c then a.getD b false else a.getD (b+1) false:=by
 rw [zAb,dM a d];split
 · rw [zAb]
 · rw [zAb]
def aEJ (d:List Bool) (c b:Nat):(d.take c).getD b false=(decide (b < c)&&d.getD b false):=by
 rw [zAb,zBs];by_cases a:b < c
 · rw [zBx a,zAb];simp [a]
 · rw [zBw a];simp [a]
def aFv (b:List Bool) (c a:Nat):(b.drop c).getD a false=b.getD (c+a) false:=by
 rw [zAb,zBt,zAb]
def kC:Nat->Nat->List UInt8
 | 0,_=> []
 | f+1,n=>if n=0 then [] else kC f (n / 128)++ [UInt8.ofNat (n % 128+128)]
def bP (a:Nat):List UInt8:=kC 10 (a / 128)++ [UInt8.ofNat (a % 128)]
def dE (a:List Nat):List UInt8:=a.flatMap bP
def dV:List UInt8->Bool->Nat->Nat->Option (Nat×Nat)
 | [],_,_,_=>none
 | c::r,first,acc,pos=>
   if (first&&c.toNat==128)||decide (144115188075855871 < acc) then none
   else if c.toNat < 128 then some (acc*128+c.toNat % 128,pos+1) else dV r false (acc*128+c.toNat % 128) (pos+1)
def dU (b:List UInt8) (a:Int):Nat×Int×Int:=
 if a < 0∨(b.length:Int) < a then (0,a,2)
 else match dV (b.drop a.toNat) true 0 a.toNat with
    | some (c,d)=>(c,d,0)
    | none=>(0,a,4)
def aAs:Nat->Nat->List UInt8
 | 0,_=> []
 | k+1,n=>aAs k n++ [UInt8.ofNat (n / 256 ^ k % 256)]
def qD (a:Nat):List UInt8:=aAs 4 a
def ofN (b:List UInt8) (a:Nat):Nat->Nat
 | 0=>0
 | k+1=>ofN b a k+(b[a+k]?.getD 0).toNat*256 ^ k
def ofB (b:List UInt8) (a:Int):Nat×Int:=
 if a < 0∨(b.length:Int) < a then (0,2) else if (b.length:Int) - a < 4 then (0,4) else (ofN b a.toNat 4,0)
def aIX (c:List UInt8) (b:Nat) (a:Nat):ofN c b a < 256 ^ a:=by
 induction a with
 | zero=>simp [ofN]
 | succ a e=>
   have:(c[b+a]?.getD 0).toNat < 256:=UInt8.toNat_lt _;simp only [ofN,Nat.pow_succ];have d:(c[b+a]?.getD 0).toNat*256 ^ a<=255*256 ^ a:=Nat.mul_le_mul_right _ oM;omega
def lB (a:UInt8) (d:List UInt8) (first:Bool) (b c:Nat):dV (a::d) first b c=
 if (first&&a.toNat==128)||decide (144115188075855871 < b) then none
 else if a.toNat < 128 then some (b*128+a.toNat % 128,c+1) else dV d false (b*128+a.toNat % 128) (c+1):=by conv=>lhs;rw [dV]
def rP (a:Nat):kC a 0= []:=by cases a <;> simp [kC]
def aE8 (b:Nat):∀a,a < 128 ^ b->kC (b+1) a=kC b a:=by
 induction b with
 | zero=>intro a c;have:a=0:=by simpa using c
         subst this;simp [kC]
 | succ b e=>
   intro a c;by_cases d:a=0
   · subst d;simp [rP]
   · rw [kC,zBw d,e (a / 128) (by rw [Nat.div_lt_iff_lt_mul oM];rw [Nat.pow_succ] at c;exact c)]
     conv=>rhs;rw [kC,zBw d]
def aE7 (a:Nat) (b:a≠0) (c:a < 128 ^ 10):kC 10 a=kC 10 (a / 128)++ [UInt8.ofNat (a % 128+128)]:=by
 rw [aE8 9 (a / 128) oM]
 conv=>lhs;rw [kC,zBw b]
def aBF (a:Nat):∀b,(kC a b).length<=a:=by
 induction a with
 | zero=>intro b;simp [kC]
 | succ a c=>
   intro b;unfold kC;split
   · simp
   have:=c (b / 128);simp;omega
def cY (a:Nat):(bP a).length<=11:=by
 have:=aBF 10 (a / 128);simp [bP];omega
def vI (a:List Nat):(dE a).length<=11*a.length:=by
 induction a with
 | nil=>simp [dE]
 | cons b a c=>
   have:=cY b;simp [dE] at c⊢;omega
def aBV (b:List Nat) (a:Nat) (c:Nat) (d:b[a]?=some c):dE (b.take (a+1))=dE (b.take a)++bP c:=by
 have e:a < b.length:=(zAc.1 d).1;rw [List.take_succ_eq_append_getElem e];have:b[a]=c:=(zAc.1 d).2;rw [this];simp [dE,List.flatMap_append]
def aIg (b c a:Nat) (f:c+1<=a) (e:a=0∨1<=b / 2 ^(7*a)):b / 2 ^(7*(c+1))≠0:=by
 have g:1<=b / 2 ^(7*a):=by rcases e with d | d <;> omega
 have i:b / 2 ^(7*a)<=b / 2 ^(7*(c+1)):=Nat.div_le_div_left (zBp oM oM) (Nat.pow_pos oM);omega
def aI0 (a b:Nat) (c:a < 18446744073709551616):a / 2 ^(7*(b+1)) < 128 ^ 9:=by
 have d:a / 2 ^(7*(b+1))<=a / 2 ^ 7:=Nat.div_le_div_left (zBp oM oM) (Nat.pow_pos oM);omega
def aJb (b a:Nat):b / 2 ^(7*(a+1))=b / 2 ^(7*a)/ 128:=by
 rw [Nat.div_div_eq_div_mul,show 7*(a+1)=7*a+7 by omega,Nat.pow_add]
def aEX (b a:Nat) (e:b < 18446744073709551616) (f:a<=9) (d:128<=b / 2 ^(7*a)):a+1<=9:=by
 by_cases c:a=9;subst c;rw [Nat.le_div_iff_mul_le dC] at d;omega;omega
def oL (a:Nat):dE [a]=bP a:=by simp [dE]
def aFn (b:Nat):∀a e c,a < 128 ^ b->a < 144115188075855872->dV (kC b a++e) true 0 c=dV e (a==0) a (c+(kC b a).length):=by
 induction b with
 | zero=>intro a e c d _;have:a=0:=by simpa using d
         subst this;simp [kC]
 | succ b k=>
   intro a e c d l;by_cases f:a=0
   · subst f;simp [rP]
   · rw [kC,zBw f,zCn,k (a / 128) _ c (by rw [Nat.div_lt_iff_lt_mul oM];rw [Nat.pow_succ] at d;exact d) oM];rw [List.singleton_append,lB];have j:(UInt8.ofNat (a % 128+128)).toNat=a % 128+128:=(by simp [UInt8.toNat_ofNat'];omega);rw [j,zBw,zBw oM]
     · have i:a / 128*128+(a % 128+128)% 128=a:=oM;rw [i,zAi,List.length_singleton,Nat.add_assoc];have:(a==0)=false:=(by simp [f]);rw [this]
     by_cases g:a / 128=0;simp [g];omega;simp [g];omega
def nD (a:Nat) (e:a < 18446744073709551616) (d:List UInt8) (b:Nat):dV (bP a++d) true 0 b=some (a,b+(bP a).length):=by
 unfold bP;rw [zCn,aFn 10 (a / 128) _ b oM oM,List.singleton_append,lB];have c:(UInt8.ofNat (a % 128)).toNat=a % 128:=by simp [UInt8.toNat_ofNat'];omega
 rw [c,zBw,zBx oM,zAi,List.length_singleton];congr 2;omega;simp;omega
def aHh (a:Nat):0 < (bP a).length:=by simp [bP]
def aHa (b d:List UInt8) (a:Nat) (c:a < 18446744073709551616):dU (b++(bP a++d)) (b.length:Int)=(a,((b.length+(bP a).length:Nat):Int),0):=by
 rw [dU,zBw (by simp;omega)];simp only [zBr,List.drop_left];rw [nD a c]
def cS (a:List (Int×Nat)) (b:Int):List (Int×Nat):=
 match a.getLast? with
 | some (c,d)=>if c=b then a.dropLast++ [(c,d+1)] else a++ [(b,1)]
 | none=> [(b,1)]
def bB (a:List Int):List (Int×Nat):=a.foldl cS []
def aBn (b:List Int) (a:Nat) (d:Int) (c:b[a]?=some d):bB (b.take (a+1))=cS (bB (b.take a)) d:=by
 have e:a < b.length:=(zAc.1 c).1;rw [List.take_succ_eq_append_getElem e,(zAc.1 c).2];simp [bB,List.foldl_append]
def fX (c:List (Int×Nat)) (a:Int) (b:Nat):cS (c++ [(a,b)]) a=c++ [(a,b+1)]:=by simp [cS]
def fE (d:List (Int×Nat)) (b a:Int) (c:Nat) (e:b≠a):cS (d++ [(b,c)]) a=d++ [(b,c)]++ [(a,1)]:=by simp [cS,e]
def aBo (a:Int):cS [] a= [(a,1)]:=by simp [cS]
def aBp (a:List (Int×Nat)) (b:Int):(cS a b).length<=a.length+1/\a.length<=(cS a b).length:=by
 rcases List.eq_nil_or_concat a with rfl |⟨f,⟨d,e⟩,rfl⟩
 · simp [cS]
 · rw [List.concat_eq_append];by_cases c:d=b
   · subst c;rw [fX];simp
   · rw [fE _ _ _ _ c];simp
def kT (a:List Int):(bB a).length<=a.length:=by
 have e:∀(a:List Int) (b:List (Int×Nat)),(a.foldl cS b).length<=b.length+a.length:=by
  intro a
  induction a with
  | nil=>intro b;simp
  | cons c a d=>intro b;have:=d (cS b c);have f:=(aBp b c).1;simp only [zCp,zCf];omega
 have:=e a [];simpa [bB] using this
def dW (b:List (Int×Nat)):List Int:=b.flatMap fun a=>List.replicate a.2 a.1
def aBT (a:List (Int×Nat)) (b:Int):dW (cS a b)=dW a++ [b]:=by
 rcases List.eq_nil_or_concat a with rfl |⟨f,⟨d,e⟩,rfl⟩
 · simp [cS,dW]
 · rw [List.concat_eq_append];by_cases c:d=b
   · subst c;rw [fX];simp [dW,List.flatMap_append,List.replicate_succ']
   · rw [fE _ _ _ _ c];simp [dW,List.flatMap_append]
def mD (a:List Int):dW (bB a)=a:=by
 have d:∀(a:List Int) (b:List (Int×Nat)),dW (a.foldl cS b)=dW b++a:=by
  intro a
  induction a with
  | nil=>intro b;simp
  | cons e a c=>intro b;rw [zCp,c,aBT];simp
 have:=d a [];simpa [bB,dW] using this
def sE (a:List (Int×Nat)):Prop:=(∀e∈a,1<=e.2)/\a.Pairwise (fun _ _=>True)/\∀d b c,a[d]?=some b->a[d+1]?=some c->b.1≠c.1
def aC1 (k:List (Int×Nat)) (l:Int) (s:sE k):sE (cS k l):=by
 obtain ⟨r,_,n⟩:=s;refine ⟨?_,List.pairwise_of_forall (by intros;trivial),?_⟩
 · rcases List.eq_nil_or_concat k with rfl |⟨g,⟨f,j⟩,rfl⟩
   · simp [cS]
   · rw [List.concat_eq_append] at*
     by_cases e:f=l
     · subst e;rw [fX];intro p c;rcases zCo.1 c with c | c;exact r p (List.mem_append_left _ c)
       · have:=List.mem_singleton.1 c;subst this;simp
     · rw [fE _ _ _ _ e];intro p c;rcases zCo.1 c with c | c;exact r p c
       · have:=List.mem_singleton.1 c;subst this;simp
 · intro d m q b a;rcases List.eq_nil_or_concat k with rfl |⟨g,⟨f,j⟩,rfl⟩
   · simp [cS] at a
   · rw [List.concat_eq_append] at*
     by_cases e:f=l
     · subst e;rw [fX] at b a;have o:d+1 < (g++ [(f,j+1)]).length:=(zAc.1 a).1;simp at o;by_cases i:d+1=g.length;rw [zAo oM,i] at a;simp at a;rw [zAn oM] at b;have:=n d m (f,j) (by rw [zAn oM];exact b) (by rw [zAo oM,i];simp);rw [<-a];exact this
       · rw [zAn oM] at b a;exact n d m q (by rw [zAn oM];exact b) (by rw [zAn oM];exact a)
     rw [fE _ _ _ _ e] at b a;have o:d+1 < (g++ [(f,j)]++ [(l,1)]).length:=(zAc.1 a).1;simp at o;by_cases i:d=g.length;subst i;rw [zAn (by simp)] at b;simp at b;rw [zAo (by simp)] at a;simp at a;rw [<-b,<-a];exact e;rw [zAn (by simp;omega)] at b a;exact n d m q b a
def yR (a:List Int):sE (bB a):=by
 have e:∀(a:List Int) (b:List (Int×Nat)),sE b->sE (a.foldl cS b):=by
  intro a
  induction a with
  | nil=>intro b c;exact c
  | cons f a d=>intro b c;exact d _ (aC1 b f c)
 exact e a [] ⟨by simp,List.Pairwise.nil,by simp⟩
def aDx (a:List (Int×Nat)) (d:Int×Nat) (b:d∈a):d.2<=(dW a).length:=by
 induction a with
 | nil=>cases b
 | cons c a f=>
   have e:dW (c::a)=List.replicate c.2 c.1++dW a:=(by simp [dW]);rw [e,zAi,zCm];rcases List.mem_cons.1 b with rfl | b;omega;have:=f b;omega
def oF (b:List Int) (a:Int×Nat) (c:a∈bB b):a.2<=b.length:=by
 have:=aDx _ a c;rwa [mD] at this
def iX (a:Int):Prop:=0<=a/\a < 257
instance (s:Int):Decidable (iX s):=inferInstanceAs (Decidable (_/\_))
def cH (a:Int×Nat):List UInt8:=bP a.1.toNat++bP a.2
def eK (a:List (Int×Nat)):List UInt8:=bP a.length++a.flatMap cH
def pI (a:List Int):Option (List UInt8):=if ∀b∈bB a,iX b.1 then some (eK (bB a)) else none
def sL (a:Int×Nat):(cH a).length<=22:=by
 have:=cY a.1.toNat;have:=cY a.2;simp [cH];omega
def xE (b:List (Int×Nat)) (a:Nat) (d:Int×Nat) (c:b[a]?=some d):(b.take (a+1)).flatMap cH=(b.take a).flatMap cH++cH d:=by
 have e:a < b.length:=(zAc.1 c).1;rw [List.take_succ_eq_append_getElem e,(zAc.1 c).2];simp [List.flatMap_append]
def sP (a:List (Int×Nat)):(a.flatMap cH).length<=22*a.length:=by
 induction a with
 | nil=>simp
 | cons b a c=>
   have:=sL b;rw [List.flatMap_cons,zAi,zCf];omega
def nP (b:List UInt8) (a:Nat):Option (Nat×Nat×Nat):=
 match dV (b.drop a) true 0 a with
 | none=>none
 | some (f,c)=>
   match dV (b.drop c) true 0 c with
   | none=>none
   | some (e,d)=>some (f,e,d)
def rgo (c:List UInt8) (e:Nat):Nat->Nat->Nat->List Int->List Int×Int
 | 0,a,_,acc=>if a=c.length then (acc,0) else ([],4)
 | n+1,a,last,acc=>
   match nP c a with
   | none=>([],4)
   | some (b,d,f)=>if 257<=b∨b=last∨d=0 then ([],4) else if e - acc.length < d then ([],3) else rgo c e n f b (acc++List.replicate d (b:Int))
def lA (a:List UInt8) (c:Int):List Int×Int:=
 match dV a true 0 0 with
 | none=>([],4)
 | some (d,b)=>rgo a c.toNat d b 257 []
def vE (f:List UInt8):∀first b d e c,dV f first b d=some (e,c)->d < c/\c<=d+f.length/\e < 18446744073709551616:=by
 induction f with
 | nil=>intro first b d e c a;rw [dV] at a;cases a
 | cons j l i=>
   intro first b d e c a
   rw [lB] at a;split at a
   · cases a
   · rename_i g
     split at a
     · injection a with a;injection a with h1 h2;subst h1;subst h2;have k:b<=144115188075855871:=(by rcases zBe 144115188075855871 b with a | a;exact absurd (by simp [a]) g;exact a);refine ⟨by omega,by simp,by omega⟩
     have:=i _ _ _ _ _ a;simp only [zCf];omega
def oI (b:List UInt8) (a d c:Nat) (f:a<=b.length) (e:dV (b.drop a) true 0 a=some (d,c)):dU b (a:Int)=(d,(c:Int),0):=by
 rw [dU,zBw oM];simp only [zBr,e]
def oJ (b:List UInt8) (a:Nat) (d:a<=b.length) (c:dV (b.drop a) true 0 a=none):dU b (a:Int)=(0,(a:Int),4):=by
 rw [dU,zBw oM];simp only [zBr,c]
def aBy (b:List UInt8) (f g a e:Nat) (c:List Int) (d:nP b a=none):rgo b f (g+1) a e c=([],4):=by simp only [rgo,d]
def aBx (d:List UInt8) (e j f i:Nat) (c:List Int) (a b g:Nat) (k:nP d f=some (a,b,g)):
 rgo d e (j+1) f i c=if 257<=a∨a=i∨b=0 then ([],4) else if e - c.length < b then ([],3) else rgo d e j g a (c++List.replicate b (a:Int)):=by simp only [rgo,k]
def aBr (b:List UInt8) (a:Nat) (c:dV (b.drop a) true 0 a=none):nP b a=none:=by simp only [nP,c]
def aBq (b:List UInt8) (a f c:Nat) (d:dV (b.drop a) true 0 a=some (f,c)) (e:dV (b.drop c) true 0 c=none):nP b a=none:=by simp only [nP,d,e]
def uI (b:List UInt8) (a f c e d:Nat) (g:dV (b.drop a) true 0 a=some (f,c)) (i:dV (b.drop c) true 0 c=some (e,d)):nP b a=some (f,e,d):=by simp only [nP,g,i]
def qC (a:Nat):(qD a).length=4:=by simp [qD,aAs]
def aHb (a e b:Nat) (g:b < a):(aAs a e)[b]?=some (UInt8.ofNat (e / 256 ^ b % 256)):=by
 induction a with
 | zero=>omega
 | succ a d=>
   have c:∀a,(aAs a e).length=a:=fun a=>by induction a with
    | zero=>rfl
    | succ a d=>simp [aAs,d]
   rw [aAs];by_cases f:b=a
   · subst f;rw [zAo (by rw [c];omega),c];simp
   · rw [zAn (by rw [c];omega),d oM]
def aId (c f:List UInt8) (a:Nat) (j:a < 4294967296):ofB (c++(qD a++f)) (c.length:Int)=(a,0):=by
 have k:=qC a;rw [ofB,zBw (by simp;omega),zBw (by simp;omega)];have d:∀b,b < 4->(c++(qD a++f))[c.length+b]?=some (UInt8.ofNat (a / 256 ^ b % 256)):=fun b i=>by rw [zAo oM,Nat.add_sub_cancel_left,zAn oM];exact aHb 4 a b i
 simp only [ofN,zBr];rw [d 0 oM,d 1 oM,d 2 oM,d 3 oM];have g:∀e:Nat,(UInt8.ofNat (e % 256)).toNat=e % 256:=fun e=>by simp [UInt8.toNat_ofNat']
 simp only [Option.getD_some,g];congr 1;simp only [Nat.reducePow,Nat.div_one,zBl];omega
def lE (a:Nat):Nat:=if a % 2=1 then (a / 2)^^^ 3988292384 else a / 2
def qG:Nat->Nat->Nat
 | 0,s=>s
 | k+1,s=>lE (qG k s)
def jD (a:Nat):Nat:=qG 8 a
def sS:List UInt8->Nat->Nat
 | [],a=>a
 | c::r,a=>sS r (jD ((a % 256)^^^ c.toNat)^^^(a / 256))
def aAw (b:Nat) (a:List UInt8):Nat:=4294967295 - sS a (4294967295 - b)
def mF (a:List UInt8):Nat:=aAw 0 a
def aDB {a:Nat} (b:a < 4294967296):lE a < 4294967296:=by
 unfold lE;split;exact Nat.xor_lt_two_pow (n:=32) oM oM;omega
def vK {c:Nat} (b:c < 4294967296):∀a,qG a c < 4294967296
 | 0=>b
 | a+1=>aDB (vK b a)
def zC {a:Nat} (b:a < 256):jD a < 4294967296:=vK oM 8
def aHr {b:Nat} (c:b < 4294967296) (a:UInt8):(b % 256)^^^ a.toNat < 256:=Nat.xor_lt_two_pow (n:=8) oM a.toNat_lt
def aHq {a:Nat} (c:a < 4294967296) (b:UInt8):jD ((a % 256)^^^ b.toNat)^^^(a / 256) < 4294967296:=
 Nat.xor_lt_two_pow (n:=32) (zC (aHr c b)) oM
def qH:∀(d:List UInt8) (b:Nat),b < 4294967296->sS d b < 4294967296
 | [],_,a=>a
 | c::r,b,a=>qH r _ (aHq a c)
def vL:∀(c:List UInt8) (a:UInt8) (b:Nat),sS (c++ [a]) b=jD ((sS c b % 256)^^^ a.toNat)^^^(sS c b / 256)
 | [],_,_=>rfl
 | d::r,a,b=>vL r a _
def aEw (a:List UInt8):mF a < 4294967296:=by
 unfold mF aAw;have:=qH a (4294967295 - 0) oM;omega
def dJ (a:List UInt8):List UInt8:=bP a.length++(a++qD (mF a))
def fZ:List UInt8:= [83,75,82,49]
def uD (d:List Nat) (a b:Nat):List UInt8:=(List.range (b / a+1)).flatMap fun c=>bP (d.idxOf (c*a))
def iK (a:List Nat):List Int:=a.map fun b:Nat=>(b:Int)
def fM (a:List Nat):List UInt8:=eK (bB (iK a))
def nR (c e:List Nat) (d b a:Nat):List UInt8:=fZ++(dE [d,b,a]++(dJ (fM c)++dJ (uD e b a)))
def fA (a e:List Nat) (c d b:Nat):List UInt8:=nR a e c d b++qD (mF (nR a e c d b))
def uQ {d a r:List UInt8} {b c e:Nat} (f:d=a++(bP b++r)) (g:a.length=c) (j:c+(bP b).length=e) (i:b < 18446744073709551616):dU d (c:Int)=(b,(e:Int),0):=by
 rw [f,<-j,<-g];exact aHa a r b i
structure SnAt (body:List UInt8) (most rate N:Nat) (f s:List UInt8) (p1 p2 p3 p4 p5:Nat):Prop where
 e1:body=fZ++(bP most++(bP rate++(bP N++(dJ f++dJ s))))
 h1:4+(bP most).length=p1
 h2:p1+(bP rate).length=p2
 h3:p2+(bP N).length=p3
 h4:p3+(dJ f).length=p4
 h5:p4+(dJ s).length=p5
def aB3 (c e:List Nat) (d b a:Nat):nR c e d b a=fZ++(bP d++(bP b++(bP a++(dJ (fM c)++dJ (uD e b a))))):=by
 unfold nR;simp [dE]
def SnAt.of (c e:List Nat) (d b a:Nat):∃g i j k f,SnAt (nR c e d b a) d b a (fM c) (uD e b a) g i j k f/\(nR c e d b a).length=f:=by
 refine ⟨_,_,_,_,_,⟨aB3 c e d b a,rfl,rfl,rfl,rfl,rfl⟩,?_⟩;rw [aB3];simp [fZ];omega
def SnAt.n1 {c g o:List UInt8} {b n f e j k l m:Nat} (d:SnAt c b n f g o e j k l m) (i:b < 18446744073709551616):dU c 4=(b,(e:Int),0):=
 uQ (a:=fZ) d.e1 rfl d.h1 i
def SnAt.n2 {e f k:List UInt8} {g c d i j m n o:Nat} (b:SnAt e g c d f k i j m n o) (l:c < 18446744073709551616):dU e (i:Int)=(c,(j:Int),0):=
 uQ (a:=fZ++bP g) (r:=bP d++(dJ f++dJ k)) (by rw [b.e1];simp) (by rw [zAi];have:=b.h1;have:fZ.length=4:=rfl;omega) b.h2 l
def SnAt.n3 {d e k:List UInt8} {f j c m g i n o:Nat} (b:SnAt d f j c e k m g i n o) (l:c < 18446744073709551616):dU d (g:Int)=(c,(i:Int),0):=
 uQ (a:=fZ++(bP f++bP j)) (r:=dJ e++dJ k) (by rw [b.e1];simp) (by rw [zAi,zAi];have:=b.h1;have:=b.h2;have:fZ.length=4:=rfl;omega) b.h3 l
def iR (a:List UInt8):(dJ a).length=(bP a.length).length+(a.length+4):=by
 unfold dJ;rw [zAi,zAi,qC]
def SnAt.f1 {c b m:List UInt8} {f j e p q d g r:Nat} (a:SnAt c f j e b m p q d g r) (o:b.length < 18446744073709551616):
 ∃i:Nat,dU c (d:Int)=(b.length,(i:Int),0)/\i+(b.length+4)=g/\(c.drop i).take b.length=b/\g<=c.length:=by
 have k:c=(fZ++(bP f++(bP j++bP e)))++(bP b.length++((b++qD (mF b))++dJ m)):=by rw [a.e1];simp [dJ]
 have l:(fZ++(bP f++(bP j++bP e))).length=d:=by simp only [zAi];have:=a.h1;have:=a.h2;have:=a.h3;have:fZ.length=4:=rfl;omega
 refine ⟨d+(bP b.length).length,uQ k l rfl o,?_,?_,?_⟩;have:=a.h4;rw [iR] at this;omega
 · rw [k,<-zCn,List.drop_left' (by rw [zAi,l]),zCn,List.take_left' rfl]
 have w:=a.h5;have n:=congrArg List.length a.e1;simp only [zAi] at n;have s:=a.h1;have t:=a.h2;have u:=a.h3;have v:=a.h4;have x:fZ.length=4:=rfl;omega
def SnAt.f2 {c f b:List UInt8} {g k e p q r d i:Nat} (a:SnAt c g k e f b p q r d i) (o:b.length < 18446744073709551616):
 ∃j:Nat,dU c (d:Int)=(b.length,(j:Int),0)/\j+(b.length+4)=i/\(c.drop j).take b.length=b/\i=c.length:=by
 have l:c=(fZ++(bP g++(bP k++(bP e++dJ f))))++(bP b.length++((b++qD (mF b))++ [])):=by rw [a.e1];simp [dJ]
 have m:(fZ++(bP g++(bP k++(bP e++dJ f)))).length=d:=by simp only [zAi];have:=a.h1;have:=a.h2;have:=a.h3;have:=a.h4;have:fZ.length=4:=rfl;omega
 refine ⟨d+(bP b.length).length,uQ l m rfl o,?_,?_,?_⟩;have:=a.h5;rw [iR] at this;omega
 · rw [l,<-zCn,List.drop_left' (by rw [zAi,m]),zCn,List.take_left' rfl]
 have w:=a.h5;have n:=congrArg List.length a.e1;simp only [zAi] at n;have s:=a.h1;have t:=a.h2;have u:=a.h3;have v:=a.h4;have x:fZ.length=4:=rfl;omega
end
section
open Go.RowKit
def jN:(prog.info? 5).map (fun a=>(a.zero,a.size,a.bytes))=some (some (.int .u8 0),1,1):=by kernel_rfl
def uv (a:Nat):Value:=.int .u64 (a:Int)
def aJr (a:Nat):bits .or .u8 ((a:Int)% 256) 128=((a % 128+128:Nat):Int):=by
 have c:∀b:Fin 256,bits .or .u8 ((b.val:Nat):Int) 128=((b.val % 128+128:Nat):Int):=by decide+kernel
 have:=c ⟨a % 256,by omega⟩;simp only at this;rw [show ((a:Int)% 256)=((a % 256:Nat):Int) by omega,this];omega
def aJi (a:Nat):bits .and .u8 ((a:Int)% 256) 127=((a % 128:Nat):Int):=by
 have c:∀b:Fin 256,bits .and .u8 ((b.val:Nat):Int) 127=((b.val % 128:Nat):Int):=by decide+kernel
 have:=c ⟨a % 256,by omega⟩;simp only at this;rw [show ((a:Int)% 256)=((a % 256:Nat):Int) by omega,this];omega
def aJw (b a:Nat):Value.int .u8 (bits .or .u8 ((b:Int)/ 2 ^ a % 256) 128)=bv (UInt8.ofNat (b / 2 ^ a % 128+128)):=by
 have:((b:Int)/ 2 ^ a)=((b / 2 ^ a:Nat):Int):=by push_cast;rfl
 rw [this,aJr];unfold bv;congr 1;simp [UInt8.toNat_ofNat'];omega
def aJf (a:Nat):Value.int .u8 (bits .and .u8 ((a:Int)% 256) 127)=bv (UInt8.ofNat (a % 128)):=by
 rw [aJi];unfold bv;congr 1;simp [UInt8.toNat_ofNat'];omega
def aIx (y:Option Addr) (i R:Nat) (e:List Nat) (d:World) (w:Rd d d.heap.size 1 y i (e.map uv)) (D:∀a∈e,a < 18446744073709551616) (af:i<=100000):
 Calls prog 125 #[.slice y i R] d fun S K=>∃l b,S=.returned l/\K.ownsRow d.heap.size 5 1 l b ((dE e).map bv)/\Below d.heap.size d K:=by
 obtain ⟨J,C,G,H,I⟩:=info_parts jN;obtain ⟨O,M⟩:=hqq2 w D;have E:=w.1;have A:=lhd E;clear w D E;go_enter func125,ntmps125;go_wp2;go_loopw [3,9] (fun l f wr=>∃b r:Nat,b<=i/\f=.int .i64 b/\wr.ownsRow d.heap.size 5 1 l r ((dE (e.take b)).map bv)/\Below d.heap.size d wr) (fun _ f _=>i -(intOf f).toNat)
 case atStart=>exact ⟨0,0,zAp _,rfl,World.ownsRow_nil _ _ _ _,Below.refl _ _⟩
 case round=>
  obtain ⟨b,r,ae,rfl,v,s⟩:=hrel;by_cases a4:b < i
  · have a8:∃a,e[b]?=some a:=(by have:=A.out;simp at this;exact ⟨e[b]' oM,zAa oM⟩);obtain ⟨a,q⟩:=a8;obtain ⟨ab,ah,ai,rfl,ad,x,Y⟩:=(O.out.below s).get a4;rw [zAf,q] at x;simp at x;subst x;unfold uv at Y;have F:a < 18446744073709551616:=M.out a (zAd q);obtain ⟨N,z⟩:=hqq2 q F;clear q F;go_wp2
    go_loop [6] (fun k=>∃c:Nat,c<=9/\k=.int .i64 (7*(c:Int))/\(c=0∨1<=a / 2 ^(7*c))) (fun k=>100 -(intOf k).toNat)
    case atStart=>exact ⟨0,by omega,rfl,.inl rfl⟩
    case round=>
        obtain ⟨c,a0,rfl,Z⟩:=hrel;go_wp2
        · have W:(128:Int)<=(a:Int)/ 2 ^(7*c):=(by assumption);have X:128<=a / 2 ^(7*c):=(by exact_mod_cast W);have a2:=aEX a c z.out a0 X;refine ⟨⟨c+1,a2,by go_num,.inr (by rw [aJb];omega)⟩,by simp [intOf];omega⟩
        · have a6:(a:Int)/ 2 ^(7*c) < 128:=(by assumption);have a7:a / 2 ^(7*c) < 128:=(by exact_mod_cast a6);go_loopw [3,6] (fun l k L=>∃g j:Nat,g<=c/\k=.int .i64 (7*(g:Int))/\L.ownsRow d.heap.size 5 1 l j ((dE (e.take b)++kC 10 (a / 2 ^(7*(g+1)))).map bv)/\Below d.heap.size d L) (fun _ k _=>(intOf k).toNat)
          case atStart=>exact ⟨c,r,zAs _,rfl,by rw [aJb,Nat.div_eq_of_lt a7];simpa [rP] using v,s⟩
          case round=>
           obtain ⟨g,j,a1,rfl,m,t⟩:=hrel;have o:=t.size;have ag:j<=1100010:=(by have U:=m.1;have V:=vI (e.take b);have ac:=aBF 10 (a / 2 ^(7*(g+1)));simp at U V;omega);by_cases T:g=0
           · subst T;go_wp2_with (at_builtin;refine bM _ rfl (.tmp 33) (.tmp 37) _ rfl d.heap.size 5 J (.int .u8 0) 1 1 underlying34 C G H I rfl dC u3 j _ rfl m rfl rfl (by simp [Value.oneCell']) (by unfold maxLen;omega) oM o ?_;intro a9 aa n p a5 B);have u:=bG t m p o;clear p B;go_roundw
             case rel=>refine ⟨b+1,j+1,by omega,by go_num,?_,u⟩;rw [aBV e b a N.out];rw [aJf] at n;simpa [bP] using n
             case measure=>simp [intOf];omega
           · go_wp2_with (at_builtin;refine bM _ rfl (.tmp 24) (.tmp 31) _ rfl d.heap.size 5 J (.int .u8 0) 1 1 underlying34 C G H I rfl dC u3 j _ rfl m rfl rfl (by simp [Value.oneCell']) (by unfold maxLen;omega) oM o ?_;intro a9 aa n p a5 B);have u:=bG t m p o;refine ⟨⟨g - 1,j+1,by omega,dT oM,?_,u⟩,by simp [intOf];omega⟩;rw [aJw] at n;obtain ⟨f,rfl⟩:∃f,g=f+1:=⟨g - 1,by omega⟩;rw [zBb,aE7 (a / 2 ^(7*(f+1))),<-aJb];simpa using n;exact aIg a f c a1 Z;exact zAl (aI0 a f z.out) dC
  · have a3:b=i:=oM;subst a3;go_wp2;go_ret;refine ⟨u3,r,rfl,?_,s⟩;have:e.take b=e:=zAg (by have:=A.out;simp at this;omega);rw [this] at v;exact v
def aIy (f:Option Addr) (e k j:Nat) (a:List Nat) (b:World) (s:Rd b j 1 f e (a.map uv)) (n:j<=b.heap.size) (r:∀u∈a,u < 18446744073709551616) (g:e<=100000):
 Calls prog 125 #[.slice f e k] b fun l i=>∃c d,l=.returned (.slice c (dE a).length d)/\Made i b.heap.size 5 1 c (dE a).length d ((dE a).map bv)/\Below b.heap.size b i:=by
 refine (aIx f e k a b (s.mono n) r g).mono fun l i ⟨v,t,p,m,o⟩=>?_;have q:(dE a).length=t:=by simpa using m.1
 subst q;obtain ⟨c,d,rfl,g⟩:=aU m;exact ⟨c,d,p,g,o⟩
def wQ (d:Option Addr) (c j e:Nat) (b:List Nat) (a:World) (f:List UInt8) (g:Nat) (o:dE b=f) (p:f.length=g) (s:Rd a e 1 d c (b.map uv)) (n:e<=a.heap.size) (q:∀t∈b,t < 18446744073709551616) (r:c<=100000):
 Calls prog 125 #[.slice d c j] a fun m l=>∃i k,m=.returned (.slice i g k)/\Made l a.heap.size 5 1 i g k (f.map bv)/\Below a.heap.size a l:=by
 subst o;subst p;exact aIy d c j e b a s n q r
def jK (a:Int×Nat):List Value:= [iv a.1,iv (a.2:Int)]
def bU (a:List (Int×Nat)):List Value:=a.flatMap jK
def pF (a:List (Int×Nat)):(bU a).length=a.length*2:=by
 induction a with
 | nil=>rfl
 | cons b a d=>
   have c:bU (b::a)=jK b++bU a:=(by simp [bU]);rw [c,zAi,d,zCf];simp [jK];omega
def iG (a b:List (Int×Nat)):bU (a++b)=bU a++bU b:=by simp [bU,List.flatMap_append]
def iO (b:List (Int×Nat)) (a d:Nat) (g:Int×Nat) (c:b[a]?=some g) (k:d < 2):(bU b)[a*2+d]?=(jK g)[d]?:=by
 induction b generalizing a with
 | nil=>simp at c
 | cons e b j=>
   have f:bU (e::b)=jK e++bU b:=(by simp [bU]);have i:(jK e).length=2:=rfl;rcases a with _ | a
   · simp at c;subst c;rw [f,Nat.zero_mul,zBi,zAn oM]
   simp only [List.getElem?_cons_succ] at c;rw [f,zAo oM,i,show (a+1)*2+d - 2=a*2+d by omega];exact j a c
def aGy:(prog.info? 231).map (fun a=>(a.zero,a.size,a.bytes))=some (some (.agg #[.int .i64 0,.int .i64 0]),2,16):=by kernel_rfl
def aJl (J:Option Addr) (j a2 K:Nat) (e:List Int) (g:World) (F:Rd g K 1 J j (e.map iv)) (ab:K<=g.heap.size) (aB:j<=1099511627776):
 Calls prog 197 #[.slice J j a2] g fun a4 Z=>∃w,a4=.returned w/\Z.ownsRow g.heap.size 231 2 w (bB e).length (bU (bB e))/\Below g.heap.size g Z:=by
 obtain ⟨Y,L,V,W,X⟩:=info_parts aGy;have O:e.length=j:=by simpa using F.1
 obtain ⟨x,a1⟩:=hqq2 O (F.mono ab);clear F O;go_enter func197,ntmps197;go_wp2;go_loopw [3,9] (fun w I wr=>∃c:Nat,c<=j/\I=.int .i64 c/\wr.ownsRow g.heap.size 231 2 w (bB (e.take c)).length (bU (bB (e.take c)))/\Below g.heap.size g wr) (fun _ I _=>j -(intOf I).toNat)
 case atStart=>exact ⟨0,zAp _,rfl,World.ownsRow_nil _ _ _ _,Below.refl _ _⟩
 case round=>
  obtain ⟨c,aA,rfl,f,n⟩:=hrel;have v:=n.size;by_cases ah:c < j
  · obtain ⟨m,G⟩:∃m,e[c]?=some m:=⟨e[c]'(by have:=x.out;omega),zAa (by have:=x.out;omega)⟩;obtain ⟨ap,aF,aG,rfl,aw,H,ac⟩:=(a1.out.below n).get ah;rw [zAf,G] at H;simp at H;subst H;unfold iv at ac;have R:=aBn e c m G;have N:=kT (e.take c);rw [zAj] at N;have D:∀b∈bB (e.take c),b.2<=j:=fun b al=>by have:=oF _ b al;rw [zAj] at this;omega
    generalize bB (e.take c)=r at*
    have y:=lhd R;clear R G;rcases List.eq_nil_or_concat r with rfl |⟨k,⟨b,d⟩,rfl⟩
    · obtain ⟨a0,a3,rfl,ai⟩:=aU f;have ag:([]:List (Int×Nat)).length=0:=rfl;rw [ag] at*
      clear ai D;go_wp2_with (at_builtin;refine bM _ rfl (.tmp 36) (.tmp 39) _ rfl g.heap.size 231 Y _ 2 16 underlying228 L V W X rfl dC (.slice a0 0 a3) 0 _ rfl f rfl rfl (by simp [Value.oneCell']) (by unfold maxLen;omega) oM v ?_;intro an ao E q aj B);have C:=bG n f q v;clear q B;go_roundw
      case rel=>refine ⟨c+1,by omega,by go_num,?_,C⟩;rw [y.out,aBo];exact E
      case measure=>simp [intOf];omega
    · rw [List.concat_eq_append] at*
      obtain ⟨a,s⟩:=eqx k.length;have M:(k++ [(b,d)]).length=a+1:=(by simp [s]);rw [M] at f N;obtain ⟨i,l,u,rfl,ad,ae,aD,ax,_⟩:∃i l u,u3=.slice (some ⟨i,0,none⟩) (a+1) l/\g.heap.size<=i/\wr.heap[i]?=some (.cells u 231 (0,0))/\a+1<=l/\l<=maxLen/\True:=(by rcases f.2 with ⟨_,av⟩|⟨i,l,u,a6,a7,a8,a9,aa,_⟩;omega;exact ⟨i,l,u,a6,a7,a8,a9,aa,trivial⟩);have T:(bU (k++ [(b,d)]))[a*2]?=some (iv b):=(by have:=iO (k++ [(b,d)]) a 0 (b,d) (by rw [zAo oM,s];simp) oM;simpa [jK] using this);have U:(bU (k++ [(b,d)]))[a*2+1]?=some (iv d):=(by have:=iO (k++ [(b,d)]) a 1 (b,d) (by rw [zAo oM,s];simp) oM;simpa [jK] using this);have ar:wr.cell? ⟨i,a*2,none⟩=some (.int .i64 b):=(f.cellAt (a*2) oM).trans T;have au:wr.cell? ⟨i,a*2+1,none⟩=some (.int .i64 (d:Int)):=(f.cellAt (a*2+1) oM).trans U;have aq:=f.frozenAt (a*2+1);have aC:(d:Int)<=1099511627776:=(by have:=D (b,d) (by simp);simp only at this;omega);have aE:((a+1:Nat):Int) - 1=(a:Int):=oM;have t:=lhd s;clear T U s M ae D;by_cases o:b=m
      · have am:(b==m)=true:=(by rw [zCq];exact o);have z:=lhd o;clear o;go_wp2;obtain ⟨ak,az⟩:=f.stored (a*2+1) (.int .i64 ((d:Int)+1));refine ⟨⟨c+1,by omega,by go_num,?_,n.setCell (p:=⟨i,a*2+1,none⟩) ad _⟩,by simp [intOf];omega⟩;rw [y.out,<-z.out,fX];have A:(k++ [(b,d+1)]).length=a+1:=(by simp [t.out]);have a5:(bU (k++ [(b,d)])).set (a*2+1) (.int .i64 ((d:Int)+1))=bU (k++ [(b,d+1)]):=(by rw [iG,iG,List.set_append_right _ _ (by rw [pF,t.out];omega),pF,t.out];congr 1;rw [show a*2+1 - a*2=1 by omega];rfl);rw [A,<-a5];exact ak
      · have am:(b==m)=false:=(by rw [zCb];exact o);have z:=lhd o;clear o;go_wp2_with (at_builtin;refine bM _ rfl (.tmp 36) (.tmp 39) _ rfl g.heap.size 231 Y _ 2 16 underlying228 L V W X rfl dC (.slice (some ⟨i,0,none⟩) (a+1) l) (a+1) _ rfl f rfl rfl (by simp [Value.oneCell']) (by unfold maxLen;omega) oM v ?_;intro an ao E q aj B);have C:=bG n f q v;clear q B;go_roundw
        case rel=>refine ⟨c+1,by omega,by go_num,?_,C⟩;rw [y.out,fE _ _ _ _ z.out,iG];have A:(k++ [(b,d)]++ [(m,1)]).length=a+1+1:=(by simp [t.out]);rw [A];exact E
        case measure=>simp [intOf];omega
  · have af:c=j:=oM;have S:e.take c=e:=zAg (by have:=x.out;omega);have ay:j<=c:=oM;rw [S] at f;clear af S;go_wp2;go_ret;exact ⟨u3,rfl,f,n⟩
def aHH (e:Option Addr) (d m f:Nat) (i:List Int) (a:World) (k:List (Int×Nat)) (j:Nat) (o:bB i=k) (s:k.length=j) (u:Rd a f 1 e d (i.map iv)) (p:f<=a.heap.size) (g:d<=1099511627776):
 Calls prog 197 #[.slice e d m] a fun n l=>∃b c,n=.returned (.slice b j c)/\Made l a.heap.size 231 2 b j c (bU k)/\Below a.heap.size a l:=by
 subst o;subst s;refine (aJl e d m f i a u p g).mono fun n l ⟨v,r,t,q⟩=>?_;obtain ⟨b,c,rfl,g⟩:=aU t;exact ⟨b,c,r,g,q⟩
end
section
def tB (b:List UInt8) (a:Nat) (c:List UInt8):List UInt8:=b.take a++(c++b.drop a)
def aG1 (a:List UInt8) (b:Nat):tB a b []=a:=by
 unfold tB;rw [List.nil_append,zAu]
def uS (a:List UInt8) {k:Nat} (b:List UInt8) (c:k<=a.length):(tB a k b).length=a.length+b.length:=by
 unfold tB;rw [zAi,zAi,zAj,zAw];omega
def aG2 (b:List UInt8) {a:Nat} (c:List UInt8) (d:UInt8) (f:a<=b.length):aM (tB b a c) (a+c.length) d=tB b a (c++ [d]):=by
 have e:(b.take a).length=a:=by rw [zAj];omega
 unfold aM tB;rw [List.take_append,List.drop_append,e,Nat.add_sub_cancel_left,List.take_append_of_le_length nL,List.take_length,List.drop_append_of_le_length nL,List.drop_length,zAg oM,List.drop_of_length_le oM];simp
def aHo (b:List UInt8) {a c:Nat} (e:a+c < b.length):aD (b.take a++b.drop (a+c)) a=b.take a++b.drop (a+(c+1)):=by
 have d:(b.take a).length=a:=by rw [zAj];omega
 unfold aD;rw [List.take_append_of_le_length oM,zAg oM,List.drop_append,d,List.drop_of_length_le oM,show a+1 - a=1 by omega,List.nil_append,List.drop_drop];rfl
def aEu (a:List UInt8) {p j:Nat} (b:p+j<=a.length):(a.take p++a.drop (p+j)).length=a.length - j:=by
 rw [zAi,zAj,zAw];omega
def aGs (c d:List UInt8) {b a:Nat} {e:UInt8} (f:d[a]?=some e) (g:b+a < c.length):(c.take b++(d.take a++c.drop (b+a))).set (b+a) e=c.take b++(d.take (a+1)++c.drop (b+(a+1))):=by
 have j:(c.take b).length=b:=by rw [zAj];omega
 obtain ⟨l,k⟩:=zAc.1 f;have i:(d.take a).length=a:=by rw [zAj];omega
 rw [List.set_append_right _ _ oM,j,Nat.add_sub_cancel_left,List.set_append_right _ _ oM,i,Nat.sub_self,zAx g,List.set_cons_zero,zAv,f];simp [Nat.add_assoc]
def aD8 (a b:List UInt8) {p j:Nat} (d:j<=b.length) (c:p+j<=a.length):(a.take p++(b.take j++a.drop (p+j))).length=a.length:=by
 rw [zAi,zAi,zAj,zAj,zAw];omega
end
end Go.Proofs.YtcfpmjbojoidoaaGreatDoor
