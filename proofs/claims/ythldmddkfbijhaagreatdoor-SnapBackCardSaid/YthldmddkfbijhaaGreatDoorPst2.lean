/- Lemmas of the walk. Conditions: each its own. -/
import Derived.Test.YthldmddkfbijhaaGreatDoorPst0
import Derived.Test.YthldmddkfbijhaaGreatDoorProg
set_option linter.all false
set_option maxRecDepth 100000
set_option maxHeartbeats 1000000
namespace Go.Proofs.YthldmddkfbijhaaGreatDoor
open Tryz
section
open Go.RowKit Go
section
variable {P : Program} {ops : Array Oper} {Q : Exit -> Act -> World -> Prop} {md : Region.Mode}
def bX (c b:Nat):Array Bool:=((List.range b).map fun a=>decide (a < c)).toArray
theorem aBp (b a:Nat) (k:b<=a):(bX b a).toList.count false=a - b:=by
 unfold bX;rw [List.toList_toArray]
 induction a with
 | zero=>simp
 | succ a j=>
   rw [List.range_succ,zAz,zCc];rcases zBe a b with c | c
   · have:b=a+1:=oM;subst this;have d:(List.map (fun i=>decide (i < a+1)) (List.range a)).count false=0:=(by rw [List.count_eq_zero];intro f;obtain ⟨l,g,e⟩:=zAy.1 f;have:=zCj.1 g;simp at e;omega);rw [d];simp
   rw [j c];have:¬(a < b):=oM;simp [this];omega
theorem bW {a:Nat} {f:Array Bool} {b:Act} {g:World} (e:Region.ready md ops f= []) (d:Q .normal b g):wpAny P md ops Q a f b g:=by
 cases a with
 | zero=>exact ⟨e,d⟩
 | succ a=>exact ⟨fun _=>d,fun i c=>by rw [e] at c;cases c⟩
theorem bG {f:Nat} {a:Array Bool} {b:Act} {g:World} {i:Nat} (e:Region.ready md ops a= [i]) (j:wpOp P ops Q i (wpAny P md ops Q f (a.setIfInBounds i true)) b g):wpAny P md ops Q (f+1) a b g:=
 ⟨fun c=>(by rw [e] at c;cases c),fun k d=>(by rw [e] at d;cases List.mem_singleton.1 d;exact j)⟩
theorem vO (g:Nat) (D:World->Prop) (T:Nat->World->World->Prop) (L:Nat->World->Prop) (M:Nat->Value->World->Prop) (E:Act)
 (X:World) (ap:g<=ops.size) (a2:gZ md ops E.tmps.size=true) (ay:((List.range ops.size).all fun e=>decide (e < g)||(List.range g).all fun a=>upB md ops ops.size e a)=true) (ag:D X) (ai:∀a,L a X) (af:∀b i x,b < g->D i->T b i x->D x)
 (ah:∀a b i x,b < g->a≠b->upB md ops ops.size b a=false->L a i->D i->T b i x->L a x)
 (av:∀a b C i x,b < g->a≠b->uN md ops a b=false->upB md ops ops.size a b=false->M a C i->D i->T b i x->M a C x)
 (aw:∀b k,b < g->ops[b]?=some k->cY P ops Q md D T L M E b k)
 (aa:∀p i ad,D i->p.tmps.size=E.tmps.size->p.defers=E.defers->
  (∀v,(∀(e:Nat) (j:Oper),e < g->ops[e]?=some j->j.dst≠some v)->p.tmps.getD v undef=E.tmps.getD v undef)->
  (∀a k,a < g->ops[a]?=some k->∃C,(∀t,k.dst=some t->p.tmps.getD t undef=C)/\M a C i)->wpAny P md ops Q (ops.size - g+ad) (bX g ops.size) p i):
 wpAny P md ops Q ops.size (Array.replicate ops.size false) E X:=by
 have aB:∀f:Array Bool,f.size=ops.size->Region.ready md ops f= []->∀a,a < ops.size->f.getD a false=true:=by
  intro f K a4 a
  induction a using Nat.strongRecOn with
  | _ a a6=>
    intro l;cases z:f.getD a false with
    | true=>rfl
    | false=>
      exfalso;have W:a∈Region.ready md ops f:=(by refine mem_ready.2 ⟨?_,ops[a],zAq l,fun o q G=>?_⟩;have a0:a < f.size:=oM;simp [a0] at z⊢;exact z;have:=(dV a2 (zAq l)).1 o q G;exact a6 o.on this oM);rw [a4] at W;cases W
 have aA:∀A f p i,f.size=ops.size->f.toList.count false<=A->Loose7 md ops D L M E f p i->(∀e,g<=e->f.getD e false=false)->wpAny P md ops Q A f p i:=by
  intro A
  induction A with
  | zero=>
    intro f p i K z c S
    have F:∀a,a < ops.size->f.getD a false=true:=by
        intro a l;have a0:a < f.size:=oM;cases J:f.getD a false with
        | true=>rfl
        | false=>
          exfalso;have:false∈f.toList:=(by simp [a0] at J;exact J ▸(by simp));have:=List.count_pos_iff.2 this;omega
    have ar:g=ops.size:=by
        rcases zBe g ops.size with u | u
        · have y:=F g u;rw [S g nL] at y;cases y
        omega
    have q:f=bX g ops.size:=by
        apply Array.ext
        · simp [bX,K]
        intro a u y;have r:=F a oM;simp [u] at r;simp [bX,r];omega
    have r:=aa p i 0 c.world c.size c.defers (fun v I=>c.old v fun e j d m=>absurd m (I e j (by have:=(zAh.1 d).1;omega) d)) fun a k l n=>c.val a k n (F a (zAh.1 n).1);rw [<-q,<-ar,Nat.sub_self] at r;exact r
  | succ A a6=>
    intro f p i K z c S;by_cases F:∀a,a < g->f.getD a false=true
    · have q:f=bX g ops.size:=by
       apply Array.ext
       · simp [bX,K]
       intro a u y;rcases zBe a g with w | w;have r:=F a w;simp [u] at r;simp [bX,r];exact w;have r:=S a w;simp [u] at r;simp [bX,r];omega
      have aD:ops.size - g<=A+1:=(by rw [q,aBp _ _ ap] at z;exact z);have r:=aa p i (A+1 -(ops.size - g)) c.world c.size c.defers (fun v I=>c.old v fun e j d m=>by
       rcases zBe e g with w | w;exact absurd m (I e j w d)
       · exact S e w) fun a k l n=>c.val a k n (F a l)
      rw [<-q,show ops.size - g+(A+1 -(ops.size - g))=A+1 by omega] at r;exact r
    refine ⟨fun a4=>absurd (fun a l=>aB f K a4 a oM) F,fun b ao=>?_⟩;obtain ⟨a8,k,n,U⟩:=mem_ready.1 ao;have R:b < ops.size:=(zAh.1 n).1;have H:b < f.size:=oM;have B:f.getD b false=false:=(by simp [H] at a8⊢;exact a8);have V:b < g:=(by rcases zBe b g with w | w;exact w;exfalso;refine F fun a l=>?_;have a9:=zBf.1 ay b (zCj.2 R);have ae:¬(b < g):=oM;simp only [ae,decide_false,Bool.false_or] at a9;exact iB c.shut _ b a k n U (zBf.1 a9 a (zCj.2 l)));refine aw b k V n p i c.world (c.pre b k n B) c.size c.defers (fun v I=>c.old v fun e j d m=>?_) (fun o q G j t d m=>by obtain ⟨C,u,y⟩:=c.val o.on j d (U o q G);rw [u t m];exact y) _ fun C x Y aj=>?_
    · rcases vB I d m with rfl |⟨o,q,G,an⟩;exact B
      · cases s:f.getD e false with
        | false=>rfl
        | true=>
          have:=c.shut e j d s o q G;rw [an,B] at this;cases this
    · refine a6 _ _ _ (by simpa using K) ?_ ?_ (fun e s=>by rw [getD_set_ne false (by omega:b≠e)];exact S e s);have J:f.toList[b]'(by simpa using H)=false:=(by simp [H] at B⊢;exact B);rw [Array.toList_setIfInBounds,List.count_set (by simpa using H),J];simp;have W:false∈f.toList:=J ▸ zBj _;have:=List.count_pos_iff.2 W;rw [<-Array.count_toList];omega
      · have ax:(p.put k.dst C).tmps.size=E.tmps.size:=by
          rw [<-c.size];cases k.dst with
          | none=>rfl
          | some t=>simp [Act.put]
        refine ⟨af b i x V c.world Y,fun a j d l=>?_,ax,?_,fun v I=>?_,fun a j d l=>?_,fun e j d s o q G=>?_⟩
        · have ab:a≠b:=fun o=>by rw [o,bO _ _ H] at l;cases l
          rw [getD_set_ne false ab.symm] at l;refine ah a b i x V ab ?_ (c.pre a j d l) c.world Y;cases a5:upB md ops ops.size b a with
          | false=>rfl
          | true=>
            have:=iB c.shut _ b a k n U a5;rw [l] at this;cases this
        · rw [<-c.defers];cases k.dst <;> rfl
        · have aq:k.dst≠some v:=fun m=>by have:=I b k n m;rw [bO _ _ H] at this;cases this
          have au:=c.old v fun e j d m=>by
           have:=I e j d m;cases s:f.getD e false with
           | false=>rfl
           | true=>
             by_cases ac:b=e
             · subst ac;rw [B] at s;cases s
             · rw [getD_set_ne false ac,s] at this;cases this
          rw [<-au];cases a3:k.dst with
          | none=>rfl
          | some t=>
            have Z:t≠v:=fun c=>aq (by rw [a3,c]);simp [Act.put,zAm,Z]
        · rcases eM _ _ _ l with rfl | N
          · rw [n] at d;injection d with d;subst d;refine ⟨C,fun t m=>?_,aj⟩;have am:=((dV a2 n).2 t m).1;rw [m];have:t < p.tmps.size:=(by rw [c.size];exact am);simp [Act.put,zAm,this]
          · by_cases a1:a=b
            · subst a1;rw [B] at N;cases N
            obtain ⟨aC,az,J⟩:=c.val a j d N
            have ak:uN md ops a b=false:=by
              cases z:uN md ops a b with
              | false=>rfl
              | true=>
                exfalso;unfold uN at z;rw [d] at z;obtain ⟨o,q,y⟩:=List.any_eq_true.1 z;simp only [zBd,zCq] at y;have:=c.shut a j d N o (Array.mem_toList_iff.1 q) y.1;rw [y.2,B] at this;cases this
            have al:upB md ops ops.size a b=false:=by
              cases a5:upB md ops ops.size a b with
              | false=>rfl
              | true=>
                have:=iB c.shut _ a b j d (c.shut a j d N) a5;rw [B] at this;cases this
            refine ⟨aC,fun t m=>?_,av _ _ _ _ _ V a1 ak al J c.world Y⟩;rw [<-az t m];cases a3:k.dst with
            | none=>rfl
            | some a7=>
              have Z:a7≠t:=fun c=>a1 (((dV a2 n).2 a7 a3).2 a j d (c ▸ m));simp [Act.put,zAm,Z]
        rcases eM _ _ _ s with rfl | s;rw [n] at d;injection d with d;subst d;have u:=U o q G;by_cases O:e=o.on;rw [<-O];exact bO _ _ H _;rw [getD_set_ne false O];exact u;have u:=c.shut e j d s o q G;by_cases O:b=o.on;rw [<-O];exact bO _ _ H _;rw [getD_set_ne false O];exact u
 refine aA _ _ _ _ (by simp) (by simp) ⟨ag,fun b _ _ _=>ai b,rfl,rfl,fun _ _=>rfl,fun a k n l=>?_,fun e j d s=>?_⟩ (fun e s=>by
  rw [zAm];rcases zBe e ops.size with c | c
  · simp [c]
  · rw [Array.getElem?_eq_none (by simpa using c)];rfl)
 · have R:a < ops.size:=(zAh.1 n).1;simp [R] at l
 · have R:e < ops.size:=(zAh.1 d).1;simp [R] at s
theorem nC (d:Nat) (t:List Nat) (f:World->Prop) (l:Nat->World->World->Prop) (m:Nat->World->Prop) (g:Nat->Value->World->Prop) (i:Act)
 (p:World) (G:(ops.toList.take d).filterMap (·.dst)=t) (M:d<=ops.size) (L:gZ md ops i.tmps.size=true) (V:((List.range ops.size).all fun q=>decide (q < d)||(List.range d).all fun a=>upB md ops ops.size q a)=true) (B:f p) (E:∀a,m a p) (A:∀c b e,c < d->f b->l c b e->f e)
 (D:∀a c b e,c < d->a≠c->upB md ops ops.size c a=false->m a b->f b->l c b e->m a e)
 (R:∀a c o b e,c < d->a≠c->uN md ops a c=false->g a o b->f b->l c b e->g a o e)
 (S:∀c r,c < d->ops[c]?=some r->cY P ops Q md f l m g i c r)
 (H:∀(x:Operand->Value) b u,f b->(∀a n,a < d->((ops[a]?).bind (·.dst))=some n->g a (x (.tmp n)) b)->wpAny P md ops Q (ops.size - d+u) (bX d ops.size) (dI x t i) b):
 wpAny P md ops Q ops.size (Array.replicate ops.size false) i p:=by
 refine vO d f l m g i p M L V B E A D (fun a c o b e j v z _=>R a c o b e j v z) S fun s b u C T F N W=>?_;have j:=H s.eval b u C fun a n I k=>by
  cases w:ops[a]? with
  | none=>rw [w] at k;cases k
  | some r=>
    rw [w] at k;obtain ⟨o,j,v⟩:=W a r I w;have:=j n k;change g a (s.tmps.getD n undef) b;rw [this];exact v
 rw [<-nV s i t T F fun X U=>N X fun q y J O k=>U ?_] at j;exact j;rw [<-G];refine List.mem_filterMap.2 ⟨y,?_,k⟩;have K:(ops.toList.take d)[q]?=some y:=(by rw [zBs,zBx J,Array.getElem?_toList];exact O);exact zAd K
theorem bV {d:Nat} {a:Oper} {b:Act} {e:World} {c:Act->World->Prop} (i:ops[d]?=some a) (g:a.guard=none) (f:Oper.upon P a b c Q ((execOp b.eval a).run P e)):wpOp P ops Q d c b e:=by
 unfold wpOp;simp only [i];have j:Region.wanted a (yielded ops b.tmps)=true:=by unfold Region.wanted;rw [g]
 rw [zBx j];exact .inl f
end
theorem cS {P:Program} {ops:Array Oper} {Q:Exit->Act->World->Prop} {md:Region.Mode} (e:Nat) (r:List Nat) (i:Nat->Prop) (c:Nat) (t:List Nat) (o:World->Prop) (q:Value->World->Prop) (p:List (Value->World->Prop)) (l:Act) (j:World)
 (F:(ops.toList.take e).filterMap (·.dst)=r) (I:e<=ops.size) (H:gZ md ops l.tmps.size=true) (O:((List.range ops.size).all fun d=>decide (d < e)||(List.range e).all fun a=>upB md ops ops.size d a)=true)
 (L:(t.all fun a=>a==c||upB md ops ops.size c a)=true)
 (K:o j) (J:∀b g,o b->Keep i j b->Grow b g->o g) (E:Stb q) (M:∀S∈p,uP i S)
 (N:∀k z,k < e->ops[k]?=some z->cY P ops Q md (Keep i j) (pQ i c) (fun a b=>t.contains a=true->o b) (VsJ c q p) l k z)
 (G:∀(v:Operand->Value) b f,Keep i j b->(∀a u,a < e->((ops[a]?).bind (·.dst))=some u->VsJ c q p a (v (.tmp u)) b)->wpAny P md ops Q (ops.size - e+f) (bX e ops.size) (dI v r l) b):
 wpAny P md ops Q ops.size (Array.replicate ops.size false) l j:=by
 refine nC e r (Keep i j) (pQ i c) (fun a b=>t.contains a=true->o b) (VsJ c q p) l j F I H O (Keep.refl _ _) (fun _ _=>K) (fun k b g _ C d=>C.trans (jN d)) (fun a k b g _ s R m D d x=>?_) (fun a k A b g _ s _ n _ d=>?_) N G;by_cases y:k=c;exfalso;subst y;have w:=zBf.1 L a (by simpa using x);simp only [R,Bool.or_false,zCq] at w;exact s w;exact J b g (m x) D (d.2 y);unfold VsJ at n⊢;by_cases m:a=c;rw [zBx m] at n⊢;exact E A b g n (d.2 fun B=>s (m.trans B.symm));rw [zBw m] at n⊢;exact vV M a A b g n (jN d)
theorem bJ {e:Nat} {c:Nat->Oper->Prop} {d:List Oper} (f:∀a b,(d.take e)[a]?=some b->c (0+a) b):∀a b,a < e->d.toArray[a]?=some b->c a b:=by
 intro a b g i;have:=f a b (by rw [zBs,zBx g];simpa using i);rwa [zBi] at this
section
variable {P : Program} {ops : Array Oper} {Q : Exit -> Act -> World -> Prop} {md : Region.Mode}
def vL (P:Program) (ops:Array Oper) (Q:Exit->Act->World->Prop) (md:Region.Mode) (o:(Operand->Value)->World->Prop) (p:Nat->Value->World->World->Prop) (q:Nat->World->Prop) (k:Nat->(Operand->Value)->Value->World->Prop) (d:Act) (b:Nat) (m:Oper):Prop:=
 ∀a c,o a.eval c->q b c->a.tmps.size=d.tmps.size->a.defers=d.defers->
    (∀f,rJ md ops b f=true->a.tmps.getD f undef=d.tmps.getD f undef)->
    (∀e∈m.after,Region.binds md e=true->∀n l,ops[e.on]?=some n->n.dst=some l->k e.on a.eval (a.tmps.getD l undef) c)->
    ∀j:Act->World->Prop,(∀g i,p b g c i->k b a.eval g i->j (a.put m.dst g) i)->wpOp P ops Q b j a c
theorem cU {q:(Operand->Value)->World->Prop} {r:Nat->Value->World->World->Prop} {s:Nat->World->Prop} {n:Nat->(Operand->Value)->Value->World->Prop} {t:Act} {e:Nat} {b:Oper} (E:ops[e]?=some b) (C:b.guard=none)
 (w:∀a:Operand->Value,∀d,q a d->s e d->(∀f,a (.const f)=f)->(∀u,a (.func u)=.func (.func u) #[] #[])->(∀i,rJ md ops e i=true->a (.tmp i)=t.eval (.tmp i))->
  (∀m k,b.after.toList.any (fun g=>Region.binds md g&&g.on==m)=true->((ops[m]?).bind (·.dst))=some k->n m a (a (.tmp k)) d)->
  ∀c j,c.eval=a->(∀f p,r e f d p->n e a f p->j (c.put b.dst f) p)->Oper.upon P b c j Q ((execOp a b).run P d)):vL P ops Q md q r s n t e b:=by
 intro c d z A L K F H j y;unfold wpOp;simp only [E];have I:Region.wanted b (yielded ops c.tmps)=true:=by unfold Region.wanted;rw [C]
 rw [zBx I];refine .inl (w c.eval d z A (fun _=>rfl) (fun _=>rfl) (fun i G=>F i G) (fun m k D l=>?_) c j rfl y);obtain ⟨g,B,v⟩:=List.any_eq_true.1 D;simp only [zBd,zCq] at v;obtain ⟨x,rfl⟩:=v;cases o:ops[g.on]? with
 | none=>rw [o] at l;cases l
 | some J=>rw [o] at l;exact H g (Array.mem_toList_iff.1 B) x J k o l
theorem aKl {m:Nat} (k:gZ md ops m=true):∀c b d,upB md ops c b d=true->d < b:=by
 intro c
 induction c with
 | zero=>intro b d a;cases a
 | succ c l=>
   intro b d a;unfold upB at a;cases f:ops[b]? with
   | none=>rw [f] at a;cases a
   | some o=>
     rw [f] at a;obtain ⟨i,j,e⟩:=List.any_eq_true.1 a;simp only [zBd,Bool.or_eq_true,zCq] at e;have n:=(dV k f).1 i (Array.mem_toList_iff.1 j) e.1;rcases e.2 with g | g;omega;have:=l _ _ g;omega
theorem aDY {f:Nat} (d:gZ md ops f=true) (c a b:Nat) (g:b<=a) (e:upB md ops c b a=true):False:=by
 have:=aKl d c b a e;omega
structure LooseF (md:Region.Mode) (ops:Array Oper) (C:(Operand->Value)->World->Prop) (U:Nat->World->Prop) (V:Nat->(Operand->Value)->Value->World->Prop) (a0:Act) (listed:Array Bool) (a:Act) (w:World):Prop where
 world:C a.eval w
 pre:∀j o,ops[j]?=some o->listed.getD j false=false->U j w
 size:a.tmps.size=a0.tmps.size
 defers:a.defers=a0.defers
 old:∀t,(∀k p,ops[k]?=some p->p.dst=some t->listed.getD k false=false)->a.tmps.getD t undef=a0.tmps.getD t undef
 val:∀i o,ops[i]?=some o->listed.getD i false=true->∃v,(∀d,o.dst=some d->a.tmps.getD d undef=v)/\V i a.eval v w
 shut:∀k p,ops[k]?=some p->listed.getD k false=true->∀e∈p.after,Region.binds md e=true->listed.getD e.on false=true
theorem aAV (y:(Operand->Value)->World->Prop) (T:Nat->Value->World->World->Prop) (H:Nat->World->Prop) (z:Nat->(Operand->Value)->Value->World->Prop) (u:Act)
 (Y:World) (W:gZ md ops u.tmps.size=true) (ac:y u.eval Y) (ae:∀a,H a Y) (ab:∀b c v w g f t,ops[b]?=some c->(∀l,c.dst=some l->w (.tmp l)=g)->(∀i,c.dst≠some i->w (.tmp i)=v (.tmp i))->y v f->T b g f t->y w t) (ad:∀a b g f t,a≠b->upB md ops ops.size b a=false->H a f->T b g f t->H a t)
 (an:∀b c v w g f,ops[b]?=some c->(∀i,c.dst≠some i->w (.tmp i)=v (.tmp i))->z b v g f->z b w g f)
 (ao:∀a b c v w g a5 f t,ops[b]?=some c->(∀i,c.dst≠some i->w (.tmp i)=v (.tmp i))->a≠b->upB md ops ops.size a b=false->z a v g f->y v f->T b a5 f t->z a w g t)
 (ap:∀b c,ops[b]?=some c->vL P ops Q md y T H z u b c)
 (ai:∀k f,y k.eval f->k.tmps.size=u.tmps.size->k.defers=u.defers->
  (∀i,(∀(r:Nat) (n:Oper),ops[r]?=some n->n.dst≠some i)->k.tmps.getD i undef=u.tmps.getD i undef)->
  (∀a c,ops[a]?=some c->∃g,(∀l,c.dst=some l->k.tmps.getD l undef=g)/\z a k.eval g f)->Q .normal k f):
 wpAny P md ops Q ops.size (Array.replicate ops.size false) u Y:=by
 have a7:∀d k f,d.size=ops.size->(∀a,a < ops.size->d.getD a false=true)->LooseF md ops y H z u d k f->Q .normal k f:=by intro d k f F U e;refine ai k f e.world e.size e.defers (fun i E=>e.old i fun r n j o=>absurd o (E r n j)) fun a c m=>e.val a c m (U a (zAh.1 m).1)
 have aw:∀d:Array Bool,d.size=ops.size->Region.ready md ops d= []->∀a,a < ops.size->d.getD a false=true:=by
  intro d F S a
  induction a using Nat.strongRecOn with
  | _ a a4=>
    intro q;cases I:d.getD a false with
    | true=>rfl
    | false=>
      exfalso;have X:a∈Region.ready md ops d:=(by refine mem_ready.2 ⟨?_,ops[a],zAq q,fun p C B=>?_⟩;have N:a < d.size:=oM;simp [N] at I⊢;exact I;have:=(dV W (zAq q)).1 p C B;exact a4 p.on this oM);rw [S] at X;cases X
 have av:∀K d k f,d.size=ops.size->d.toList.count false<=K->LooseF md ops y H z u d k f->wpAny P md ops Q K d k f:=by
  intro K
  induction K with
  | zero=>
    intro d k f F I e
    have U:∀a,a < ops.size->d.getD a false=true:=by
        intro a q;have N:a < d.size:=oM;cases G:d.getD a false with
        | true=>rfl
        | false=>
          exfalso;have:false∈d.toList:=(by simp [N] at G;exact G ▸(by simp));have:=List.count_pos_iff.2 this;omega
    refine ⟨?_,a7 d k f F U e⟩;cases S:Region.ready md ops d with
    | nil=>rfl
    | cons a ax=>
      exfalso;have q:a∈Region.ready md ops d:=(by rw [S];exact List.mem_cons_self ..);obtain ⟨L,c,m,_⟩:=mem_ready.1 q;have J:a < ops.size:=(zAh.1 m).1;have x:=U a J;have N:a < d.size:=oM;simp [N] at L x;rw [L] at x;cases x
  | succ K a4=>
    intro d k f F I e;refine ⟨fun S=>a7 d k f F (aw d F S) e,fun b ak=>?_⟩;obtain ⟨L,c,m,a0⟩:=mem_ready.1 ak;have J:b < ops.size:=(zAh.1 m).1;have D:b < d.size:=oM;have A:d.getD b false=false:=by simp [D] at L⊢;exact L
    have a3:∀g i,c.dst≠some i->(k.put c.dst g).eval (.tmp i)=k.eval (.tmp i):=by
        intro g i E;cases R:c.dst with
        | none=>rfl
        | some l=>
          have M:l≠i:=fun p=>E (by rw [R,p]);simp [Act.eval,Act.put,zAm,M]
    have ah:∀g l,c.dst=some l->(k.put c.dst g).eval (.tmp l)=g:=(by intro g l o;have a1:=((dV W m).2 l o).1;have:l < k.tmps.size:=(by rw [e.size];exact a1);simp [Act.eval,Act.put,zAm,o,this]);refine ap b c m k f e.world (e.pre b c m A) e.size e.defers (fun i E=>e.old i fun r n j o=>?_) (fun p C B n l j o=>by obtain ⟨g,x,aa⟩:=e.val p.on n j (a0 p C B);rw [x l o];exact aa) _ fun g t Z af=>?_
    · rcases vB E j o with rfl |⟨p,C,B,aj⟩;exact A
      · cases s:d.getD r false with
        | false=>rfl
        | true=>
          have:=e.shut r n j s p C B;rw [aj,A] at this;cases this
    · refine a4 _ _ _ (by simpa using F) ?_ ?_;have G:d.toList[b]'(by simpa using D)=false:=(by simp [D] at A⊢;exact A);rw [Array.toList_setIfInBounds,List.count_set (by simpa using D),G];simp;have X:false∈d.toList:=G ▸ zBj _;have:=List.count_pos_iff.2 X;rw [<-Array.count_toList];omega
      · have aq:(k.put c.dst g).tmps.size=u.tmps.size:=by
          rw [<-e.size];cases c.dst with
          | none=>rfl
          | some l=>simp [Act.put]
        refine ⟨ab b c _ _ g f t m (ah g) (a3 g) e.world Z,fun a n j q=>?_,aq,?_,fun i E=>?_,fun a n j q=>?_,fun r n j s p C B=>?_⟩
        · have a8:a≠b:=fun p=>by rw [p,bO _ _ D] at q;cases q
          rw [getD_set_ne false a8.symm] at q;refine ad a b g f t a8 ?_ (e.pre a n j q) Z;cases au:upB md ops ops.size b a with
          | false=>rfl
          | true=>
            have:=iB e.shut _ b a c m a0 au;rw [q] at this;cases this
        · rw [<-e.defers];cases c.dst <;> rfl
        · have al:c.dst≠some i:=fun o=>by have:=E b c m o;rw [bO _ _ D] at this;cases this
          have am:=e.old i fun r n j o=>by
           have:=E r n j o;cases s:d.getD r false with
           | false=>rfl
           | true=>
             by_cases a9:b=r
             · subst a9;rw [A] at s;cases s
             · rw [getD_set_ne false a9,s] at this;cases this
          rw [<-am];cases R:c.dst with
          | none=>rfl
          | some l=>
            have M:l≠i:=fun e=>al (by rw [R,e]);simp [Act.put,zAm,M]
        · rcases eM _ _ _ q with rfl | V
          · rw [m] at j;injection j with j;subst j;refine ⟨g,fun l o=>?_,an _ _ _ _ _ _ m (a3 g) af⟩;have a1:=((dV W m).2 l o).1;rw [o];have:l < k.tmps.size:=(by rw [e.size];exact a1);simp [Act.put,zAm,this]
          · by_cases a2:a=b
            · subst a2;rw [A] at V;cases V
            obtain ⟨a5,ar,G⟩:=e.val a n j V
            have ag:upB md ops ops.size a b=false:=by
              cases I:upB md ops ops.size a b with
              | false=>rfl
              | true=>
                exfalso;have:=iB e.shut _ a b n j (e.shut a n j V) I;rw [A] at this;cases this
            refine ⟨a5,fun l o=>?_,ao _ _ _ _ _ _ _ _ _ m (a3 g) a2 ag G e.world Z⟩;rw [<-ar l o];cases R:c.dst with
            | none=>rfl
            | some a6=>
              have M:a6≠l:=fun e=>a2 (((dV W m).2 a6 R).2 a n j (e ▸ o));simp [Act.put,zAm,M]
        rcases eM _ _ _ s with rfl | s;rw [m] at j;injection j with j;subst j;have x:=a0 p C B;by_cases O:r=p.on;rw [<-O];exact bO _ _ D _;rw [getD_set_ne false O];exact x;have x:=e.shut r n j s p C B;by_cases O:b=p.on;rw [<-O];exact bO _ _ D _;rw [getD_set_ne false O];exact x
 refine av _ _ _ _ (by simp) (by simp) ⟨ac,fun b _ _ _=>ae b,rfl,rfl,fun _ _=>rfl,fun a c m q=>?_,fun r n j s=>?_⟩
 · have J:a < ops.size:=(zAh.1 m).1;simp [J] at q
 · have J:r < ops.size:=(zAh.1 j).1;simp [J] at s
theorem aAU (u:List Nat) (m:(Operand->Value)->World->Prop) (p:Nat->Value->World->World->Prop) (q:Nat->World->Prop) (i:Nat->(Operand->Value)->Value->World->Prop) (n:Act) (r:World)
 (E:ops.toList.filterMap (·.dst)=u)
 (H:gZ md ops n.tmps.size=true) (z:m n.eval r) (C:∀a,q a r) (y:∀c f d j e b l,ops[c]?=some f->(∀k,f.dst=some k->j (.tmp k)=e)->(∀g,f.dst≠some g->j (.tmp g)=d (.tmp g))->m d b->p c e b l->m j l) (B:∀a c e b l,a≠c->upB md ops ops.size c a=false->q a b->p c e b l->q a l)
 (J:∀c f d j e b,ops[c]?=some f->(∀g,f.dst≠some g->j (.tmp g)=d (.tmp g))->i c d e b->i c j e b)
 (L:∀a c f d j e S b l,ops[c]?=some f->(∀g,f.dst≠some g->j (.tmp g)=d (.tmp g))->a≠c->upB md ops ops.size a c=false->i a d e b->m d b->p c S b l->i a j e l)
 (M:∀c f,ops[c]?=some f->vL P ops Q md m p q i n c f)
 (F:∀(d:Operand->Value) b,m d b->(∀a k,((ops[a]?).bind (·.dst))=some k->i a d (d (.tmp k)) b)->(∀a,a < ops.size->∃e,i a d e b)->Q .normal (dI d u n) b):
 wpAny P md ops Q ops.size (Array.replicate ops.size false) n r:=by
 refine aAV m p q i n r H z C y B J L M fun s b A N D I x=>?_;have t:=F s.eval b A (fun a k o=>by
  cases w:ops[a]? with
  | none=>rw [w] at o;cases o
  | some f=>
    rw [w] at o;obtain ⟨e,t,v⟩:=x a f w;have:=t k o;change i a s.eval (s.tmps.getD k undef) b;rw [this];exact v) (fun a G=>by
  obtain ⟨e,_,v⟩:=x a _ (zAq G);exact ⟨e,v⟩)
 rw [<-nV s n u N D fun g O=>I g fun T R K o=>O ?_] at t;exact t;rw [<-E];exact List.mem_filterMap.2 ⟨R,Array.mem_toList_iff.2 (Array.mem_of_getElem? K),o⟩
end
def blk?:Value->Option Nat
 | .pointer (some a)=>some a.block
 | .slice (some a) _ _=>some a.block
 | _=>none
def aDU (d:List Nat) (c:Operand->Value) (f:World):Prop:=
 (∀b∈d,∀a,blk? (c (.tmp b))=some a->a < f.heap.size)/\∀b∈d,∀e∈d,b≠e->∀a,blk? (c (.tmp b))=some a->blk? (c (.tmp e))≠some a
theorem xS {d:List Nat} {c:Operand->Value} {j:World} (g:(d.all fun a=>(blk? (c (.tmp a))).isNone)=true):aDU d c j:=by
 have i:∀a∈d,blk? (c (.tmp a))=none:=fun a b=>by simpa using zBf.1 g a b
 refine ⟨fun a b f e=>?_,fun a b _ _ _ f e=>?_⟩<;>(rw [i a b] at e;cases e)
def aJd (b:Value) (c d:World):Prop:=∀a,blk? b=some a->c.heap.size<=a/\a < d.heap.size
def aAQ (g:List Nat) (ops:Array Oper) (e:World->World->Prop) (d c:Nat) (i:Value) (a b:World):Prop:=a.heap.size<=b.heap.size/\(c=d->e a b)/\(c≠d->Grow a b)/\∀f∈g,((ops[c]?).bind (·.dst))=some f->aJd i a b
theorem dO {d:List Nat} {ops:Array Oper} {i:World->World->Prop} {c b:Nat} {o:Value} {f g:World} (e:Grow f g) (n:(b==c)=false) (m:(d.all fun a=>((ops[b]?).bind (·.dst))!= some a)=true):aAQ d ops i c b o f g:=
 ⟨e.size,fun j=>by simp [j] at n,fun _=>e,fun a k l=>by have:=zBf.1 m a k;simp [l] at this⟩
theorem jM {j:List Nat} {ops:Array Oper} {g:World->World->Prop} {c e:Nat} {f:Value} {a b:World} (d:Grow a b) (l:(e==c)=false) (k:aJd f a b):aAQ j ops g c e f a b:=
 ⟨d.size,fun i=>by simp [i] at l,fun _=>d,fun _ _ _=>k⟩
theorem aIo {f:List Nat} {ops:Array Oper} {e:World->World->Prop} {a:Nat} {n:Value} {c d:World} (i:e c d) (m:c.heap.size<=d.heap.size) (l:(f.all fun b=>((ops[a]?).bind (·.dst))!= some b)=true):aAQ f ops e a a n c d:=
 ⟨m,fun _=>i,fun g=>absurd rfl g,fun b j k=>by have:=zBf.1 l b j;simp [k] at this⟩
abbrev KP:=List Nat×((Operand->Value)->Value->World->Prop)
def k0 (a:Value->World->Prop):KP:=([],fun _ b c=>a b c)
def kEq (a:Nat):KP:=([a],fun b c _=>c=b (.tmp a))
def kLk (b c:Nat) (d:Value->Value->World->Prop):KP:=([b,c],fun a _ e=>d (a (.tmp b)) (a (.tmp c)) e)
def aDO (a:KP):Prop:=∀b c:Operand->Value,(∀d∈a.1,c (.tmp d)=b (.tmp d))->∀e f,a.2 b e f->a.2 c e f
theorem aEO (b:Value->World->Prop):aDO (k0 b):=fun _ _ _ _ _ a=>a
theorem aFI (a:Nat):aDO (kEq a):=fun f b d e g c=>by
 show e=b (.tmp a);rw [d a (by simp [kEq])];exact c
theorem aJR (a b:Nat) (e:Value->Value->World->Prop):aDO (kLk a b e):=fun i c d j g f=>by
 show e (c (.tmp a)) (c (.tmp b)) g;rw [d a (by simp [kLk]),d b (by simp [kLk])];exact f
def aE2 (f:World->World->Prop) (b:KP):Prop:=∀a c d e,b.2 a c d->f d e->b.2 a c e
theorem jD {e:World->World->Prop} {d:Value->World->Prop} (f:∀a b c,d a b->e b c->d a c):aE2 e (k0 d):=fun _ a b c g i=>f a b c g i
theorem uV (a:World->World->Prop) (b:Value):aE2 a (k0 (is b)):=fun _ _ _ _ c _=>c
theorem aCk (a:World->World->Prop):aE2 a (k0 cX):=fun _ _ _ _ _ _=>trivial
theorem qX (a:World->World->Prop) (c:Nat):aE2 a (kEq c):=fun _ _ _ _ b _=>b
theorem qW {d:World->World->Prop} {k l:Nat} {c:Value->Value->World->Prop} (g:∀e f a b,c e f a->d a b->c e f b):aE2 d (kLk k l c):=fun _ _ a b i j=>g _ _ a b i j
def VsQ (c:List KP) (b:Nat) (a:Operand->Value) (d:Value) (e:World):Prop:=(c.getD b (k0 cX)).2 a d e
theorem aFq (a:List KP) (b:Nat):a.getD b (k0 cX)∈a∨a.getD b (k0 cX)=k0 cX:=by
 rw [zAb];cases c:a[b]? with
 | none=>exact .inr rfl
 | some d=>exact .inl (zAd c)
theorem vP {P:Program} {ops:Array Oper} {Q:Exit->Act->World->Prop} {md:Region.Mode} (N s:List Nat) (B:Nat) (C:World->World->Prop) (A:World->Prop) (g:List KP) (D:Act) (J:World)
 (r:ops.toList.filterMap (·.dst)=N) (U:gZ md ops D.tmps.size=true)
 (af:((List.range ops.size).all fun b=>(List.range ops.size).all fun c=>match ops[c]? with
  | some e=>upB md ops ops.size b c||(g.getD b (k0 cX)).1.all fun j=>e.dst != some j
  | none=>true)=true)
 (a4:A J) (a2:aDU s D.eval J) (a3:∀a k,A a->(Grow a k∨C a k)->A k)
 (aa:∀G∈g,aDO G) (M:∀G∈g,aE2 Grow G) (ai:∀G∈g.eraseIdx B,aE2 C G)
 (aj:∀c e,ops[c]?=some e->vL P ops Q md (fun d a=>A a/\aDU s d a) (aAQ s ops C B) (fun _ _=>True) (VsQ g) D c e)
 (ac:∀(d:Operand->Value) a,A a->aDU s d a->(∀b E,((ops[b]?).bind (·.dst))=some E->VsQ g b d (d (.tmp E)) a)->(∀b,b < ops.size->∃f,VsQ g b d f a)->Q .normal (dI d N D) a):
 wpAny P md ops Q ops.size (Array.replicate ops.size false) D J:=by
 have a8:∀ {c f a k},aAQ s ops C B c f a k->Grow a k∨C a k:=fun {c f a k} p=>by by_cases v:c=B;exact .inr (p.2.1 v);exact .inl (p.2.2.1 v)
 have ah:∀c,upB md ops ops.size c c=false:=by
  intro c;cases S:upB md ops ops.size c c with
  | false=>rfl
  | true=>exact (aDY U _ _ _ nL S).elim
 have ab:∀b,aDO (g.getD b (k0 cX)):=fun b=>by rcases aFq g b with p | p;exact aa _ p;rw [p];exact aEO _
 have T:∀b c e (d o:Operand->Value) f a,b < ops.size->ops[c]?=some e->(∀j,e.dst≠some j->o (.tmp j)=d (.tmp j))->upB md ops ops.size b c=false->VsQ g b d f a->VsQ g b o f a:=by intro b c e d o f a y n q R z;have l:=zBf.1 (zBf.1 af b (by simpa using y)) c (by simpa using (zAh.1 n).1);simp only [n,R,Bool.false_or] at l;exact ab b d o (fun j I=>q j (by have:=zBf.1 l j I;simpa using this)) f a z
 refine aAU N (fun d a=>A a/\aDU s d a) (aAQ s ops C B) (fun _ _=>True) (fun b d f a=>b < ops.size->VsQ g b d f a) D J r U ⟨a4,a2⟩ (fun _=>trivial) (fun c e d o f a k n x q p F=>⟨a3 a k p.1 (a8 F),?_⟩) (fun _ _ _ _ _ _ _ _ _=>trivial) (fun c e d o f a n q z v=>T c c e d o f a v n q (ah c) (z v)) (fun b c e d o f am a k n q ad R z S F y=>?_) (fun c e n X a l m Y Z a0 a1 W a5=>aj c e n X a l m Y Z a0 (fun K q a9 ak E V x=>a1 K q a9 ak E V x (zAh.1 V).1) W (fun f k a6 a7=>a5 f k a6 fun _=>a7)) (fun d a p l m=>ac d a p.1 p.2 (fun b E x=>l b E x (by
  cases n:ops[b]? with
  | none=>rw [n] at x;cases x
  | some e=>exact (zAh.1 n).1)) (fun b y=>(m b y).imp fun f z=>z y))
 · have al:=F.1;obtain ⟨l,m⟩:=p.2;have O:∀i∈s,e.dst=some i->aJd (o (.tmp i)) a k:=fun i w r=>by rw [x i r];exact F.2.2.2 i w (by rw [n];exact r)
   refine ⟨fun i w t u=>?_,fun i w j I M t u H=>?_⟩;by_cases r:e.dst=some i;exact (O i w r t u).2;rw [q i r] at u;have:=l i w t u;omega;by_cases r:e.dst=some i;have L:e.dst≠some j:=fun K=>M (by rw [r] at K;injection K);rw [q j L] at H;have:=(O i w r t u).1;have:=l j I t H;omega;rw [q i r] at u;by_cases L:e.dst=some j;have:=(O j I L t H).1;have:=l i w t u;omega;rw [q j L] at H;exact m i w j I M t u H
 · have l:=T b c e d o f a y n q R (z y);unfold VsQ at l⊢;by_cases v:c=B
   · subst v
     have ag:g.getD b (k0 cX)∈g.eraseIdx c∨g.getD b (k0 cX)=k0 cX:=by
        rw [zAb];cases ae:g[b]? with
        | none=>exact .inr rfl
        | some G=>exact .inl (List.mem_eraseIdx_iff_getElem?.2 ⟨b,ad,ae⟩)
     rcases ag with m | m;exact ai _ m o f a k l (F.2.1 rfl)
     · rw [m];trivial
   · rcases aFq g b with m | m;exact M _ m o f a k l (F.2.2.1 v)
     · rw [m];trivial
end
section
open Go.RowKit
def aGZ (e:World->World->Prop) (a:Value->World->Prop):Prop:=∀b c d,a b c->e c d->a b d
theorem iI (a:World->World->Prop) (b:Value):aGZ a (is b):=fun _ _ _ c _=>c
theorem jS (a:World->World->Prop):aGZ a cX:=fun _ _ _ _ _=>trivial
theorem cV {i:World->World->Prop} {c:List (Value->World->Prop)} (j:∀g∈c,aGZ i g):∀b d e f,Vs c b d e->i e f->Vs c b d f:=by
 intro b d e f a k;unfold Vs at a⊢;rw [zAb] at a⊢;rcases hl:c[b]? with _ | g;rw [hl] at a;exact a;rw [hl] at a;exact j g (zAd hl) d e f a k
end
section
def aP {α:Type} (b:List α) (a:Nat) (c:α):List α:=b.take a++c::b.drop a
def aG {α:Type} (b:List α) (a:Nat):List α:=b.take a++b.drop (a+1)
theorem eF {α:Type} (a:List α) {b:Nat} (c:α) (d:b<=a.length):(aP a b c).length=a.length+1:=by
 unfold aP;rw [zAi,zAj,zCg,zAw];omega
theorem cW {α:Type} (a:List α) {k:Nat} (b:k < a.length):(aG a k).length+1=a.length:=by
 unfold aG;rw [zAi,zAj,zAw];omega
theorem iT {α:Type} (c:List α) {a:Nat} (g:α) (j:a<=c.length) (b:Nat):(aP c a g)[b]?=if b < a then c[b]? else if b=a then some g else c[b - 1]?:=by
 unfold aP;have i:(c.take a).length=a:=by rw [zAj];omega
 by_cases e:b < a
 · rw [zBx e,zAn oM,zBs,zBx e]
 · rw [zBw e,zAo oM,i];by_cases f:b=a;subst f;rw [zBx rfl,Nat.sub_self];rfl
   · rw [zBw f];obtain ⟨d,rfl⟩:∃d,b=a+d+1:=⟨b - a - 1,by omega⟩;rw [show a+d+1 - a=d+1 by omega,zCf,zBt];congr 1
theorem dW {α:Type} (c:List α) {a:Nat} (f:a < c.length) (b:Nat):(aG c a)[b]?=if b < a then c[b]? else c[b+1]?:=by
 unfold aG;have e:(c.take a).length=a:=by rw [zAj];omega
 by_cases d:b < a
 · rw [zBx d,zAn oM,zBs,zBx d]
 rw [zBw d,zAo oM,e,zBt];congr 1;omega
theorem nP {α β:Type} (a:α->β) (c:List α) (b:Nat) (d:α):(aP c b d).map a=aP (c.map a) b (a d):=by simp [aP]
theorem rY {α β:Type} (a:α->β) (c:List α) (b:Nat):(aG c b).map a=aG (c.map a) b:=by simp [aG]
theorem eX {α:Type} (a:List α) (c:Nat) (b:α):(aP a c b).Perm (b::a):=by
 unfold aP;exact (List.perm_middle).trans (by rw [zAu])
theorem eJ {α:Type} {a:List α} {b:Nat} {c:α} (e:a[b]?=some c):(c::aG a b).Perm a:=by
 obtain ⟨f,g⟩:=zAc.1 e;have d:a=a.take b++c::a.drop (b+1):=by rw [<-g,<-zAx f,zAu]
 unfold aG;exact (List.perm_middle.symm).trans (by rw [<-d])
theorem oS (b:List Bool) {c:Nat} (d:Bool) (e:c<=b.length) (a:Nat):(aP b c d).getD a false=if a < c then b.getD a false else if a=c then d else b.getD (a - 1) false:=by
 rw [zAb,iT b d e];split
 · rw [zAb]
 · split;rfl
   · rw [zAb]
theorem oX (a:List Bool) {c:Nat} (d:c < a.length) (b:Nat):(aG a c).getD b false=if b < c then a.getD b false else a.getD (b+1) false:=by
 rw [zAb,dW a d];split
 · rw [zAb]
 · rw [zAb]
theorem aFW (d:List Bool) (c b:Nat):(d.take c).getD b false=(decide (b < c)&&d.getD b false):=by
 rw [zAb,zBs];by_cases a:b < c
 · rw [zBx a,zAb];simp [a]
 · rw [zBw a];simp [a]
theorem aGM (b:List Bool) (c a:Nat):(b.drop c).getD a false=b.getD (c+a) false:=by
 rw [zAb,zBt,zAb]
def lC:Nat->Nat->List UInt8
 | 0,_=> []
 | f+1,n=>if n=0 then [] else lC f (n / 128)++ [UInt8.ofNat (n % 128+128)]
def cB (a:Nat):List UInt8:=lC 10 (a / 128)++ [UInt8.ofNat (a % 128)]
def dP (a:List Nat):List UInt8:=a.flatMap cB
def eH:List UInt8->Bool->Nat->Nat->Option (Nat×Nat)
 | [],_,_,_=>none
 | c::r,first,acc,pos=>
   if (first&&c.toNat==128)||decide (144115188075855871 < acc) then none
   else if c.toNat < 128 then some (acc*128+c.toNat % 128,pos+1) else eH r false (acc*128+c.toNat % 128) (pos+1)
def eG (b:List UInt8) (a:Int):Nat×Int×Int:=
 if a < 0∨(b.length:Int) < a then (0,a,2)
 else match eH (b.drop a.toNat) true 0 a.toNat with
    | some (c,d)=>(c,d,0)
    | none=>(0,a,4)
def aBo:Nat->Nat->List UInt8
 | 0,_=> []
 | k+1,n=>aBo k n++ [UInt8.ofNat (n / 256 ^ k % 256)]
def rW (a:Nat):List UInt8:=aBo 4 a
def ofN (b:List UInt8) (a:Nat):Nat->Nat
 | 0=>0
 | k+1=>ofN b a k+(b[a+k]?.getD 0).toNat*256 ^ k
def ofB (b:List UInt8) (a:Int):Nat×Int:=
 if a < 0∨(b.length:Int) < a then (0,2) else if (b.length:Int) - a < 4 then (0,4) else (ofN b a.toNat 4,0)
theorem aKy (c:List UInt8) (b:Nat) (a:Nat):ofN c b a < 256 ^ a:=by
 induction a with
 | zero=>simp [ofN]
 | succ a e=>
   have:(c[b+a]?.getD 0).toNat < 256:=UInt8.toNat_lt _;simp only [ofN,Nat.pow_succ];have d:(c[b+a]?.getD 0).toNat*256 ^ a<=255*256 ^ a:=Nat.mul_le_mul_right _ oM;omega
theorem mG (a:UInt8) (d:List UInt8) (first:Bool) (b c:Nat):eH (a::d) first b c=
 if (first&&a.toNat==128)||decide (144115188075855871 < b) then none
 else if a.toNat < 128 then some (b*128+a.toNat % 128,c+1) else eH d false (b*128+a.toNat % 128) (c+1):=by conv=>lhs;rw [eH]
theorem tC (a:Nat):lC a 0= []:=by cases a <;> simp [lC]
theorem aGp (b:Nat):∀a,a < 128 ^ b->lC (b+1) a=lC b a:=by
 induction b with
 | zero=>intro a c;have:a=0:=by simpa using c
         subst this;simp [lC]
 | succ b e=>
   intro a c;by_cases d:a=0
   · subst d;simp [tC]
   · rw [lC,zBw d,e (a / 128) (by rw [Nat.div_lt_iff_lt_mul oM];rw [Nat.pow_succ] at c;exact c)]
     conv=>rhs;rw [lC,zBw d]
theorem aGo (a:Nat) (b:a≠0) (c:a < 128 ^ 10):lC 10 a=lC 10 (a / 128)++ [UInt8.ofNat (a % 128+128)]:=by
 rw [aGp 9 (a / 128) oM]
 conv=>lhs;rw [lC,zBw b]
theorem aCH (a:Nat):∀b,(lC a b).length<=a:=by
 induction a with
 | zero=>intro b;simp [lC]
 | succ a c=>
   intro b;unfold lC;split
   · simp
   have:=c (b / 128);simp;omega
theorem dH (a:Nat):(cB a).length<=11:=by
 have:=aCH 10 (a / 128);simp [cB];omega
theorem xK (a:List Nat):(dP a).length<=11*a.length:=by
 induction a with
 | nil=>simp [dP]
 | cons b a c=>
   have:=dH b;simp [dP] at c⊢;omega
theorem aCZ (b:List Nat) (a:Nat) (c:Nat) (d:b[a]?=some c):dP (b.take (a+1))=dP (b.take a)++cB c:=by
 have e:a < b.length:=(zAc.1 d).1;rw [List.take_succ_eq_append_getElem e];have:b[a]=c:=(zAc.1 d).2;rw [this];simp [dP,List.flatMap_append]
theorem aJK (b c a:Nat) (f:c+1<=a) (e:a=0∨1<=b / 2 ^(7*a)):b / 2 ^(7*(c+1))≠0:=by
 have g:1<=b / 2 ^(7*a):=by rcases e with d | d <;> omega
 have i:b / 2 ^(7*a)<=b / 2 ^(7*(c+1)):=Nat.div_le_div_left (zBp oM oM) (Nat.pow_pos oM);omega
theorem aKB (a b:Nat) (c:a < 18446744073709551616):a / 2 ^(7*(b+1)) < 128 ^ 9:=by
 have d:a / 2 ^(7*(b+1))<=a / 2 ^ 7:=Nat.div_le_div_left (zBp oM oM) (Nat.pow_pos oM);omega
theorem aKM (b a:Nat):b / 2 ^(7*(a+1))=b / 2 ^(7*a)/ 128:=by
 rw [Nat.div_div_eq_div_mul,show 7*(a+1)=7*a+7 by omega,Nat.pow_add]
theorem aGa (b a:Nat) (e:b < 18446744073709551616) (f:a<=9) (d:128<=b / 2 ^(7*a)):a+1<=9:=by
 by_cases c:a=9;subst c;rw [Nat.le_div_iff_mul_le dC] at d;omega;omega
theorem qG (a:Nat):dP [a]=cB a:=by simp [dP]
theorem aGE (b:Nat):∀a e c,a < 128 ^ b->a < 144115188075855872->eH (lC b a++e) true 0 c=eH e (a==0) a (c+(lC b a).length):=by
 induction b with
 | zero=>intro a e c d _;have:a=0:=by simpa using d
         subst this;simp [lC]
 | succ b k=>
   intro a e c d l;by_cases f:a=0
   · subst f;simp [tC]
   · rw [lC,zBw f,zCo,k (a / 128) _ c (by rw [Nat.div_lt_iff_lt_mul oM];rw [Nat.pow_succ] at d;exact d) oM];rw [List.singleton_append,mG];have j:(UInt8.ofNat (a % 128+128)).toNat=a % 128+128:=(by simp [UInt8.toNat_ofNat'];omega);rw [j,zBw,zBw oM]
     · have i:a / 128*128+(a % 128+128)% 128=a:=oM;rw [i,zAi,List.length_singleton,Nat.add_assoc];have:(a==0)=false:=(by simp [f]);rw [this]
     by_cases g:a / 128=0;simp [g];omega;simp [g];omega
theorem oT (a:Nat) (e:a < 18446744073709551616) (d:List UInt8) (b:Nat):eH (cB a++d) true 0 b=some (a,b+(cB a).length):=by
 unfold cB;rw [zCo,aGE 10 (a / 128) _ b oM oM,List.singleton_append,mG];have c:(UInt8.ofNat (a % 128)).toNat=a % 128:=by simp [UInt8.toNat_ofNat'];omega
 rw [c,zBw,zBx oM,zAi,List.length_singleton];congr 2;omega;simp;omega
theorem aID (a:Nat):0 < (cB a).length:=by simp [cB]
theorem aIw (b d:List UInt8) (a:Nat) (c:a < 18446744073709551616):eG (b++(cB a++d)) (b.length:Int)=(a,((b.length+(cB a).length:Nat):Int),0):=by
 rw [eG,zBw (by simp;omega)];simp only [zBr,List.drop_left];rw [oT a c]
def dA (a:List (Int×Nat)) (b:Int):List (Int×Nat):=
 match a.getLast? with
 | some (c,d)=>if c=b then a.dropLast++ [(c,d+1)] else a++ [(b,1)]
 | none=> [(b,1)]
def bN (a:List Int):List (Int×Nat):=a.foldl dA []
theorem aCo (b:List Int) (a:Nat) (d:Int) (c:b[a]?=some d):bN (b.take (a+1))=dA (bN (b.take a)) d:=by
 have e:a < b.length:=(zAc.1 c).1;rw [List.take_succ_eq_append_getElem e,(zAc.1 c).2];simp [bN,List.foldl_append]
theorem gN (c:List (Int×Nat)) (a:Int) (b:Nat):dA (c++ [(a,b)]) a=c++ [(a,b+1)]:=by simp [dA]
theorem fQ (d:List (Int×Nat)) (b a:Int) (c:Nat) (e:b≠a):dA (d++ [(b,c)]) a=d++ [(b,c)]++ [(a,1)]:=by simp [dA,e]
theorem aCq (a:Int):dA [] a= [(a,1)]:=by simp [dA]
theorem aCr (a:List (Int×Nat)) (b:Int):(dA a b).length<=a.length+1/\a.length<=(dA a b).length:=by
 rcases List.eq_nil_or_concat a with rfl |⟨f,⟨d,e⟩,rfl⟩
 · simp [dA]
 · rw [List.concat_eq_append];by_cases c:d=b
   · subst c;rw [gN];simp
   · rw [fQ _ _ _ _ c];simp
theorem lT (a:List Int):(bN a).length<=a.length:=by
 have e:∀(a:List Int) (b:List (Int×Nat)),(a.foldl dA b).length<=b.length+a.length:=by
  intro a
  induction a with
  | nil=>intro b;simp
  | cons c a d=>intro b;have:=d (dA b c);have f:=(aCr b c).1;simp only [List.foldl_cons,zCg];omega
 have:=e a [];simpa [bN] using this
def eI (b:List (Int×Nat)):List Int:=b.flatMap fun a=>List.replicate a.2 a.1
theorem aCX (a:List (Int×Nat)) (b:Int):eI (dA a b)=eI a++ [b]:=by
 rcases List.eq_nil_or_concat a with rfl |⟨f,⟨d,e⟩,rfl⟩
 · simp [dA,eI]
 · rw [List.concat_eq_append];by_cases c:d=b
   · subst c;rw [gN];simp [eI,List.flatMap_append,List.replicate_succ']
   · rw [fQ _ _ _ _ c];simp [eI,List.flatMap_append]
theorem nR (a:List Int):eI (bN a)=a:=by
 have d:∀(a:List Int) (b:List (Int×Nat)),eI (a.foldl dA b)=eI b++a:=by
  intro a
  induction a with
  | nil=>intro b;simp
  | cons e a c=>intro b;rw [List.foldl_cons,c,aCX];simp
 have:=d a [];simpa [bN,eI] using this
def tN (a:List (Int×Nat)):Prop:=(∀e∈a,1<=e.2)/\a.Pairwise (fun _ _=>True)/\∀d b c,a[d]?=some b->a[d+1]?=some c->b.1≠c.1
theorem aEd (k:List (Int×Nat)) (l:Int) (s:tN k):tN (dA k l):=by
 obtain ⟨r,_,n⟩:=s;refine ⟨?_,List.pairwise_of_forall (by intros;trivial),?_⟩
 · rcases List.eq_nil_or_concat k with rfl |⟨g,⟨f,j⟩,rfl⟩
   · simp [dA]
   · rw [List.concat_eq_append] at*
     by_cases e:f=l
     · subst e;rw [gN];intro p c;rcases zCp.1 c with c | c;exact r p (List.mem_append_left _ c)
       · have:=List.mem_singleton.1 c;subst this;simp
     · rw [fQ _ _ _ _ e];intro p c;rcases zCp.1 c with c | c;exact r p c
       · have:=List.mem_singleton.1 c;subst this;simp
 · intro d m q b a;rcases List.eq_nil_or_concat k with rfl |⟨g,⟨f,j⟩,rfl⟩
   · simp [dA] at a
   · rw [List.concat_eq_append] at*
     by_cases e:f=l
     · subst e;rw [gN] at b a;have o:d+1 < (g++ [(f,j+1)]).length:=(zAc.1 a).1;simp at o;by_cases i:d+1=g.length;rw [zAo oM,i] at a;simp at a;rw [zAn oM] at b;have:=n d m (f,j) (by rw [zAn oM];exact b) (by rw [zAo oM,i];simp);rw [<-a];exact this
       · rw [zAn oM] at b a;exact n d m q (by rw [zAn oM];exact b) (by rw [zAn oM];exact a)
     rw [fQ _ _ _ _ e] at b a;have o:d+1 < (g++ [(f,j)]++ [(l,1)]).length:=(zAc.1 a).1;simp at o;by_cases i:d=g.length;subst i;rw [zAn (by simp)] at b;simp at b;rw [zAo (by simp)] at a;simp at a;rw [<-b,<-a];exact e;rw [zAn (by simp;omega)] at b a;exact n d m q b a
theorem aAu (a:List Int):tN (bN a):=by
 have e:∀(a:List Int) (b:List (Int×Nat)),tN b->tN (a.foldl dA b):=by
  intro a
  induction a with
  | nil=>intro b c;exact c
  | cons f a d=>intro b c;exact d _ (aEd b f c)
 exact e a [] ⟨by simp,List.Pairwise.nil,by simp⟩
theorem aEL (a:List (Int×Nat)) (d:Int×Nat) (b:d∈a):d.2<=(eI a).length:=by
 induction a with
 | nil=>cases b
 | cons c a f=>
   have e:eI (c::a)=List.replicate c.2 c.1++eI a:=(by simp [eI]);rw [e,zAi,zCn];rcases List.mem_cons.1 b with rfl | b;omega;have:=f b;omega
theorem pY (b:List Int) (a:Int×Nat) (c:a∈bN b):a.2<=b.length:=by
 have:=aEL _ a c;rwa [nR] at this
def jR (a:Int):Prop:=0<=a/\a < 257
instance (s:Int):Decidable (jR s):=inferInstanceAs (Decidable (_/\_))
def cO (a:Int×Nat):List UInt8:=cB a.1.toNat++cB a.2
def eV (a:List (Int×Nat)):List UInt8:=cB a.length++a.flatMap cO
def rF (a:List Int):Option (List UInt8):=if ∀b∈bN a,jR b.1 then some (eV (bN a)) else none
theorem tT (a:Int×Nat):(cO a).length<=22:=by
 have:=dH a.1.toNat;have:=dH a.2;simp [cO];omega
theorem zE (b:List (Int×Nat)) (a:Nat) (d:Int×Nat) (c:b[a]?=some d):(b.take (a+1)).flatMap cO=(b.take a).flatMap cO++cO d:=by
 have e:a < b.length:=(zAc.1 c).1;rw [List.take_succ_eq_append_getElem e,(zAc.1 c).2];simp [List.flatMap_append]
theorem tW (a:List (Int×Nat)):(a.flatMap cO).length<=22*a.length:=by
 induction a with
 | nil=>simp
 | cons b a c=>
   have:=tT b;rw [List.flatMap_cons,zAi,zCg];omega
def pF (b:List UInt8) (a:Nat):Option (Nat×Nat×Nat):=
 match eH (b.drop a) true 0 a with
 | none=>none
 | some (f,c)=>
   match eH (b.drop c) true 0 c with
   | none=>none
   | some (e,d)=>some (f,e,d)
def rgo (c:List UInt8) (e:Nat):Nat->Nat->Nat->List Int->List Int×Int
 | 0,a,_,acc=>if a=c.length then (acc,0) else ([],4)
 | n+1,a,last,acc=>
   match pF c a with
   | none=>([],4)
   | some (b,d,f)=>if 257<=b∨b=last∨d=0 then ([],4) else if e - acc.length < d then ([],3) else rgo c e n f b (acc++List.replicate d (b:Int))
def mF (a:List UInt8) (c:Int):List Int×Int:=
 match eH a true 0 0 with
 | none=>([],4)
 | some (d,b)=>rgo a c.toNat d b 257 []
theorem xE (f:List UInt8):∀first b d e c,eH f first b d=some (e,c)->d < c/\c<=d+f.length/\e < 18446744073709551616:=by
 induction f with
 | nil=>intro first b d e c a;rw [eH] at a;cases a
 | cons j l i=>
   intro first b d e c a
   rw [mG] at a;split at a
   · cases a
   · rename_i g
     split at a
     · injection a with a;injection a with h1 h2;subst h1;subst h2;have k:b<=144115188075855871:=(by rcases zBe 144115188075855871 b with a | a;exact absurd (by simp [a]) g;exact a);refine ⟨by omega,by simp,by omega⟩
     have:=i _ _ _ _ _ a;simp only [zCg];omega
theorem qD (b:List UInt8) (a d c:Nat) (f:a<=b.length) (e:eH (b.drop a) true 0 a=some (d,c)):eG b (a:Int)=(d,(c:Int),0):=by
 rw [eG,zBw oM];simp only [zBr,e]
theorem qE (b:List UInt8) (a:Nat) (d:a<=b.length) (c:eH (b.drop a) true 0 a=none):eG b (a:Int)=(0,(a:Int),4):=by
 rw [eG,zBw oM];simp only [zBr,c]
theorem aCB (b:List UInt8) (f g a e:Nat) (c:List Int) (d:pF b a=none):rgo b f (g+1) a e c=([],4):=by simp only [rgo,d]
theorem aCA (d:List UInt8) (e j f i:Nat) (c:List Int) (a b g:Nat) (k:pF d f=some (a,b,g)):
 rgo d e (j+1) f i c=if 257<=a∨a=i∨b=0 then ([],4) else if e - c.length < b then ([],3) else rgo d e j g a (c++List.replicate b (a:Int)):=by simp only [rgo,k]
theorem aCt (b:List UInt8) (a:Nat) (c:eH (b.drop a) true 0 a=none):pF b a=none:=by simp only [pF,c]
theorem aCs (b:List UInt8) (a f c:Nat) (d:eH (b.drop a) true 0 a=some (f,c)) (e:eH (b.drop c) true 0 c=none):pF b a=none:=by simp only [pF,d,e]
theorem wI (b:List UInt8) (a f c e d:Nat) (g:eH (b.drop a) true 0 a=some (f,c)) (i:eH (b.drop c) true 0 c=some (e,d)):pF b a=some (f,e,d):=by simp only [pF,g,i]
theorem rV (a:Nat):(rW a).length=4:=by simp [rW,aBo]
theorem aIx (a e b:Nat) (g:b < a):(aBo a e)[b]?=some (UInt8.ofNat (e / 256 ^ b % 256)):=by
 induction a with
 | zero=>omega
 | succ a d=>
   have c:∀a,(aBo a e).length=a:=fun a=>by induction a with
    | zero=>rfl
    | succ a d=>simp [aBo,d]
   rw [aBo];by_cases f:b=a
   · subst f;rw [zAo (by rw [c];omega),c];simp
   · rw [zAn (by rw [c];omega),d oM]
theorem aJG (c f:List UInt8) (a:Nat) (j:a < 4294967296):ofB (c++(rW a++f)) (c.length:Int)=(a,0):=by
 have k:=rV a;rw [ofB,zBw (by simp;omega),zBw (by simp;omega)];have d:∀b,b < 4->(c++(rW a++f))[c.length+b]?=some (UInt8.ofNat (a / 256 ^ b % 256)):=fun b i=>by rw [zAo oM,Nat.add_sub_cancel_left,zAn oM];exact aIx 4 a b i
 simp only [ofN,zBr];rw [d 0 oM,d 1 oM,d 2 oM,d 3 oM];have g:∀e:Nat,(UInt8.ofNat (e % 256)).toNat=e % 256:=fun e=>by simp [UInt8.toNat_ofNat']
 simp only [Option.getD_some,g];congr 1;simp only [Nat.reducePow,Nat.div_one,zBl];omega
def mH (a:Nat):Nat:=if a % 2=1 then (a / 2)^^^ 3988292384 else a / 2
def rZ:Nat->Nat->Nat
 | 0,s=>s
 | k+1,s=>mH (rZ k s)
def jX (a:Nat):Nat:=rZ 8 a
def tZ:List UInt8->Nat->Nat
 | [],a=>a
 | c::r,a=>tZ r (jX ((a % 256)^^^ c.toNat)^^^(a / 256))
def aBs (b:Nat) (a:List UInt8):Nat:=4294967295 - tZ a (4294967295 - b)
def mI (a:List UInt8):Nat:=aBs 0 a
theorem aEP {a:Nat} (b:a < 4294967296):mH a < 4294967296:=by
 unfold mH;split;exact Nat.xor_lt_two_pow (n:=32) oM oM;omega
theorem xL {c:Nat} (b:c < 4294967296):∀a,rZ a c < 4294967296
 | 0=>b
 | a+1=>aEP (xL b a)
theorem aAD {a:Nat} (b:a < 256):jX a < 4294967296:=xL oM 8
theorem aIK {b:Nat} (c:b < 4294967296) (a:UInt8):(b % 256)^^^ a.toNat < 256:=Nat.xor_lt_two_pow (n:=8) oM a.toNat_lt
theorem aIJ {a:Nat} (c:a < 4294967296) (b:UInt8):jX ((a % 256)^^^ b.toNat)^^^(a / 256) < 4294967296:=
 Nat.xor_lt_two_pow (n:=32) (aAD (aIK c b)) oM
theorem sA:∀(d:List UInt8) (b:Nat),b < 4294967296->tZ d b < 4294967296
 | [],_,a=>a
 | c::r,b,a=>sA r _ (aIJ a c)
theorem xM:∀(c:List UInt8) (a:UInt8) (b:Nat),tZ (c++ [a]) b=jX ((tZ c b % 256)^^^ a.toNat)^^^(tZ c b / 256)
 | [],_,_=>rfl
 | d::r,a,b=>xM r a _
theorem aFM (a:List UInt8):mI a < 4294967296:=by
 unfold mI aBs;have:=sA a (4294967295 - 0) oM;omega
def dU (a:List UInt8):List UInt8:=cB a.length++(a++rW (mI a))
def gP:List UInt8:= [83,75,82,49]
def vZ (d:List Nat) (a b:Nat):List UInt8:=(List.range (b / a+1)).flatMap fun c=>cB (d.idxOf (c*a))
def jB (a:List Nat):List Int:=a.map fun b:Nat=>(b:Int)
def fW (a:List Nat):List UInt8:=eV (bN (jB a))
def pK (c e:List Nat) (d b a:Nat):List UInt8:=gP++(dP [d,b,a]++(dU (fW c)++dU (vZ e b a)))
def dN (a e:List Nat) (c d b:Nat):List UInt8:=pK a e c d b++rW (mI (pK a e c d b))
theorem wQ {d a r:List UInt8} {b c e:Nat} (f:d=a++(cB b++r)) (g:a.length=c) (j:c+(cB b).length=e) (i:b < 18446744073709551616):eG d (c:Int)=(b,(e:Int),0):=by
 rw [f,<-j,<-g];exact aIw a r b i
structure SnAt (body:List UInt8) (most rate N:Nat) (f s:List UInt8) (p1 p2 p3 p4 p5:Nat):Prop where
 e1:body=gP++(cB most++(cB rate++(cB N++(dU f++dU s))))
 h1:4+(cB most).length=p1
 h2:p1+(cB rate).length=p2
 h3:p2+(cB N).length=p3
 h4:p3+(dU f).length=p4
 h5:p4+(dU s).length=p5
theorem aC3 (c e:List Nat) (d b a:Nat):pK c e d b a=gP++(cB d++(cB b++(cB a++(dU (fW c)++dU (vZ e b a))))):=by
 unfold pK;simp [dP]
theorem SnAt.of (c e:List Nat) (d b a:Nat):∃g i j k f,SnAt (pK c e d b a) d b a (fW c) (vZ e b a) g i j k f/\(pK c e d b a).length=f:=by
 refine ⟨_,_,_,_,_,⟨aC3 c e d b a,rfl,rfl,rfl,rfl,rfl⟩,?_⟩;rw [aC3];simp [gP];omega
theorem SnAt.n1 {c g o:List UInt8} {b n f e j k l m:Nat} (d:SnAt c b n f g o e j k l m) (i:b < 18446744073709551616):eG c 4=(b,(e:Int),0):=
 wQ (a:=gP) d.e1 rfl d.h1 i
theorem SnAt.n2 {e f k:List UInt8} {g c d i j m n o:Nat} (b:SnAt e g c d f k i j m n o) (l:c < 18446744073709551616):eG e (i:Int)=(c,(j:Int),0):=
 wQ (a:=gP++cB g) (r:=cB d++(dU f++dU k)) (by rw [b.e1];simp) (by rw [zAi];have:=b.h1;have:gP.length=4:=rfl;omega) b.h2 l
theorem SnAt.n3 {d e k:List UInt8} {f j c m g i n o:Nat} (b:SnAt d f j c e k m g i n o) (l:c < 18446744073709551616):eG d (g:Int)=(c,(i:Int),0):=
 wQ (a:=gP++(cB f++cB j)) (r:=dU e++dU k) (by rw [b.e1];simp) (by rw [zAi,zAi];have:=b.h1;have:=b.h2;have:gP.length=4:=rfl;omega) b.h3 l
theorem jL (a:List UInt8):(dU a).length=(cB a.length).length+(a.length+4):=by
 unfold dU;rw [zAi,zAi,rV]
theorem SnAt.f1 {c b m:List UInt8} {f j e p q d g r:Nat} (a:SnAt c f j e b m p q d g r) (o:b.length < 18446744073709551616):
 ∃i:Nat,eG c (d:Int)=(b.length,(i:Int),0)/\i+(b.length+4)=g/\(c.drop i).take b.length=b/\g<=c.length:=by
 have k:c=(gP++(cB f++(cB j++cB e)))++(cB b.length++((b++rW (mI b))++dU m)):=by rw [a.e1];simp [dU]
 have l:(gP++(cB f++(cB j++cB e))).length=d:=by simp only [zAi];have:=a.h1;have:=a.h2;have:=a.h3;have:gP.length=4:=rfl;omega
 refine ⟨d+(cB b.length).length,wQ k l rfl o,?_,?_,?_⟩;have:=a.h4;rw [jL] at this;omega
 · rw [k,<-zCo,List.drop_left' (by rw [zAi,l]),zCo,List.take_left' rfl]
 have w:=a.h5;have n:=congrArg List.length a.e1;simp only [zAi] at n;have s:=a.h1;have t:=a.h2;have u:=a.h3;have v:=a.h4;have x:gP.length=4:=rfl;omega
theorem SnAt.f2 {c f b:List UInt8} {g k e p q r d i:Nat} (a:SnAt c g k e f b p q r d i) (o:b.length < 18446744073709551616):
 ∃j:Nat,eG c (d:Int)=(b.length,(j:Int),0)/\j+(b.length+4)=i/\(c.drop j).take b.length=b/\i=c.length:=by
 have l:c=(gP++(cB g++(cB k++(cB e++dU f))))++(cB b.length++((b++rW (mI b))++ [])):=by rw [a.e1];simp [dU]
 have m:(gP++(cB g++(cB k++(cB e++dU f)))).length=d:=by simp only [zAi];have:=a.h1;have:=a.h2;have:=a.h3;have:=a.h4;have:gP.length=4:=rfl;omega
 refine ⟨d+(cB b.length).length,wQ l m rfl o,?_,?_,?_⟩;have:=a.h5;rw [jL] at this;omega
 · rw [l,<-zCo,List.drop_left' (by rw [zAi,m]),zCo,List.take_left' rfl]
 have w:=a.h5;have n:=congrArg List.length a.e1;simp only [zAi] at n;have s:=a.h1;have t:=a.h2;have u:=a.h3;have v:=a.h4;have x:gP.length=4:=rfl;omega
end
section
open Go.RowKit
theorem kL:(prog.info? 5).map (fun a=>(a.zero,a.size,a.bytes))=some (some (.int .u8 0),1,1):=by kernel_rfl
def uv (a:Nat):Value:=.int .u64 (a:Int)
theorem aK4 (a:Nat):bits .or .u8 ((a:Int)% 256) 128=((a % 128+128:Nat):Int):=by
 have c:∀b:Fin 256,bits .or .u8 ((b.val:Nat):Int) 128=((b.val % 128+128:Nat):Int):=by decide+kernel
 have:=c ⟨a % 256,by omega⟩;simp only at this;rw [show ((a:Int)% 256)=((a % 256:Nat):Int) by omega,this];omega
theorem aKT (a:Nat):bits .and .u8 ((a:Int)% 256) 127=((a % 128:Nat):Int):=by
 have c:∀b:Fin 256,bits .and .u8 ((b.val:Nat):Int) 127=((b.val % 128:Nat):Int):=by decide+kernel
 have:=c ⟨a % 256,by omega⟩;simp only at this;rw [show ((a:Int)% 256)=((a % 256:Nat):Int) by omega,this];omega
theorem aK7 (b a:Nat):Value.int .u8 (bits .or .u8 ((b:Int)/ 2 ^ a % 256) 128)=bv (UInt8.ofNat (b / 2 ^ a % 128+128)):=by
 have:((b:Int)/ 2 ^ a)=((b / 2 ^ a:Nat):Int):=by push_cast;rfl
 rw [this,aK4];unfold bv;congr 1;simp [UInt8.toNat_ofNat'];omega
theorem aKP (a:Nat):Value.int .u8 (bits .and .u8 ((a:Int)% 256) 127)=bv (UInt8.ofNat (a % 128)):=by
 rw [aKT];unfold bv;congr 1;simp [UInt8.toNat_ofNat'];omega
theorem aJ4 (y:Option Addr) (i R:Nat) (e:List Nat) (d:World) (w:Rd d d.heap.size 1 y i (e.map uv)) (D:∀a∈e,a < 18446744073709551616) (af:i<=100000):
 Calls prog 39 #[.slice y i R] d fun S K=>∃l b,S=.returned l/\K.ownsRow d.heap.size 5 1 l b ((dP e).map bv)/\Below d.heap.size d K:=by
 obtain ⟨J,C,G,H,I⟩:=info_parts kL;obtain ⟨O,M⟩:=hqq2 w D;have E:=w.1;have A:=lhd E;clear w D E;go_enter func39,ntmps39;go_wp2;go_loopw [3,9] (fun l f wr=>∃b r:Nat,b<=i/\f=.int .i64 b/\wr.ownsRow d.heap.size 5 1 l r ((dP (e.take b)).map bv)/\Below d.heap.size d wr) (fun _ f _=>i -(intOf f).toNat)
 case atStart=>exact ⟨0,0,zAp _,rfl,World.ownsRow_nil _ _ _ _,Below.refl _ _⟩
 case round=>
  obtain ⟨b,r,ae,rfl,v,s⟩:=hrel;by_cases a4:b < i
  · have a8:∃a,e[b]?=some a:=(by have:=A.out;simp at this;exact ⟨e[b]' oM,zAa oM⟩);obtain ⟨a,q⟩:=a8;obtain ⟨ab,ah,ai,rfl,ad,x,Y⟩:=(O.out.below s).get a4;rw [zAf,q] at x;simp at x;subst x;unfold uv at Y;have F:a < 18446744073709551616:=M.out a (zAd q);obtain ⟨N,z⟩:=hqq2 q F;clear q F;go_wp2
    go_loop [6] (fun k=>∃c:Nat,c<=9/\k=.int .i64 (7*(c:Int))/\(c=0∨1<=a / 2 ^(7*c))) (fun k=>100 -(intOf k).toNat)
    case atStart=>exact ⟨0,by omega,rfl,.inl rfl⟩
    case round=>
        obtain ⟨c,a0,rfl,Z⟩:=hrel;go_wp2
        · have W:(128:Int)<=(a:Int)/ 2 ^(7*c):=(by assumption);have X:128<=a / 2 ^(7*c):=(by exact_mod_cast W);have a2:=aGa a c z.out a0 X;refine ⟨⟨c+1,a2,by go_num,.inr (by rw [aKM];omega)⟩,by simp [intOf];omega⟩
        · have a6:(a:Int)/ 2 ^(7*c) < 128:=(by assumption);have a7:a / 2 ^(7*c) < 128:=(by exact_mod_cast a6);go_loopw [3,6] (fun l k L=>∃g j:Nat,g<=c/\k=.int .i64 (7*(g:Int))/\L.ownsRow d.heap.size 5 1 l j ((dP (e.take b)++lC 10 (a / 2 ^(7*(g+1)))).map bv)/\Below d.heap.size d L) (fun _ k _=>(intOf k).toNat)
          case atStart=>exact ⟨c,r,zAs _,rfl,by rw [aKM,Nat.div_eq_of_lt a7];simpa [tC] using v,s⟩
          case round=>
           obtain ⟨g,j,a1,rfl,m,t⟩:=hrel;have o:=t.size;have ag:j<=1100010:=(by have U:=m.1;have V:=xK (e.take b);have ac:=aCH 10 (a / 2 ^(7*(g+1)));simp at U V;omega);by_cases T:g=0
           · subst T;go_wp2_with (at_builtin;refine bF _ rfl (.tmp 33) (.tmp 37) _ rfl d.heap.size 5 J (.int .u8 0) 1 1 underlying26 C G H I rfl dC u3 j _ rfl m rfl rfl (by simp [Value.oneCell']) (by unfold maxLen;omega) oM o ?_;intro a9 aa n p a5 B);have u:=aX t m p o;clear p B;go_roundw
             case rel=>refine ⟨b+1,j+1,by omega,by go_num,?_,u⟩;rw [aCZ e b a N.out];rw [aKP] at n;simpa [cB] using n
             case measure=>simp [intOf];omega
           · go_wp2_with (at_builtin;refine bF _ rfl (.tmp 24) (.tmp 31) _ rfl d.heap.size 5 J (.int .u8 0) 1 1 underlying26 C G H I rfl dC u3 j _ rfl m rfl rfl (by simp [Value.oneCell']) (by unfold maxLen;omega) oM o ?_;intro a9 aa n p a5 B);have u:=aX t m p o;refine ⟨⟨g - 1,j+1,by omega,dD oM,?_,u⟩,by simp [intOf];omega⟩;rw [aK7] at n;obtain ⟨f,rfl⟩:∃f,g=f+1:=⟨g - 1,by omega⟩;rw [zBb,aGo (a / 2 ^(7*(f+1))),<-aKM];simpa using n;exact aJK a f c a1 Z;exact zAl (aKB a f z.out) dC
  · have a3:b=i:=oM;subst a3;go_wp2;go_ret;refine ⟨u3,r,rfl,?_,s⟩;have:e.take b=e:=zAg (by have:=A.out;simp at this;omega);rw [this] at v;exact v
theorem aJ5 (f:Option Addr) (e k j:Nat) (a:List Nat) (b:World) (s:Rd b j 1 f e (a.map uv)) (n:j<=b.heap.size) (r:∀u∈a,u < 18446744073709551616) (g:e<=100000):
 Calls prog 39 #[.slice f e k] b fun l i=>∃c d,l=.returned (.slice c (dP a).length d)/\Made i b.heap.size 5 1 c (dP a).length d ((dP a).map bv)/\Below b.heap.size b i:=by
 refine (aJ4 f e k a b (s.mono n) r g).mono fun l i ⟨v,t,p,m,o⟩=>?_;have q:(dP a).length=t:=by simpa using m.1
 subst q;obtain ⟨c,d,rfl,g⟩:=aU m;exact ⟨c,d,p,g,o⟩
theorem yR (d:Option Addr) (c j e:Nat) (b:List Nat) (a:World) (f:List UInt8) (g:Nat) (o:dP b=f) (p:f.length=g) (s:Rd a e 1 d c (b.map uv)) (n:e<=a.heap.size) (q:∀t∈b,t < 18446744073709551616) (r:c<=100000):
 Calls prog 39 #[.slice d c j] a fun m l=>∃i k,m=.returned (.slice i g k)/\Made l a.heap.size 5 1 i g k (f.map bv)/\Below a.heap.size a l:=by
 subst o;subst p;exact aJ5 d c j e b a s n q r
structure Told where
 code:Int
 num:Int
 data:List UInt8
 places:List Nat
def lX (a:Told) (b:Option Addr) (d:Nat) (c:Option Addr) (e:Nat):Array Value:=#[.int .i64 a.code,.int .i64 a.num,.slice b a.data.length d,.slice c a.places.length e]
end
end Go.Proofs.YthldmddkfbijhaaGreatDoor
