/- Parts of the walk, joined from several texts. Conditions: what each lemma says. -/
import Derived.Test.YtnhmjomhloainaaGreatDoorPq5
set_option linter.all false
set_option maxRecDepth 100000
set_option maxHeartbeats 4000000
namespace Go.Proofs.YtnhmjomhloainaaGreatDoor
open Go.RowKit Go
section
variable {P : Program} {ops : Array Oper} {Q : Exit -> Act -> World -> Prop} {md : Region.Mode}
def tV (P:Program) (ops:Array Oper) (Q:Exit->Act->World->Prop) (md:Region.Mode) (C:(Operand->Value)->World->Prop) (S:Nat->Value->World->World->Prop) (U:Nat->World->Prop) (V:Nat->(Operand->Value)->Value->World->Prop) (a0:Act) (j:Nat) (o:Oper):Prop:=
 ∀a w,C a.eval w->U j w->a.tmps.size=a0.tmps.size->a.defers=a0.defers->
    (∀t,sY md ops j t=true->a.tmps.getD t undef=a0.tmps.getD t undef)->
    (∀e∈o.after,Region.binds md e=true->∀p d,ops[e.on]?=some p->p.dst=some d->V e.on a.eval (a.tmps.getD d undef) w)->
    ∀K:Act->World->Prop,(∀v w',S j v w w'->V j a.eval v w'->K (a.put o.dst v) w')->wpOp P ops Q j K a w
theorem cR {C:(Operand->Value)->World->Prop} {S:Nat->Value->World->World->Prop} {U:Nat->World->Prop} {V:Nat->(Operand->Value)->Value->World->Prop} {a0:Act} {j:Nat} {o:Oper} (ho:ops[j]?=some o) (hg:o.guard=none)
 (h:∀ev:Operand->Value,∀w,C ev w->U j w->(∀v,ev (.const v)=v)->(∀f,ev (.func f)=.func (.func f) #[] #[])->(∀t,sY md ops j t=true->ev (.tmp t)=a0.eval (.tmp t))->
  (∀i d,o.after.toList.any (fun e=>Region.binds md e&&e.on==i)=true->((ops[i]?).bind (·.dst))=some d->V i ev (ev (.tmp d)) w)->
  ∀a K,a.eval=ev->(∀v w',S j v w w'->V j ev v w'->K (a.put o.dst v) w')->Oper.upon P o a K Q ((execOp ev o).run P w)):tV P ops Q md C S U V a0 j o:=by
 intro a w hS hU hsz hdf hold hval K hK;unfold wpOp;simp only [ho];have hw:Region.wanted o (yielded ops a.tmps)=true:=by unfold Region.wanted;rw [hg]
 rw [zBx hw];refine .inl (h a.eval w hS hU (fun _=>rfl) (fun _=>rfl) (fun t ht=>hold t ht) (fun i d hi hd=>?_) a K rfl hK);obtain ⟨e,he,h2⟩:=List.any_eq_true.1 hi;simp only [zBd,zCp] at h2;obtain ⟨h3,rfl⟩:=h2;cases hp:ops[e.on]? with
 | none=>rw [hp] at hd;cases hd
 | some p=>rw [hp] at hd;exact hval e (Array.mem_toList_iff.1 he) h3 p d hp hd
theorem aId {m:Nat} (hl:iA md ops m=true):∀f i j,upB md ops f i j=true->j < i:=by
 intro f
 induction f with
 | zero=>intro i j h;cases h
 | succ f ih=>
   intro i j h;unfold upB at h;cases ho:ops[i]? with
   | none=>rw [ho] at h;cases h
   | some o=>
     rw [ho] at h;obtain ⟨e,he,h2⟩:=List.any_eq_true.1 h;simp only [zBd,Bool.or_eq_true,zCp] at h2;have h3:=(dR hl ho).1 e (Array.mem_toList_iff.1 he) h2.1;rcases h2.2 with h4 | h4;omega;have:=ih _ _ h4;omega
theorem aCq {m:Nat} (hl:iA md ops m=true) (f i j:Nat) (h:j<=i) (hu:upB md ops f j i=true):False:=by
 have:=aId hl f j i hu;omega
structure LooseF (md:Region.Mode) (ops:Array Oper) (C:(Operand->Value)->World->Prop) (U:Nat->World->Prop) (V:Nat->(Operand->Value)->Value->World->Prop) (a0:Act) (listed:Array Bool) (a:Act) (w:World):Prop where
 world:C a.eval w
 pre:∀j o,ops[j]?=some o->listed.getD j false=false->U j w
 size:a.tmps.size=a0.tmps.size
 defers:a.defers=a0.defers
 old:∀t,(∀k p,ops[k]?=some p->p.dst=some t->listed.getD k false=false)->a.tmps.getD t undef=a0.tmps.getD t undef
 val:∀i o,ops[i]?=some o->listed.getD i false=true->∃v,(∀d,o.dst=some d->a.tmps.getD d undef=v)/\V i a.eval v w
 shut:∀k p,ops[k]?=some p->listed.getD k false=true->∀e∈p.after,Region.binds md e=true->listed.getD e.on false=true
theorem zK (C:(Operand->Value)->World->Prop) (S:Nat->Value->World->World->Prop) (U:Nat->World->Prop) (V:Nat->(Operand->Value)->Value->World->Prop) (a0:Act)
 (W0:World) (hlaid:iA md ops a0.tmps.size=true) (hC0:C a0.eval W0) (hU0:∀i,U i W0) (hC:∀j o ev ev' v w w',ops[j]?=some o->(∀d,o.dst=some d->ev' (.tmp d)=v)->(∀t,o.dst≠some t->ev' (.tmp t)=ev (.tmp t))->C ev w->S j v w w'->C ev' w') (hU:∀i j v w w',i≠j->upB md ops ops.size j i=false->U i w->S j v w w'->U i w')
 (hown:∀j o ev ev' v w,ops[j]?=some o->(∀t,o.dst≠some t->ev' (.tmp t)=ev (.tmp t))->V j ev v w->V j ev' v w)
 (hstab:∀i j o ev ev' v u w w',ops[j]?=some o->(∀t,o.dst≠some t->ev' (.tmp t)=ev (.tmp t))->i≠j->upB md ops ops.size i j=false->V i ev v w->C ev w->S j u w w'->V i ev' v w')
 (hstep:∀j o,ops[j]?=some o->tV P ops Q md C S U V a0 j o)
 (hend:∀a w,C a.eval w->a.tmps.size=a0.tmps.size->a.defers=a0.defers->
  (∀t,(∀(k:Nat) (p:Oper),ops[k]?=some p->p.dst≠some t)->a.tmps.getD t undef=a0.tmps.getD t undef)->
  (∀i o,ops[i]?=some o->∃v,(∀d,o.dst=some d->a.tmps.getD d undef=v)/\V i a.eval v w)->Q .normal a w):
 wpAny P md ops Q ops.size (Array.replicate ops.size false) a0 W0:=by
 have done:∀listed a w,listed.size=ops.size->(∀i,i < ops.size->listed.getD i false=true)->LooseF md ops C U V a0 listed a w->Q .normal a w:=by intro listed a w hl hall h;refine hend a w h.world h.size h.defers (fun t ht=>h.old t fun k p hp hd=>absurd hd (ht k p hp)) fun i o ho=>h.val i o ho (hall i (zAh.1 ho).1)
 have none_ready:∀listed:Array Bool,listed.size=ops.size->Region.ready md ops listed= []->∀i,i < ops.size->listed.getD i false=true:=by
  intro listed hl hr i
  induction i using Nat.strongRecOn with
  | _ i ih=>
    intro hi;cases hc:listed.getD i false with
    | true=>rfl
    | false=>
      exfalso;have hm:i∈Region.ready md ops listed:=(by refine mem_ready.2 ⟨?_,ops[i],zAq hi,fun e he hb=>?_⟩;have hi':i < listed.size:=oM;simp [hi'] at hc⊢;exact hc;have:=(dR hlaid (zAq hi)).1 e he hb;exact ih e.on this oM);rw [hr] at hm;cases hm
 have main:∀fuel listed a w,listed.size=ops.size->listed.toList.count false<=fuel->LooseF md ops C U V a0 listed a w->wpAny P md ops Q fuel listed a w:=by
  intro fuel
  induction fuel with
  | zero=>
    intro listed a w hl hc h
    have hall:∀i,i < ops.size->listed.getD i false=true:=by
        intro i hi;have hi':i < listed.size:=oM;cases hv:listed.getD i false with
        | true=>rfl
        | false=>
          exfalso;have:false∈listed.toList:=(by simp [hi'] at hv;exact hv ▸(by simp));have:=List.count_pos_iff.2 this;omega
    refine ⟨?_,done listed a w hl hall h⟩;cases hr:Region.ready md ops listed with
    | nil=>rfl
    | cons i l=>
      exfalso;have hi:i∈Region.ready md ops listed:=(by rw [hr];exact List.mem_cons_self ..);obtain ⟨h0,o,ho,_⟩:=mem_ready.1 hi;have hlt:i < ops.size:=(zAh.1 ho).1;have h1:=hall i hlt;have hi':i < listed.size:=oM;simp [hi'] at h0 h1;rw [h0] at h1;cases h1
  | succ fuel ih=>
    intro listed a w hl hc h;refine ⟨fun hr=>done listed a w hl (none_ready listed hl hr) h,fun j hj=>?_⟩;obtain ⟨h0,o,ho,haft⟩:=mem_ready.1 hj;have hlt:j < ops.size:=(zAh.1 ho).1;have hjl:j < listed.size:=oM;have h0':listed.getD j false=false:=by simp [hjl] at h0⊢;exact h0
    have hput:∀v t,o.dst≠some t->(a.put o.dst v).eval (.tmp t)=a.eval (.tmp t):=by
        intro v t ht;cases hod:o.dst with
        | none=>rfl
        | some d=>
          have hdt:d≠t:=fun e=>ht (by rw [hod,e]);simp [Act.eval,Act.put,zAm,hdt]
    have hdst:∀v d,o.dst=some d->(a.put o.dst v).eval (.tmp d)=v:=(by intro v d hd;have hdl:=((dR hlaid ho).2 d hd).1;have:d < a.tmps.size:=(by rw [h.size];exact hdl);simp [Act.eval,Act.put,zAm,hd,this]);refine hstep j o ho a w h.world (h.pre j o ho h0') h.size h.defers (fun t ht=>h.old t fun k p hp hd=>?_) (fun e he hb p d hp hd=>by obtain ⟨v,h1,h2⟩:=h.val e.on p hp (haft e he hb);rw [h1 d hd];exact h2) _ fun v w' hS hV=>?_
    · rcases tN ht hp hd with rfl |⟨e,he,hb,heq⟩;exact h0'
      · cases hk:listed.getD k false with
        | false=>rfl
        | true=>
          have:=h.shut k p hp hk e he hb;rw [heq,h0'] at this;cases this
    · refine ih _ _ _ (by simpa using hl) ?_ ?_;have hv:listed.toList[j]'(by simpa using hjl)=false:=(by simp [hjl] at h0'⊢;exact h0');rw [Array.toList_setIfInBounds,List.count_set (by simpa using hjl),hv];simp;have hm:false∈listed.toList:=hv ▸ zBj _;have:=List.count_pos_iff.2 hm;rw [<-Array.count_toList];omega
      · have hsz:(a.put o.dst v).tmps.size=a0.tmps.size:=by
          rw [<-h.size];cases o.dst with
          | none=>rfl
          | some d=>simp [Act.put]
        refine ⟨hC j o _ _ v w w' ho (hdst v) (hput v) h.world hS,fun i p hp hi=>?_,hsz,?_,fun t ht=>?_,fun i p hp hi=>?_,fun k p hp hk e he hb=>?_⟩
        · have hji:i≠j:=fun e=>by rw [e,bI _ _ hjl] at hi;cases hi
          rw [getD_set_ne false hji.symm] at hi;refine hU i j v w w' hji ?_ (h.pre i p hp hi) hS;cases hup:upB md ops ops.size j i with
          | false=>rfl
          | true=>
            have:=iZ h.shut _ j i o ho haft hup;rw [hi] at this;cases this
        · rw [<-h.defers];cases o.dst <;> rfl
        · have hne:o.dst≠some t:=fun hd=>by have:=ht j o ho hd;rw [bI _ _ hjl] at this;cases this
          have hold:=h.old t fun k p hp hd=>by
           have:=ht k p hp hd;cases hk:listed.getD k false with
           | false=>rfl
           | true=>
             by_cases hjk:j=k
             · subst hjk;rw [h0'] at hk;cases hk
             · rw [getD_set_ne false hjk,hk] at this;cases this
          rw [<-hold];cases hod:o.dst with
          | none=>rfl
          | some d=>
            have hdt:d≠t:=fun h=>hne (by rw [hod,h]);simp [Act.put,zAm,hdt]
        · rcases eH _ _ _ hi with rfl | hi1
          · rw [ho] at hp;injection hp with hp;subst hp;refine ⟨v,fun d hd=>?_,hown _ _ _ _ _ _ ho (hput v) hV⟩;have hdl:=((dR hlaid ho).2 d hd).1;rw [hd];have:d < a.tmps.size:=(by rw [h.size];exact hdl);simp [Act.put,zAm,this]
          · by_cases hij:i=j
            · subst hij;rw [h0'] at hi1;cases hi1
            obtain ⟨u,hu,hv⟩:=h.val i p hp hi1
            have haf:upB md ops ops.size i j=false:=by
              cases hc:upB md ops ops.size i j with
              | false=>rfl
              | true=>
                exfalso;have:=iZ h.shut _ i j p hp (h.shut i p hp hi1) hc;rw [h0'] at this;cases this
            refine ⟨u,fun d hd=>?_,hstab _ _ _ _ _ _ _ _ _ ho (hput v) hij haf hv h.world hS⟩;rw [<-hu d hd];cases hod:o.dst with
            | none=>rfl
            | some d'=>
              have hdt:d'≠d:=fun h=>hij (((dR hlaid ho).2 d' hod).2 i p hp (h ▸ hd));simp [Act.put,zAm,hdt]
        rcases eH _ _ _ hk with rfl | hk;rw [ho] at hp;injection hp with hp;subst hp;have h1:=haft e he hb;by_cases hje:k=e.on;rw [<-hje];exact bI _ _ hjl _;rw [getD_set_ne false hje];exact h1;have h1:=h.shut k p hp hk e he hb;by_cases hje:j=e.on;rw [<-hje];exact bI _ _ hjl _;rw [getD_set_ne false hje];exact h1
 refine main _ _ _ _ (by simp) (by simp) ⟨hC0,fun j _ _ _=>hU0 j,rfl,rfl,fun _ _=>rfl,fun i o ho hi=>?_,fun k p hp hk=>?_⟩
 · have hlt:i < ops.size:=(zAh.1 ho).1;simp [hlt] at hi
 · have hlt:k < ops.size:=(zAh.1 hp).1;simp [hlt] at hk
theorem zJ (ds:List Nat) (C:(Operand->Value)->World->Prop) (S:Nat->Value->World->World->Prop) (U:Nat->World->Prop) (V:Nat->(Operand->Value)->Value->World->Prop) (a0:Act) (W0:World)
 (hds:ops.toList.filterMap (·.dst)=ds)
 (hlaid:iA md ops a0.tmps.size=true) (hC0:C a0.eval W0) (hU0:∀i,U i W0) (hC:∀j o ev ev' v w w',ops[j]?=some o->(∀d,o.dst=some d->ev' (.tmp d)=v)->(∀t,o.dst≠some t->ev' (.tmp t)=ev (.tmp t))->C ev w->S j v w w'->C ev' w') (hU:∀i j v w w',i≠j->upB md ops ops.size j i=false->U i w->S j v w w'->U i w')
 (hown:∀j o ev ev' v w,ops[j]?=some o->(∀t,o.dst≠some t->ev' (.tmp t)=ev (.tmp t))->V j ev v w->V j ev' v w)
 (hstab:∀i j o ev ev' v u w w',ops[j]?=some o->(∀t,o.dst≠some t->ev' (.tmp t)=ev (.tmp t))->i≠j->upB md ops ops.size i j=false->V i ev v w->C ev w->S j u w w'->V i ev' v w')
 (hstep:∀j o,ops[j]?=some o->tV P ops Q md C S U V a0 j o)
 (hend:∀(ev:Operand->Value) w,C ev w->(∀i d,((ops[i]?).bind (·.dst))=some d->V i ev (ev (.tmp d)) w)->(∀i,i < ops.size->∃v,V i ev v w)->Q .normal (aO ev ds a0) w):
 wpAny P md ops Q ops.size (Array.replicate ops.size false) a0 W0:=by
 refine zK C S U V a0 W0 hlaid hC0 hU0 hC hU hown hstab hstep fun a w hS hsz hdf hold hval=>?_;have h1:=hend a.eval w hS (fun i d hd=>by
  cases ho:ops[i]? with
  | none=>rw [ho] at hd;cases hd
  | some o=>
    rw [ho] at hd;obtain ⟨v,h1,h2⟩:=hval i o ho;have:=h1 d hd;change V i a.eval (a.tmps.getD d undef) w;rw [this];exact h2) (fun i hi=>by
  obtain ⟨v,_,h2⟩:=hval i _ (zAq hi);exact ⟨v,h2⟩)
 rw [<-mK a a0 ds hsz hdf fun t ht=>hold t fun k p hp hd=>ht ?_] at h1;exact h1;rw [<-hds];exact List.mem_filterMap.2 ⟨p,Array.mem_toList_iff.2 (Array.mem_of_getElem? hp),hd⟩
end
def blk?:Value->Option Nat
 | .pointer (some a)=>some a.block
 | .slice (some a) _ _=>some a.block
 | _=>none
def aCm (fs:List Nat) (ev:Operand->Value) (w:World):Prop:=
 (∀s∈fs,∀g,blk? (ev (.tmp s))=some g->g < w.heap.size)/\∀s∈fs,∀t∈fs,s≠t->∀g,blk? (ev (.tmp s))=some g->blk? (ev (.tmp t))≠some g
theorem vN {fs:List Nat} {ev:Operand->Value} {w:World} (h:(fs.all fun s=>(blk? (ev (.tmp s))).isNone)=true):aCm fs ev w:=by
 have h1:∀s∈fs,blk? (ev (.tmp s))=none:=fun s hs=>by simpa using zBf.1 h s hs
 refine ⟨fun s hs g hg=>?_,fun s hs _ _ _ g hg=>?_⟩<;>(rw [h1 s hs] at hg;cases hg)
def aG5 (v:Value) (w w':World):Prop:=∀g,blk? v=some g->w.heap.size<=g/\g < w'.heap.size
def zF (fs:List Nat) (ops:Array Oper) (SJ:World->World->Prop) (J j:Nat) (v:Value) (w w':World):Prop:=w.heap.size<=w'.heap.size/\(j=J->SJ w w')/\(j≠J->Grow w w')/\∀d∈fs,((ops[j]?).bind (·.dst))=some d->aG5 v w w'
theorem dF {fs:List Nat} {ops:Array Oper} {SJ:World->World->Prop} {J j:Nat} {v:Value} {w w':World} (h:Grow w w') (hj:(j==J)=false) (hf:(fs.all fun d=>((ops[j]?).bind (·.dst))!= some d)=true):zF fs ops SJ J j v w w':=
 ⟨h.size,fun e=>by simp [e] at hj,fun _=>h,fun d hd he=>by have:=zBf.1 hf d hd;simp [he] at this⟩
theorem iU {fs:List Nat} {ops:Array Oper} {SJ:World->World->Prop} {J j:Nat} {v:Value} {w w':World} (h:Grow w w') (hj:(j==J)=false) (hf:aG5 v w w'):zF fs ops SJ J j v w w':=
 ⟨h.size,fun e=>by simp [e] at hj,fun _=>h,fun _ _ _=>hf⟩
theorem aGm {fs:List Nat} {ops:Array Oper} {SJ:World->World->Prop} {J:Nat} {v:Value} {w w':World} (h:SJ w w') (hz:w.heap.size<=w'.heap.size) (hf:(fs.all fun d=>((ops[J]?).bind (·.dst))!= some d)=true):zF fs ops SJ J J v w w':=
 ⟨hz,fun _=>h,fun e=>absurd rfl e,fun d hd he=>by have:=zBf.1 hf d hd;simp [he] at this⟩
abbrev KP:=List Nat×((Operand->Value)->Value->World->Prop)
def k0 (p:Value->World->Prop):KP:=([],fun _ v w=>p v w)
def kEq (t:Nat):KP:=([t],fun ev v _=>v=ev (.tmp t))
def kLk (s1 s2:Nat) (p:Value->Value->World->Prop):KP:=([s1,s2],fun ev _ w=>p (ev (.tmp s1)) (ev (.tmp s2)) w)
def aCg (q:KP):Prop:=∀ev ev':Operand->Value,(∀t∈q.1,ev' (.tmp t)=ev (.tmp t))->∀v w,q.2 ev v w->q.2 ev' v w
theorem aDe (p:Value->World->Prop):aCg (k0 p):=fun _ _ _ _ _ h=>h
theorem aDY (t:Nat):aCg (kEq t):=fun ev ev' he v w h=>by
 show v=ev' (.tmp t);rw [he t (by simp [kEq])];exact h
theorem aHJ (s1 s2:Nat) (p:Value->Value->World->Prop):aCg (kLk s1 s2 p):=fun ev ev' he v w h=>by
 show p (ev' (.tmp s1)) (ev' (.tmp s2)) w;rw [he s1 (by simp [kLk]),he s2 (by simp [kLk])];exact h
def aDr (R:World->World->Prop) (q:KP):Prop:=∀ev v w w',q.2 ev v w->R w w'->q.2 ev v w'
theorem iP {R:World->World->Prop} {p:Value->World->Prop} (h:∀v w w',p v w->R w w'->p v w'):aDr R (k0 p):=fun _ v w w' hp hr=>h v w w' hp hr
theorem tH (R:World->World->Prop) (c:Value):aDr R (k0 (is c)):=fun _ _ _ _ h _=>h
theorem aA3 (R:World->World->Prop):aDr R (k0 dJ):=fun _ _ _ _ _ _=>trivial
theorem pC (R:World->World->Prop) (t:Nat):aDr R (kEq t):=fun _ _ _ _ h _=>h
theorem pB {R:World->World->Prop} {s1 s2:Nat} {p:Value->Value->World->Prop} (h:∀u v w w',p u v w->R w w'->p u v w'):aDr R (kLk s1 s2 p):=fun _ _ w w' hp hr=>h _ _ w w' hp hr
def VsQ (l:List KP) (i:Nat) (ev:Operand->Value) (v:Value) (w:World):Prop:=(l.getD i (k0 dJ)).2 ev v w
theorem aDJ (l:List KP) (i:Nat):l.getD i (k0 dJ)∈l∨l.getD i (k0 dJ)=k0 dJ:=by
 rw [zAb];cases h:l[i]? with
 | none=>exact .inr rfl
 | some q=>exact .inl (zAd h)
theorem tY {P:Program} {ops:Array Oper} {Q:Exit->Act->World->Prop} {md:Region.Mode} (ds fs:List Nat) (J:Nat) (SJ:World->World->Prop) (C:World->Prop) (l:List KP) (a0:Act) (W0:World)
 (hds:ops.toList.filterMap (·.dst)=ds) (hlaid:iA md ops a0.tmps.size=true)
 (hlk:((List.range ops.size).all fun i=>(List.range ops.size).all fun j=>match ops[j]? with
  | some o=>upB md ops ops.size i j||(l.getD i (k0 dJ)).1.all fun t=>o.dst != some t
  | none=>true)=true)
 (hC0:C W0) (hA0:aCm fs a0.eval W0) (hC:∀w w',C w->(Grow w w'∨SJ w w')->C w')
 (hdep:∀q∈l,aCg q) (hst:∀q∈l,aDr Grow q) (hst2:∀q∈l.eraseIdx J,aDr SJ q)
 (hstep:∀j o,ops[j]?=some o->tV P ops Q md (fun ev w=>C w/\aCm fs ev w) (zF fs ops SJ J) (fun _ _=>True) (VsQ l) a0 j o)
 (hend:∀(ev:Operand->Value) w,C w->aCm fs ev w->(∀i d,((ops[i]?).bind (·.dst))=some d->VsQ l i ev (ev (.tmp d)) w)->(∀i,i < ops.size->∃v,VsQ l i ev v w)->Q .normal (aO ev ds a0) w):
 wpAny P md ops Q ops.size (Array.replicate ops.size false) a0 W0:=by
 have hany:∀ {j v w w'},zF fs ops SJ J j v w w'->Grow w w'∨SJ w w':=fun {j v w w'} h=>by by_cases hj:j=J;exact .inr (h.2.1 hj);exact .inl (h.2.2.1 hj)
 have hself:∀j,upB md ops ops.size j j=false:=by
  intro j;cases hc:upB md ops ops.size j j with
  | false=>rfl
  | true=>exact (aCq hlaid _ _ _ nL hc).elim
 have hdepA:∀i,aCg (l.getD i (k0 dJ)):=fun i=>by rcases aDJ l i with h | h;exact hdep _ h;rw [h];exact aDe _
 have hkeep:∀i j o (ev ev':Operand->Value) v w,i < ops.size->ops[j]?=some o->(∀t,o.dst≠some t->ev' (.tmp t)=ev (.tmp t))->upB md ops ops.size i j=false->VsQ l i ev v w->VsQ l i ev' v w:=by intro i j o ev ev' v w hi ho he hup hv;have h1:=zBf.1 (zBf.1 hlk i (by simpa using hi)) j (by simpa using (zAh.1 ho).1);simp only [ho,hup,Bool.false_or] at h1;exact hdepA i ev ev' (fun t ht=>he t (by have:=zBf.1 h1 t ht;simpa using this)) v w hv
 refine zJ ds (fun ev w=>C w/\aCm fs ev w) (zF fs ops SJ J) (fun _ _=>True) (fun i ev v w=>i < ops.size->VsQ l i ev v w) a0 W0 hds hlaid ⟨hC0,hA0⟩ (fun _=>trivial) (fun j o ev ev' v w w' ho hd he h k=>⟨hC w w' h.1 (hany k),?_⟩) (fun _ _ _ _ _ _ _ _ _=>trivial) (fun j o ev ev' v w ho he hv hj=>hkeep j j o ev ev' v w hj ho he (hself j) (hv hj)) (fun i j o ev ev' v u w w' ho he hij hup hv hc k hi=>?_) (fun j o ho a w h1 h2 h3 h4 h5 h6 K hK=>hstep j o ho a w h1 h2 h3 h4 h5 (fun e he hb p d hp hd=>h6 e he hb p d hp hd (zAh.1 hp).1) K (fun v w' hS hV=>hK v w' hS fun _=>hV)) (fun ev w h h1 h2=>hend ev w h.1 h.2 (fun i d hd=>h1 i d hd (by
  cases ho:ops[i]? with
  | none=>rw [ho] at hd;cases hd
  | some o=>exact (zAh.1 ho).1)) (fun i hi=>(h2 i hi).imp fun v hv=>hv hi))
 · have hz:=k.1;obtain ⟨h1,h2⟩:=h.2;have hnew:∀s∈fs,o.dst=some s->aG5 (ev' (.tmp s)) w w':=fun s hs hds=>by rw [hd s hds];exact k.2.2.2 s hs (by rw [ho];exact hds)
   refine ⟨fun s hs g hg=>?_,fun s hs t ht hst g hg hg'=>?_⟩;by_cases hds:o.dst=some s;exact (hnew s hs hds g hg).2;rw [he s hds] at hg;have:=h1 s hs g hg;omega;by_cases hds:o.dst=some s;have hdt:o.dst≠some t:=fun e=>hst (by rw [hds] at e;injection e);rw [he t hdt] at hg';have:=(hnew s hs hds g hg).1;have:=h1 t ht g hg';omega;rw [he s hds] at hg;by_cases hdt:o.dst=some t;have:=(hnew t ht hdt g hg').1;have:=h1 s hs g hg;omega;rw [he t hdt] at hg';exact h2 s hs t ht hst g hg hg'
 · have h1:=hkeep i j o ev ev' v w hi ho he hup (hv hi);unfold VsQ at h1⊢;by_cases hj:j=J
   · subst hj
     have hm:l.getD i (k0 dJ)∈l.eraseIdx j∨l.getD i (k0 dJ)=k0 dJ:=by
        rw [zAb];cases hl:l[i]? with
        | none=>exact .inr rfl
        | some q=>exact .inl (List.mem_eraseIdx_iff_getElem?.2 ⟨i,hij,hl⟩)
     rcases hm with h2 | h2;exact hst2 _ h2 ev' v w w' h1 (k.2.1 rfl)
     · rw [h2];trivial
   · rcases aDJ l i with h2 | h2;exact hst _ h2 ev' v w w' h1 (k.2.2.1 hj)
     · rw [h2];trivial
end Go.Proofs.YtnhmjomhloainaaGreatDoor
namespace Go.Proofs.YtnhmjomhloainaaGreatDoor
open Go.RowKit
def aAO (w w':World) (o:List Int×Int) (e:Ending):Prop:=
 ∃A c,e=.returned (.tuple #[.slice A o.1.length c,.int .i64 o.2])/\Made w' w.heap.size 3 1 A o.1.length c (o.1.map iv)
theorem fX {w w':World} {o:List Int×Int} {k:Int} (h:([],k)=o):aAO w w' o (.returned (.tuple #[.slice none 0 0,.int .i64 k])):=by
 subst h;exact ⟨none,0,rfl,⟨World.ownsRow_nil _ _ _ _,Rd.nil _ _ _ _,zAs _,zAp _⟩⟩
theorem sO (A:Option Addr) (m c:Nat) (b:List UInt8) (most:Int) (w:World) (i0:TypeInfo) (hi0:Tryz.prog.info? 3=some i0) (hz0:i0.zero=some (.int .i64 0)) (hz1:i0.size=1) (hz2:i0.bytes=8)
 (Hll:Hid (b.length=m)) (Hr:Hid (Rd w w.heap.size 1 A m (b.map bv))) (hB0:Below w.heap.size w w) (hmc:m<=c) (hcl:c<=maxLen) (R:List Int×Int) (n0 a0:Nat) (ha0:a0<=m)
 (H0:Hid (eC b 0=(n0,(a0:Int),0))) (Hn0:Hid (n0 < 18446744073709551616)) (mst:Nat) (H1:Hid (rgo b mst n0 a0 257 []=R)) (hmsb:mst<=1099511627776) (hcase:most=(mst:Int)∨(most < 0/\mst<=0)):
 Calls Tryz.prog 87 #[.slice A m c,.int .i64 most] w fun e w'=>aAO w w' R e/\Below w.heap.size w w':=by
 have Hcase:=lhd hcase;clear hcase;go_enter Tryz.func87,Tryz.ntmps87;go_wp2_with (go_at_call 153;refine (eV _ _ _ _ _ _ _ _ _ _ H0.out Hr.out hmc hcl).mono ?_;rintro e w5 ⟨rfl,rfl⟩);go_loopw [6,7,9,10] (fun x y v z wr=>∃(n a last:Nat) (acc:List Int),x=.int .u64 (n:Int)/\y=.int .i64 (a:Int)/\z=.int .u64 (last:Int)/\wr.ownsRow w.heap.size 3 1 v acc.length (acc.map iv)/\acc.length<=mst/\a<=m/\n < 18446744073709551616/\rgo b mst n a last acc=R/\Below w.heap.size w wr) (fun x _ _ _ _=>(intOf x).toNat)
 case atStart=>exact ⟨n0,a0,257, [],rfl,rfl,rfl,World.ownsRow_nil _ _ _ _,zAp _,ha0,Hn0.out,H1.out,hB0⟩
 case round=>
  obtain ⟨n,a,last,acc,rfl,rfl,rfl,hown,hacc,ha,hn,hg,hb⟩:=hrel;obtain ⟨Hg,Hn⟩:=hqq2 hg hn;have hsz:=hb.size;have hr2:=Hr.out.below hb;have Hr2:=lhd hr2;clear hg hn hr2;rcases n with _ | n
  · have hgt:((0:Nat):Int)=0:=rfl;by_cases hend:a=m
    · have hR:(acc,0)=R:=(by rw [<-Hg.out,rgo,zBx (by rw [Hll.out];exact hend)]);have HR:=lhd hR;have ht:((a:Int)==(m:Int))=true:=(by rw [zCp];omega);obtain ⟨A',c',rfl,hm3⟩:=aS hown;clear hend hR hown;go_wp2;go_ret2;refine ⟨?_,hb⟩;rw [<-HR.out];exact ⟨A',c',rfl,hm3⟩
    · have hR:([],4)=R:=(by rw [<-Hg.out,rgo,zBw (by rw [Hll.out];exact hend)]);have HR:=lhd hR;have ht:((a:Int)==(m:Int))=false:=(by rw [zCb];omega);clear hend hR;go_wp2;go_ret2;exact ⟨fX HR.out,hb⟩
  · have hab:a<=b.length:=(by rw [Hll.out];exact ha);rcases h1:eD (b.drop a) true 0 a with _ |⟨s,to⟩
    · have hR:([],4)=R:=(by rw [<-Hg.out,aBf _ _ _ _ _ _ (aBa _ _ h1)]);obtain ⟨HR,Hb1⟩:=hqq2 hR (oQ b a hab h1);clear hR hab h1;go_wp2_with (go_at_call 153;refine (eV _ _ _ _ _ _ _ _ _ _ Hb1.out Hr2.out hmc hcl).mono ?_;rintro e w5 ⟨rfl,rfl⟩);go_ret2;exact ⟨fX HR.out,hb⟩
    · have hle1:=uY _ _ _ _ _ _ h1;have hb1:=oP b a s to hab h1;have hto:to<=m:=(by rw [zAw,Hll.out] at hle1;omega);have htob:to<=b.length:=(by rw [Hll.out];exact hto);obtain ⟨Hb1,Hs64⟩:=hqq2 hb1 hle1.2.2;rcases h2:eD (b.drop to) true 0 to with _ |⟨k,e⟩
      · have hR:([],4)=R:=(by rw [<-Hg.out,aBf _ _ _ _ _ _ (aA9 _ _ _ _ h1 h2)]);obtain ⟨HR,Hb2⟩:=hqq2 hR (oQ b to htob h2);clear hR hab h1 h2 hb1 hle1 htob;go_wp2_with fail;refine (eV _ _ _ _ _ _ _ _ _ _ Hb1.out Hr2.out hmc hcl).mono ?_;rintro e w5 ⟨rfl,rfl⟩;go_wp2_with fail;refine (eV _ _ _ _ _ _ _ _ _ _ Hb2.out Hr2.out hmc hcl).mono ?_;rintro e w5 ⟨rfl,rfl⟩;go_wp2;go_ret2;exact ⟨fX HR.out,hb⟩
      · have hle2:=uY _ _ _ _ _ _ h2;have hb2:=oP b to k e htob h2;have he:e<=m:=(by rw [zAw,Hll.out] at hle2;omega);have Hb2:=lhd hb2;have hrun2:rgo b mst (n+1) a last acc=if 257<=s∨s=last∨k=0 then ([],4) else if mst - acc.length < k then ([],3) else rgo b mst n e s (acc++List.replicate k (s:Int)):=aBe _ _ _ _ _ _ _ _ _ (uI _ _ _ _ _ _ h1 h2);obtain ⟨Hrun2,Hk64⟩:=hqq2 hrun2 hle2.2.2;clear hab h1 h2 hb1 hle1 htob hb2 hle2 hrun2;by_cases hbad:257<=s∨s=last∨k=0
        · have hR:([],4)=R:=(by rw [<-Hg.out,Hrun2.out,zBx hbad]);have HR:=lhd hR;have hbad':257<=s∨(s < 257/\s=last)∨(s < 257/\s≠last/\k=0):=oM;clear hR hbad;rcases hbad' with h |⟨h,h'⟩|⟨h,h',h''⟩
          · go_wp2_with fail;refine (eV _ _ _ _ _ _ _ _ _ _ Hb1.out Hr2.out hmc hcl).mono ?_;rintro e w5 ⟨rfl,rfl⟩;go_wp2_with fail;refine (eV _ _ _ _ _ _ _ _ _ _ Hb2.out Hr2.out hmc hcl).mono ?_;rintro e w5 ⟨rfl,rfl⟩;go_wp2;go_ret2;exact ⟨fX HR.out,hb⟩
          · subst h';go_wp2_with fail;refine (eV _ _ _ _ _ _ _ _ _ _ Hb1.out Hr2.out hmc hcl).mono ?_;rintro e w5 ⟨rfl,rfl⟩;go_wp2_with fail;refine (eV _ _ _ _ _ _ _ _ _ _ Hb2.out Hr2.out hmc hcl).mono ?_;rintro e w5 ⟨rfl,rfl⟩;go_wp2;go_ret2;exact ⟨fX HR.out,hb⟩
          · subst h'';have ht:((s:Int)==(last:Int))=false:=(by rw [zCb];omega);clear h';go_wp2_with fail;refine (eV _ _ _ _ _ _ _ _ _ _ Hb1.out Hr2.out hmc hcl).mono ?_;rintro e w5 ⟨rfl,rfl⟩;go_wp2_with fail;refine (eV _ _ _ _ _ _ _ _ _ _ Hb2.out Hr2.out hmc hcl).mono ?_;rintro e w5 ⟨rfl,rfl⟩;go_wp2;go_ret2;exact ⟨fX HR.out,hb⟩
        · have h257:s < 257:=oM;have hk0:0 < k:=oM;have ht0:((k:Int)==0)=false:=(by rw [zCb];omega);have ht1:decide ((257:Int)<=(s:Int))=false:=(by simp;omega);have ht:((s:Int)==(last:Int))=false:=(by rw [zCb];omega);obtain ⟨q,hq⟩:=eqx acc.length;have hrun3:rgo b mst (n+1) a last acc=if mst - q < k then ([],3) else rgo b mst n e s (acc++List.replicate k (s:Int)):=(by rw [Hrun2.out,zBw hbad,hq]);obtain ⟨Hrun3,Hq⟩:=hqq2 hrun3 hq;rw [hq] at hown hacc;obtain ⟨A',c',rfl,hm3⟩:=aS hown;have Hown:=lhd hown;have hn64:=Hn.out;have hmxl:∃mx:Int,mx=(mst:Int) -(q:Int):=⟨_,rfl⟩;clear hbad hrun3 hq hm3 hown hmxl;by_cases hfull:mst - q < k
          · have hR:([],3)=R:=(by rw [<-Hg.out,Hrun3.out,zBx hfull]);have HR:=lhd hR;have hf2:(mst:Int) -(q:Int) < (k:Int):=oM;clear hR hfull hn64;rcases Hcase.out with hc |⟨hc,hc'⟩
            · subst hc;go_wp2_with fail;refine (eV _ _ _ _ _ _ _ _ _ _ Hb1.out Hr2.out hmc hcl).mono ?_;rintro e w5 ⟨rfl,rfl⟩;go_wp2_with fail;refine (eV _ _ _ _ _ _ _ _ _ _ Hb2.out Hr2.out hmc hcl).mono ?_;rintro e w5 ⟨rfl,rfl⟩;go_wp2;go_ret2;exact ⟨fX HR.out,hb⟩
            · go_wp2_with fail;refine (eV _ _ _ _ _ _ _ _ _ _ Hb1.out Hr2.out hmc hcl).mono ?_;rintro e w5 ⟨rfl,rfl⟩;go_wp2_with fail;refine (eV _ _ _ _ _ _ _ _ _ _ Hb2.out Hr2.out hmc hcl).mono ?_;rintro e w5 ⟨rfl,rfl⟩;go_wp2;go_ret2;exact ⟨fX HR.out,hb⟩
          · have hR:rgo b mst n e s (acc++List.replicate k (s:Int))=R:=(by rw [<-Hg.out,Hrun3.out,zBw hfull]);have HR:=lhd hR;have hf2:(k:Int)<=(mst:Int) -(q:Int):=oM;have hc:most=(mst:Int):=(by rcases Hcase.out with h |⟨_,h⟩<;> omega);subst hc;clear hR hfull;go_wp2_with fail;refine (eV _ _ _ _ _ _ _ _ _ _ Hb1.out Hr2.out hmc hcl).mono ?_;rintro e w5 ⟨rfl,rfl⟩;go_wp2_with fail;refine (eV _ _ _ _ _ _ _ _ _ _ Hb2.out Hr2.out hmc hcl).mono ?_;rintro e w5 ⟨rfl,rfl⟩;go_wp2;go_loopw [9,73] (fun v i wx=>∃j:Nat,j<=k/\i=.int .u64 (j:Int)/\wx.ownsRow w.heap.size 3 1 v (q+j) ((acc++List.replicate j (s:Int)).map iv)/\Below w.heap.size w wx) (fun _ i _=>k -(intOf i).toNat)
            case atStart=>exact ⟨0,zAp _,rfl,by simpa using Hown.out,hb⟩
            case round=>
             obtain ⟨j,hj,rfl,hown1,hb1⟩:=hrel;have hsz1:=hb1.size;by_cases hjk:j < k
             · go_wp2_with (at_builtin;refine aY _ rfl (.tmp 75) (.tmp 78) _ rfl w.heap.size 3 i0 (.int .i64 0) 1 8 Tryz.underlying22 hi0 hz0 hz1 hz2 rfl dC u9 (q+j) _ rfl hown1 rfl rfl (by simp [Value.oneCell']) (by unfold maxLen;omega) oM hsz1 ?_;intro v2 w2 hown2 hg2 hs2 hat2);have hb2:=aW hb1 hown1 hg2 hsz1;clear hg2 hat2;go_roundw
               case rel=>refine ⟨j+1,by omega,by go_num,?_,hb2⟩;rw [List.replicate_succ',<-zCn,zAz];exact hown2
               case measure=>simp [intOf];omega
             · have hjk2:j=k:=oM;have hge:k<=j:=oM;rw [hjk2] at hown1;clear hjk2;go_wp2;refine ⟨⟨n,e,s,acc++List.replicate k (s:Int),gA oM,rfl,rfl,?_,?_,he,by omega,HR.out,hb1⟩,by simp [intOf]⟩;rw [zAi,zCm,Hq.out];exact hown1;rw [zAi,zCm,Hq.out];omega
theorem aDA (A:Option Addr) (m c B:Nat) (b:List UInt8) (most:Int) (w:World) (hr:Rd w B 1 A m (b.map bv)) (hB:B<=w.heap.size) (hmc:m<=c) (hcl:c<=maxLen) (hmost:most<=1099511627776) (hmost2:-9223372036854775808<=most):
 Calls Tryz.prog 87 #[.slice A m c,.int .i64 most] w fun e w'=>aAO w w' (lA b most) e/\Below w.heap.size w w':=by
 obtain ⟨i0,hi0,hz0,hz1,hz2⟩:=info_parts zO;have hll:b.length=m:=by simpa using hr.1
 obtain ⟨Hll,Hr⟩:=hqq2 hll (hr.mono hB);have hB0:=Below.refl w.heap.size w;obtain ⟨R,hR⟩:=eqx (lA b most);rw [hR];rcases hfirst:eD b true 0 0 with _ |⟨n0,a0⟩
 · have h0:eC b 0=(0,0,4):=oQ b 0 (zAp _) (by simpa using hfirst);have h1:([],4)=R:=(by rw [<-hR,lA,hfirst]);obtain ⟨H0,H1⟩:=hqq2 h0 h1;clear hr hll hR h0 h1 hfirst;go_enter Tryz.func87,Tryz.ntmps87;go_wp2_with (go_at_call 153;refine (eV _ _ _ _ _ _ _ _ _ _ H0.out Hr.out hmc hcl).mono ?_;rintro e w5 ⟨rfl,rfl⟩)
   go_loop [6] (fun x=>x=.int .u64 0) (fun _=>0)
   case atStart=>rfl
   case round=>subst hrel;go_wp2;go_ret2;exact ⟨fX H1.out,hB0⟩
 have hle:=uY _ _ _ _ _ _ hfirst;have h0:eC b 0=(n0,(a0:Int),0):=oP b 0 n0 a0 (zAp _) (by simpa using hfirst);have h1:rgo b most.toNat n0 a0 257 []=R:=(by rw [<-hR,lA,hfirst]);have ha0:a0<=m:=oM;obtain ⟨H0,H1,Hn0⟩:=hqq3 h0 h1 hle.2.2;obtain ⟨mst,hmst⟩:∃mst:Nat,most.toNat=mst:=⟨_,rfl⟩;rw [hmst] at H1;have hmsb:mst<=1099511627776:=oM;have hcase:most=(mst:Int)∨(most < 0/\mst<=0):=oM;clear hr hll hR h0 h1 hfirst hle hmst hmost hmost2;rcases hcase with hcase |⟨hneg,hm0⟩;subst hcase;exact sO A m c b (mst:Int) w i0 hi0 hz0 hz1 hz2 Hll Hr hB0 hmc hcl R n0 a0 ha0 H0 Hn0 mst H1 hmsb (.inl rfl);exact sO A m c b most w i0 hi0 hz0 hz1 hz2 Hll Hr hB0 hmc hcl R n0 a0 ha0 H0 Hn0 mst H1 hmsb (.inr ⟨hneg,hm0⟩)
theorem aE7 (A:Option Addr) (m c B:Nat) (b:List UInt8) (most:Int) (w:World) (l:List Int) (n:Nat) (k:Int) (h:lA b most=(l,k)) (hn:l.length=n) (hr:Rd w B 1 A m (b.map bv)) (hB:B<=w.heap.size) (hmc:m<=c) (hcl:c<=maxLen) (hmost:most<=1099511627776) (hmost2:-9223372036854775808<=most):
 Calls Tryz.prog 87 #[.slice A m c,.int .i64 most] w fun e w'=>∃A' c',e=.returned (.tuple #[.slice A' n c',.int .i64 k])/\Made w' w.heap.size 3 1 A' n c' (l.map iv)/\Below w.heap.size w w':=by
 subst hn;refine (aDA A m c B b most w hr hB hmc hcl hmost hmost2).mono fun e w' ⟨⟨A',c',he,hm⟩,hb⟩=>?_;rw [h] at he hm;exact ⟨A',c',he,hm,hb⟩
theorem yQ (x:Int) (w:World):
 Calls Tryz.prog 209 #[.int .i64 x] w fun e w'=>e=.returned (.bool (decide (eG x)))/\w=w':=by
 have hd:∀b,b=decide (0<=x/\x < 257)->Ending.returned (.bool b)=Ending.returned (.bool (decide (eG x))):=fun b h=>by rw [h];rfl
 by_cases h0:0<=x
 · by_cases h1:x < 257
   · go_enter Tryz.func209,Tryz.ntmps209;go_wp2;go_ret;exact ⟨hd _ (by simp [h0,h1]),rfl⟩
   · go_enter Tryz.func209,Tryz.ntmps209;go_wp2;go_ret;exact ⟨hd _ (by simp [h0,h1]),rfl⟩
 · go_enter Tryz.func209,Tryz.ntmps209;go_wp2;go_ret;exact ⟨hd _ (by simp;omega),rfl⟩
theorem aBk (A:Option Addr) (m c B:Nat) (l:List Int) (w:World) (hr:Rd w B 1 A m (l.map iv)) (hm:m<=1099511627776):
 Calls Tryz.prog 150 #[.slice A m c] w fun e w'=>e=.returned (.bool (decide (∀x∈l,eG x)))/\w=w':=by
 have hll:l.length=m:=by simpa using hr.1
 obtain ⟨Hll,Hr⟩:=hqq2 hll hr;clear hr hll;go_enter Tryz.func150,Tryz.ntmps150;go_wp2
 go_loop [3] (fun i=>∃k:Nat,k<=m/\i=.int .i64 k/\∀x∈l.take k,eG x) (fun i=>m -(intOf i).toNat)
 case atStart=>exact ⟨0,zAp _,rfl,by simp⟩
 case round=>
  obtain ⟨k,hk,rfl,hok⟩:=hrel;have Hok:=lhd hok;clear hok;by_cases hlt:k < m
  · obtain ⟨x,hx⟩:∃x,l[k]?=some x:=⟨l[k]'(by have:=Hll.out;omega),zAa (by have:=Hll.out;omega)⟩;obtain ⟨b,off,u,rfl,hbl,hu,hc⟩:=Hr.out.get hlt;rw [zAf,hx] at hu;simp at hu;subst hu;unfold iv at hc;have Hx:=lhd hx;clear hx;by_cases hs:eG x
    · go_wp2_with fail;refine (yQ x _).mono ?_;rintro e w' ⟨rfl,rfl⟩;rw [show decide (eG x)=true by simpa using hs];go_wp2
      go_round
      case rel=>refine ⟨k+1,by omega,by go_num,?_⟩;have hkl:=(zAc.1 Hx.out).1;rw [List.take_succ_eq_append_getElem hkl,(zAc.1 Hx.out).2];intro y hy;rcases zCo.1 hy with hy | hy;exact Hok.out y hy;rw [List.mem_singleton.1 hy];exact hs
      case measure=>simp [intOf];omega
    · go_wp2_with fail;refine (yQ x _).mono ?_;rintro e w' ⟨rfl,rfl⟩;rw [show decide (eG x)=false by simpa using hs];go_wp2;go_ret;refine ⟨eP ?_,rfl⟩;symm;rw [decide_eq_false_iff_not];exact fun h=>hs (h x (zAd Hx.out))
  · have hge:m<=k:=oM;go_wp2;go_ret;refine ⟨eP ?_,rfl⟩;symm;rw [decide_eq_true_iff];have:=Hok.out;rwa [zAg (by have:=Hll.out;omega)] at this
theorem aGu (l:List Int):(∀x∈l,eG x)↔∀x∈aU l,eG x.1:=by
 constructor;intro h x hx;have h1:=(rC l).1 x hx;have h2:x.1∈dV (aU l):=List.mem_flatMap.2 ⟨x,hx,List.mem_replicate.2 ⟨by omega,rfl⟩⟩;rw [iF] at h2;exact h _ h2;intro h x hx;rw [<-iF l] at hx;obtain ⟨y,hy,hxy⟩:=List.mem_flatMap.1 hx;rw [(List.mem_replicate.1 hxy).2];exact h y hy
theorem aEu:(Tryz.prog.info? 196).map (fun i=>(i.zero,i.size,i.bytes))=some (some (.agg #[.int .i64 0,.int .i64 0]),2,16):=by kernel_rfl
theorem aBj (A:Option Addr) (m c B:Nat) (l:List Int) (w:World) (hr:Rd w B 1 A m (l.map iv)) (hB:B<=w.heap.size) (hm:m<=1099511627776):
 Calls Tryz.prog 151 #[.slice A m c] w fun e w'=>∃v,e=.returned v/\w'.ownsRow w.heap.size 196 2 v (aU l).length (bC (aU l))/\Below w.heap.size w w':=by
 obtain ⟨i0,hi0,hz0,hz1,hz2⟩:=info_parts aEu;have hll:l.length=m:=by simpa using hr.1
 obtain ⟨Hll,Hr⟩:=hqq2 hll (hr.mono hB);clear hr hll;go_enter Tryz.func151,Tryz.ntmps151;go_wp2;go_loopw [3,4] (fun v i wr=>∃k:Nat,k<=m/\i=.int .i64 k/\wr.ownsRow w.heap.size 196 2 v (aU (l.take k)).length (bC (aU (l.take k)))/\Below w.heap.size w wr) (fun _ i _=>m -(intOf i).toNat)
 case atStart=>exact ⟨0,zAp _,rfl,World.ownsRow_nil _ _ _ _,Below.refl _ _⟩
 case round=>
  obtain ⟨k,hk,rfl,hown,hb⟩:=hrel;have hsz:=hb.size;by_cases hlt:k < m
  · obtain ⟨s,hs⟩:∃s,l[k]?=some s:=⟨l[k]'(by have:=Hll.out;omega),zAa (by have:=Hll.out;omega)⟩;obtain ⟨b,off,u,rfl,hbl,hu,hc⟩:=(Hr.out.below hb).get hlt;rw [zAf,hs] at hu;simp at hu;subst hu;unfold iv at hc;have hnext:=rY l k s hs;have hlen:=gN (l.take k);rw [zAj] at hlen;have hcnt:∀x∈aU (l.take k),x.2<=m:=fun x hx=>by have:=jA _ x hx;rw [zAj] at this;omega
    generalize aU (l.take k)=r at*
    have Hnext:=lhd hnext;clear hnext hs;rcases List.eq_nil_or_concat r with rfl |⟨q,⟨x,n⟩,rfl⟩
    · obtain ⟨A',c',rfl,hm3⟩:=aS hown;have hlen0:([]:List (Int×Nat)).length=0:=rfl;rw [hlen0] at*
      clear hm3 hcnt;go_wp2;go_quiet (fail);obtain ⟨wq,hwq⟩:=eqx (wr.drewN nq);have hown2:wq.ownsRow w.heap.size 196 2 (.slice A' 0 c') 0 (bC []):=(by rw [<-hwq];exact hown);have hb2:Below w.heap.size w wq:=(by rw [<-hwq];exact below_drewN hb _);have hc2:wq.cell? ⟨b,off+k,none⟩=some (.int .i64 s):=(by rw [<-hwq];exact hc);have hsz2:=hb2.size;rw [hwq];clear hwq hown hb hc hsz;go_wp2_with (at_builtin;refine aY _ rfl (.tmp 38) (.tmp 44) _ rfl w.heap.size 196 i0 _ 2 16 Tryz.underlying194 hi0 hz0 hz1 hz2 rfl dC (.slice A' 0 c') 0 _ rfl hown2 rfl rfl (by simp [Value.oneCell']) (by unfold maxLen;omega) oM hsz2 ?_;intro v2 w2 hown3 hg2 hs2 hat2);have hb3:=aW hb2 hown2 hg2 hsz2;clear hg2 hat2;go_roundw
      case rel=>refine ⟨k+1,by omega,by go_num,?_,hb3⟩;rw [Hnext.out,rZ];exact hown3
      case measure=>simp [intOf];omega
    · rw [List.concat_eq_append] at*
      obtain ⟨p,hp⟩:=eqx q.length;have hl1:(q++ [(x,n)]).length=p+1:=(by simp [hp]);rw [hl1] at hown hlen;obtain ⟨g,cap,cur,rfl,hg0,hgb,hpc,hcm,_⟩:∃g cap cur,u3=.slice (some ⟨g,0,none⟩) (p+1) cap/\w.heap.size<=g/\wr.heap[g]?=some (.cells cur 196 (0,0))/\p+1<=cap/\cap<=maxLen/\True:=(by rcases hown.2 with ⟨_,h⟩|⟨g,cap,cur,h1,h2,h3,h4,h5,_⟩;omega;exact ⟨g,cap,cur,h1,h2,h3,h4,h5,trivial⟩);have hx0:(bC (q++ [(x,n)]))[p*2]?=some (iv x):=(by have:=dP (q++ [(x,n)]) p 0 (x,n) (by rw [zAo oM,hp];simp) oM;simpa [gT] using this);have hx1:(bC (q++ [(x,n)]))[p*2+1]?=some (iv n):=(by have:=dP (q++ [(x,n)]) p 1 (x,n) (by rw [zAo oM,hp];simp) oM;simpa [gT] using this);have g0:wr.cell? ⟨g,p*2,none⟩=some (.int .i64 x):=(hown.cellAt (p*2) oM).trans hx0;have g1:wr.cell? ⟨g,p*2+1,none⟩=some (.int .i64 (n:Int)):=(hown.cellAt (p*2+1) oM).trans hx1;have f1:=hown.frozenAt (p*2+1);have hnb:(n:Int)<=1099511627776:=(by have:=hcnt (x,n) (by simp);simp only at this;omega);obtain ⟨P1,hP1⟩:∃P1,P1=p+1:=⟨_,rfl⟩;have hpp:(P1:Int) - 1=(p:Int):=oM;have hpos:0 < P1:=oM;have hpos2:(0:Int) < (P1:Int):=oM;have t4:decide ((P1:Int) > 0)=true:=(by rw [decide_eq_true_iff];omega);have t5:p < P1:=oM;have Hp:=lhd hp;rw [<-hP1] at hown hlen hpc⊢;have HP1:=lhd hP1;clear hx0 hx1 hp hl1 hgb hcnt hP1;by_cases hxs:x=s
      · have t1:(x==s)=true:=(by rw [zCp];exact hxs);have Hxs:=lhd hxs;clear hxs;go_wp2;go_quiet (fail);go_wp2;obtain ⟨hst,hgr⟩:=hown.stored (p*2+1) (.int .i64 ((n:Int)+1));refine ⟨⟨k+1,by omega,by go_num,?_,(below_drewN hb nq).setCell (p:=⟨g,p*2+1,none⟩) hg0 _⟩,by simp [intOf];omega⟩;rw [Hnext.out,<-Hxs.out,fB];have e1:(q++ [(x,n+1)]).length=P1:=(by simp [Hp.out,HP1.out]);have e2:(bC (q++ [(x,n)])).set (p*2+1) (.int .i64 ((n:Int)+1))=bC (q++ [(x,n+1)]):=(by rw [dO,dO,List.set_append_right _ _ (by rw [iQ,Hp.out];omega),iQ,Hp.out];congr 1;rw [show p*2+1 - p*2=1 by omega];rfl);rw [e1,<-e2];exact hst
      · have t1:(x==s)=false:=(by rw [zCb];exact hxs);have Hxs:=lhd hxs;clear hxs;go_wp2;go_quiet (fail);obtain ⟨wq,hwq⟩:=eqx (wr.drewN nq);have hown2:wq.ownsRow w.heap.size 196 2 (.slice (some ⟨g,0,none⟩) P1 cap) P1 (bC (q++ [(x,n)])):=(by rw [<-hwq];exact hown);have hb2:Below w.heap.size w wq:=(by rw [<-hwq];exact below_drewN hb _);have hc2:wq.cell? ⟨b,off+k,none⟩=some (.int .i64 s):=(by rw [<-hwq];exact hc);have hsz2:=hb2.size;rw [hwq];clear hwq hown hb hc hsz g0 g1 f1;go_wp2_with (at_builtin;refine aY _ rfl (.tmp 38) (.tmp 44) _ rfl w.heap.size 196 i0 _ 2 16 Tryz.underlying194 hi0 hz0 hz1 hz2 rfl dC (.slice (some ⟨g,0,none⟩) P1 cap) P1 _ rfl hown2 rfl rfl (by simp [Value.oneCell']) (by unfold maxLen;omega) oM hsz2 ?_;intro v2 w2 hown3 hg2 hs2 hat2);have hb3:=aW hb2 hown2 hg2 hsz2;clear hg2 hat2;go_roundw
        case rel=>refine ⟨k+1,by omega,by go_num,?_,hb3⟩;rw [Hnext.out,eS _ _ _ _ Hxs.out,dO];have e1:(q++ [(x,n)]++ [(s,1)]).length=P1+1:=(by simp [Hp.out,HP1.out]);rw [e1];exact hown3
        case measure=>simp [intOf];omega
  · have hkm:k=m:=oM;have htk:l.take k=l:=zAg (by have:=Hll.out;omega);have hge:m<=k:=oM;rw [htk] at hown;clear hkm htk;go_wp2;go_ret;exact ⟨u3,rfl,hown,hb⟩
theorem aCI (A:Option Addr) (m c B:Nat) (l:List Int) (w:World) (r:List (Int×Nat)) (n:Nat) (h:aU l=r) (hn:r.length=n) (hr:Rd w B 1 A m (l.map iv)) (hB:B<=w.heap.size) (hm:m<=1099511627776):
 Calls Tryz.prog 151 #[.slice A m c] w fun e w'=>∃A' c',e=.returned (.slice A' n c')/\Made w' w.heap.size 196 2 A' n c' (bC r)/\Below w.heap.size w w':=by
 subst h;subst hn;refine (aBj A m c B l w hr hB hm).mono fun e w' ⟨v,he,ho,hb⟩=>?_;obtain ⟨A',c',rfl,hm⟩:=aS ho;exact ⟨A',c',he,hm,hb⟩
theorem aED:(Tryz.prog.info? 226).map (fun i=>(i.zero,i.size,i.bytes))=some (some (.agg #[.int .i64 0,.int .i64 0,.int .i64 0,.int .i64 0,.int .i64 0,.int .i64 0,.int .i64 0,.pointer none]),8,64):=by kernel_rfl
theorem aBn {w:World} {g sz:Nat} {e:TypeId} {cs:Array Value} (h:Bk w g e cs) (hs:cs.size=sz):Rd w w.heap.size sz (some ⟨g,0,none⟩) 1 cs.toList:=by
 refine ⟨by simp [hs],fun _=>⟨g,0,rfl,h.lt,fun i u hu=>?_⟩⟩;rw [zBi,h.cell i];rw [<-hu];simp
structure Leaf (w:World) (B gt ga gl cl gb:Nat) (rt v:Int) (bs:List Bool):Prop where
 tree:Bk w gt 223 #[.pointer (some ⟨ga,0,none⟩),.slice (some ⟨gl,0,none⟩) 1 cl,.int .i64 rt,.int .i64 v]
 row:RowS B gl cl gb (bs.length:Int) ((bs.count true:Nat):Int) w
 blk:Bk w gb 254 (gK bs)
 arena:∃A c,Bk w ga 215 #[.slice A 1 c,.slice none 0 0,.int .i64 268435456]/\Made w B 4 1 A 1 c [.bool true]
theorem aHq {w:World} {B:Nat} {A:Option Addr} {c:Nat} {xs:List Value} {e:TypeId} {sz:Nat} (h:w.ownsRow B e sz (.slice A 1 c) 1 xs):∃gl,A=some ⟨gl,0,none⟩:=by
 obtain ⟨g,cap,hv,_,_⟩:=World.ownsRow.form h oM;injection hv with hv;exact ⟨g,hv⟩
theorem aHA {w w':World} {B B' gl cl gb:Nat} {x y:Int} {A:Option Addr} {n c:Nat} {xs:List Value} (hr:RowS B gl cl gb x y w) (k:Keep (fun b=>b=gl) w w') (h:Made w B' 4 1 A n c xs):Made w' B' 4 1 A n c xs:=by
 have ho:w'.ownsRow B' 4 1 (.slice A n c) n xs:=by refine ⟨h.own.1,?_⟩;rcases h.own.2 with h1 |⟨g',cap,cur,h1,h2,h3,h4⟩;exact .inl h1;refine .inr ⟨g',cap,cur,h1,h2,(k.block g' (lt_of_block h3) (fun e'=>?_)).trans h3,h4⟩;exact hr.bk_ne (t:=4) h3 dC e'
 exact ⟨ho,Rd.of_own ho,h.cap,h.max⟩
theorem aCX (gt ga gb:Nat) (v:Int) (bs:List Bool) (w:World) (ht:Bk w gt 223 #[.pointer (some ⟨ga,0,none⟩),.slice none 0 0,.int .i64 (-1),.int .i64 v]) (ha:Bk w ga 215 #[.slice none 0 0,.slice none 0 0,.int .i64 268435456]) (hb:Bk w gb 254 (gK bs)) (hl:bs.length<=128):
 Calls Tryz.prog 270 #[.pointer (some ⟨gt,0,none⟩),.agg #[.int .i64 (-1),.int .i64 (-1),.int .i64 0,.int .i64 0,.int .i64 0,.int .i64 0,.int .i64 0,.pointer (some ⟨gb,0,none⟩)]] w fun e w'=>e=.returned (.int .i64 0)/\Keep (fun b=>b=ga∨b=gt) w w'/\∃gl cl,Leaf w' w.heap.size gt ga gl cl gb (-1) v bs:=by
 obtain ⟨i0,hi0,hz0,hz1,hz2⟩:=info_parts aED;have hgt:=ht.lt;have hga:=ha.lt;have hgb:=hb.lt;have hta:gt≠ga:=Bk.ne ht ha dC;have htb:gt≠gb:=Bk.ne ht hb dC;have hab:ga≠gb:=Bk.ne ha hb dC;have q0:w.cell? ⟨gt,0,none⟩=some (.pointer (some ⟨ga,0,none⟩)):=(ht.cell 0).trans rfl;obtain ⟨Ht,Ha,Hb⟩:=hqq3 ht ha hb;clear ht ha hb;go_enter Tryz.func270,Tryz.ntmps270;go_wp2_with fail;obtain ⟨nb,hnb⟩:=eqx w.heap.size;refine (aDq ga _ (Ha.out.alloc _)).mono ?_;rintro e w1 ⟨rfl,hk1,A1,c1,ha1,hm1⟩;have hn1:Bk w1 nb 226 #[.int .i64 (-1),.int .i64 (-1),.int .i64 0,.int .i64 0,.int .i64 0,.int .i64 0,.int .i64 0,.pointer (some ⟨gb,0,none⟩)]:=by rw [<-hnb];exact hk1.bk (Bk.new w _ _) (fun h=>absurd (show w.heap.size=ga from h) oM)
 have ht1:=hk1.bk (Ht.out.alloc _) (fun h=>hta h);have hb1:=hk1.bk (Hb.out.alloc _) (fun h=>hab h.symm);have hs1:=hk1.size;rw [World.size_alloc] at hs1 hm1;have q1:w1.cell? ⟨gt,1,none⟩=some (.slice none 0 0):=(ht1.cell 1).trans rfl;have HK1:=lhd hk1;clear hk1;go_wp2_with fail;refine wp_region_any kR ?_;refine cB [22,23,24,25,26,27,28,29,30,31] (fun b=>b=gt) 10 [4,10] (fun w2=>Bk w2 gt 223 #[.pointer (some ⟨ga,0,none⟩),.slice none 0 0,.int .i64 (-1),.int .i64 v]) (fun _ w2=>∃A c,Bk w2 gt 223 #[.pointer (some ⟨ga,0,none⟩),.slice A 1 c,.int .i64 (-1),.int .i64 v]/\Made w2 (nb+1) 226 8 A 1 c (yU 0 0 gb)) [is (.pointer (some ⟨gt,0,none⟩)),is (.pointer (some ⟨gt,0,none⟩)),is (.pointer (some ⟨gt,0,none⟩)),is (.pointer (some ⟨gt,1,none⟩)),is (.slice none 0 0),is (.agg #[.int .i64 (-1),.int .i64 (-1),.int .i64 0,.int .i64 0,.int .i64 0,.int .i64 0,.int .i64 0,.pointer (some ⟨gb,0,none⟩)]),pO (fun b=>b=gt) 226 #[.int .i64 (-1),.int .i64 (-1),.int .i64 0,.int .i64 0,.int .i64 0,.int .i64 0,.int .i64 0,.pointer (some ⟨gb,0,none⟩)] fun g=>.slice (some ⟨g,0,none⟩) 1 1,aGl (nb+1) 226 8 1 (yU 0 0 gb),is (.pointer (some ⟨gt,0,none⟩)),is (.pointer (some ⟨gt,1,none⟩)),dJ] _ _ rfl kR kR (ht1) (fun w2 w3 h _ hg=>Bk.below h hg h.lt) (fun _ _ _ ⟨A,c,h1,h2⟩ k=>⟨A,c,Bk.below h1 k h1.lt,h2.below k⟩) (by repeat' (first | exact cL _ _ | exact bV _ | exact kP _ _ _ _ | exact aEj (fun b hb=>by subst hb;omega) _ _ _ _ |(refine zAe.2 ⟨?_,?_⟩)|(intro p hp;cases hp))) ?_ ?_
 · refine aT ?_;refine pH3 0 (.pointer (some ⟨gt,0,none⟩)) ?_;refine pH3 0 (.pointer (some ⟨gt,0,none⟩)) ?_;refine pV3 1 23 ?_;refine pV3 2 24 ?_;refine sC3 (fun _ w5 _ hU _ _ _ hval _ _ _ hK=>?_) ?_
   · have hpre:=hU rfl;have e25:_=_:=hval 3 25 kR rfl;have c26:w5.cell? ⟨gt,1,none⟩=some (.slice none 0 0):=(hpre.cell 1).trans rfl;go_simp;exact kq hK rfl
   refine sC3 (fun ev w5 hS _ _ _ hold _ _ _ _ hK=>?_) ?_
   · replace hS:Keep (fun b=>b=gt) w1 w5:=kD hS;have e3:ev (.tmp 3)=.pointer (some ⟨nb,0,none⟩):=hold 3 kR;have hn5:=hS.bk hn1 (fun h=>absurd (show nb=gt from h) oM);have x0:w5.cell? ⟨nb,0,none⟩=some (.int .i64 (-1)):=(hn5.cell 0).trans rfl;have x1:w5.cell? ⟨nb,1,none⟩=some (.int .i64 (-1)):=(hn5.cell 1).trans rfl;have x2:w5.cell? ⟨nb,2,none⟩=some (.int .i64 0):=(hn5.cell 2).trans rfl;have x3:w5.cell? ⟨nb,3,none⟩=some (.int .i64 0):=(hn5.cell 3).trans rfl;have x4:w5.cell? ⟨nb,4,none⟩=some (.int .i64 0):=(hn5.cell 4).trans rfl;have x5:w5.cell? ⟨nb,5,none⟩=some (.int .i64 0):=(hn5.cell 5).trans rfl;have x6:w5.cell? ⟨nb,6,none⟩=some (.int .i64 0):=(hn5.cell 6).trans rfl;have x7:w5.cell? ⟨nb,7,none⟩=some (.pointer (some ⟨gb,0,none⟩)):=(hn5.cell 7).trans rfl;go_simp;exact kq hK rfl
   refine sC3 (fun _ w5 hS _ _ _ _ hval _ _ _ hK=>?_) ?_
   · replace hS:Keep (fun b=>b=gt) w1 w5:=kD hS;have e27:_=_:=hval 5 27 kR rfl;go_simp;exact hK _ _ (aP (bR.alloc nL _)) ⟨_,rfl,Bk.new _ _ _,fun h=>by have:=hS.size;have h0:w5.heap.size=gt:=h;omega⟩
   refine sC3 (fun ev w5 hS _ _ _ _ hval _ _ ha hK=>?_) ?_;replace hS:Keep (fun b=>b=gt) w1 w5:=kD hS;have e26:_=_:=hval 4 26 kR rfl;have p28:(pO (fun b=>b=gt) 226 #[.int .i64 (-1),.int .i64 (-1),.int .i64 0,.int .i64 0,.int .i64 0,.int .i64 0,.int .i64 0,.pointer (some ⟨gb,0,none⟩)] fun g=>.slice (some ⟨g,0,none⟩) 1 1) (ev (.tmp 28)) w5:=hval 6 28 kR rfl;obtain ⟨g28,e28,hb28,hn28⟩:=p28;subst ha;have hw5:nb+1<=w5.heap.size:=(by have:=hS.size;omega);refine eJ w5 (.tmp 26) (.tmp 28) _ rfl (nb+1) 226 i0 _ 8 64 Tryz.underlying221 hi0 hz0 hz1 hz2 rfl dC (.slice none 0 0) 0 [] e26 (World.ownsRow_nil _ _ _ _) w5.heap.size (some ⟨g28,0,none⟩) 1 1 _ e28 (aBn hb28 rfl) (by simp [Value.oneCell']) (by unfold maxLen;omega) oM hw5 ?_;intro v6 w6 hown6 hg6 hat6;rw [zBi,List.nil_append] at hown6;obtain ⟨A9,c9,rfl,hm9⟩:=aS hown6;exact hK _ _ (aP ⟨hg6.os,hg6.tape,hg6.output,hg6.size,fun k hk=>hg6.block k hk (by simp [Value.ownBlock])⟩) ⟨A9,c9,rfl,hm9⟩;refine pV3 0 22 ?_;refine pV3 8 30 ?_;refine sC3 (fun ev w5 _ hU _ _ _ hval _ _ _ hK=>?_) ?_
   · have hpre:=hU rfl;have e31:_=_:=hval 9 31 kR rfl;have p29:(aGl (nb+1) 226 8 1 (yU 0 0 gb)) (ev (.tmp 29)) w5:=hval 7 29 kR rfl;obtain ⟨A9,c9,e29,hm9⟩:=p29;have c31:w5.cell? ⟨gt,1,none⟩=some (.slice none 0 0):=(hpre.cell 1).trans rfl;have f31:=hpre.frozen 1;go_simp;exact hK (.bool true) _ (bG (Keep.setCell (F:=fun b=>b=gt) (Keep.refl _ _) (p:=⟨gt,1,none⟩) (.inl rfl) _)) ⟨A9,c9,hpre.set 1 _,hm9.keepF (Keep.setCell (F:=fun b=>b=gt) (Keep.refl _ _) (p:=⟨gt,1,none⟩) (.inl rfl) _) (fun b hb=>by subst hb;omega)⟩
   exact aG
 · intro ev w6 hS hval hall;replace hS:Keep (fun b=>b=gt) w1 w6:=kD hS;obtain ⟨vJ,pJ⟩:∃vJ0,(fun _ w2=>∃A c,Bk w2 gt 223 #[.pointer (some ⟨ga,0,none⟩),.slice A 1 c,.int .i64 (-1),.int .i64 v]/\Made w2 (nb+1) 226 8 A 1 c (yU 0 0 gb)) vJ0 w6:=hall 10 dC;simp only [aO,zq1,zq2,Act.put,zq3,zq4,zq5];clear hval hall;obtain ⟨A9,c9,ht6,hm6⟩:=pJ;obtain ⟨gl,rfl⟩:=aHq hm6.own;have hr6:RowS (nb+1) gl c9 gb 0 0 w6:=hm6.own;have hb6:=hS.bk hb1 (fun h=>htb h.symm);have ha6:=hS.bk ha1 (fun h=>hta h.symm);have hm16:=hm1.keepF hS (fun b hb=>by subst hb;omega);have HS:=lhd hS;have hgl:=hr6.lt;clear hS hm6;go_wp2_with fail;refine (pY gt ga gl c9 gb (nb+1) (-1) v bs w6 ht6 hr6 hb6 hl).mono ?_;rintro e w7 ⟨rfl,hk7,hr7⟩;have ht7:=hk7.bk ht6 (fun h=>absurd (show gt=gl from h) oM);have hb7:=hk7.bk hb6 (fun h=>absurd (show gb=gl from h) oM);have ha7:=hk7.bk ha6 (fun h=>absurd (show ga=gl from h) oM);have hm7:Made w7 w.heap.size 4 1 A1 1 c1 [.bool true]:=(aHA hr6 hk7 hm16).mono oM;have hkeep:Keep (fun b=>b=ga∨b=gt) w w7:=(by have k1:Keep (fun b=>b=ga∨b=gt) w w1:=(Keep.of_below (bR.alloc nL _)).trans (HK1.out.mono (fun b _ e=>.inl e));have k2:=k1.trans (HS.out.mono (fun b _ e=>.inr e));exact k2.trans' hk7 (fun b hb e=>absurd (show b=gl from e) oM));go_wp2_with fail;go_ret;rw [hnb] at*
   exact ⟨rfl,hkeep,gl,c9,ht7,bX hr7 oM,hb7,A1,c1,ha7,hm7⟩
theorem uV (gt ga gb:Nat) (v:Int) (bs:List Bool) (w:World) (ht:Bk w gt 223 #[.pointer (some ⟨ga,0,none⟩),.slice none 0 0,.int .i64 (-1),.int .i64 v]) (ha:Bk w ga 215 #[.slice none 0 0,.slice none 0 0,.int .i64 268435456]) (hb:Bk w gb 254 (gK bs)) (hl:bs.length<=128):
 Calls Tryz.prog 241 #[.pointer (some ⟨gt,0,none⟩),.pointer (some ⟨gb,0,none⟩)] w fun e w'=>e=.returned (.int .i64 0)/\Keep (fun b=>b=ga∨b=gt) w w'/\∃gl cl,Leaf w' w.heap.size gt ga gl cl gb (-1) v bs:=by
 go_enter Tryz.func241,Tryz.ntmps241;go_wp2_with fail;refine (aCX gt ga gb v bs w ht ha hb hl).mono ?_;rintro e w1 ⟨rfl,hk,gl,cl,h⟩;go_wp2_with fail;go_ret;exact ⟨rfl,hk,gl,cl,h⟩
end Go.Proofs.YtnhmjomhloainaaGreatDoor
