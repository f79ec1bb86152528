/- A region that draws its order, as in 'Loose7'; a property may name what stands in other slots of the frame (so a store into a new block can be told of the slot that holds its address). No conditions. The walk of run.Get. Condition: the most is at most 2^40. -/
import Derived.Test.YtipaccakmndkgaaGreatDoorPsl6
set_option linter.unusedVariables false
set_option linter.unusedSimpArgs false
set_option maxRecDepth 100000
set_option maxHeartbeats 4000000
namespace Go.Proofs.YtipaccakmndkgaaGreatDoor
open Go.RowKit Go
section
variable {P : Program} {ops : Array Oper} {Q : Exit → Act → World → Prop} {md : Region.Mode}
def StepOkF (P:Program) (ops:Array Oper) (Q:Exit→Act→World→Prop) (md:Region.Mode) (C:(Operand→Value)→World→Prop) (S:Nat→Value→World→World→Prop) (U:Nat→World→Prop) (V:Nat→(Operand→Value)→Value→World→Prop) (a0:Act) (j:Nat) (o:Oper):Prop:=
 ∀a w,C a.eval w→U j w→a.tmps.size=a0.tmps.size→a.defers=a0.defers→
    (∀t,oldB md ops j t=true→a.tmps.getD t undef=a0.tmps.getD t undef)→
    (∀e∈o.after,Region.binds md e=true→∀p d,ops[e.on]?=some p→p.dst=some d→V e.on a.eval (a.tmps.getD d undef) w)→
    ∀K:Act→World→Prop,(∀v w',S j v w w'→V j a.eval v w'→K (a.put o.dst v) w')→wpOp P ops Q j K a w
theorem step_onF {C:(Operand→Value)→World→Prop} {S:Nat→Value→World→World→Prop} {U:Nat→World→Prop} {V:Nat→(Operand→Value)→Value→World→Prop} {a0:Act} {j:Nat} {o:Oper} (ho:ops[j]?=some o) (hg:o.guard=none)
 (h:∀ev:Operand→Value,∀w,C ev w→U j w→(∀v,ev (.const v)=v)→(∀f,ev (.func f)=.func (.func f) #[] #[])→(∀t,oldB md ops j t=true→ev (.tmp t)=a0.eval (.tmp t))→
  (∀i d,o.after.toList.any (fun e=>Region.binds md e&&e.on==i)=true→((ops[i]?).bind (·.dst))=some d→V i ev (ev (.tmp d)) w)→
  ∀a K,a.eval=ev→(∀v w',S j v w w'→V j ev v w'→K (a.put o.dst v) w')→Oper.upon P o a K Q ((execOp ev o).run P w)):StepOkF P ops Q md C S U V a0 j o:=by
 intro a w hS hU hsz hdf hold hval K hK
 unfold wpOp
 simp only [ho]
 have hw:Region.wanted o (yielded ops a.tmps)=true:=by unfold Region.wanted;rw [hg]
 rw [if_pos hw]
 refine .inl (h a.eval w hS hU (fun _=>rfl) (fun _=>rfl) (fun t ht=>hold t ht) (fun i d hi hd=>?_) a K rfl hK)
 obtain ⟨e,he,h2⟩:=List.any_eq_true.1 hi
 simp only [Bool.and_eq_true,beq_iff_eq] at h2
 obtain ⟨h3,rfl⟩:=h2
 cases hp:ops[e.on]? with
 | none=>rw [hp] at hd;cases hd
 | some p=>rw [hp] at hd;exact hval e (Array.mem_toList_iff.1 he) h3 p d hp hd
theorem upB_lt {m:Nat} (hl:laidB md ops m=true):∀f i j,upB md ops f i j=true→j < i:=by
 intro f
 induction f with
 | zero=>intro i j h;cases h
 | succ f ih=>
   intro i j h
   unfold upB at h
   cases ho:ops[i]? with
   | none=>rw [ho] at h;cases h
   | some o=>
     rw [ho] at h
     obtain ⟨e,he,h2⟩:=List.any_eq_true.1 h
     simp only [Bool.and_eq_true,Bool.or_eq_true,beq_iff_eq] at h2
     have h3:=(laidB_at hl ho).1 e (Array.mem_toList_iff.1 he) h2.1
     rcases h2.2 with h4 | h4
     · omega
     · have:=ih _ _ h4
       omega
theorem upB_irrefl {m:Nat} (hl:laidB md ops m=true) (f i j:Nat) (h:j≤i) (hu:upB md ops f j i=true):False:=by
 have:=upB_lt hl f j i hu
 omega
structure LooseF (md:Region.Mode) (ops:Array Oper) (C:(Operand→Value)→World→Prop) (U:Nat→World→Prop) (V:Nat→(Operand→Value)→Value→World→Prop) (a0:Act) (listed:Array Bool) (a:Act) (w:World):Prop where
 world:C a.eval w
 pre:∀j o,ops[j]?=some o→listed.getD j false=false→U j w
 size:a.tmps.size=a0.tmps.size
 defers:a.defers=a0.defers
 old:∀t,(∀k p,ops[k]?=some p→p.dst=some t→listed.getD k false=false)→a.tmps.getD t undef=a0.tmps.getD t undef
 val:∀i o,ops[i]?=some o→listed.getD i false=true→∃v,(∀d,o.dst=some d→a.tmps.getD d undef=v)∧V i a.eval v w
 shut:∀k p,ops[k]?=some p→listed.getD k false=true→∀e∈p.after,Region.binds md e=true→listed.getD e.on false=true
theorem wpAny_frame7 (C:(Operand→Value)→World→Prop) (S:Nat→Value→World→World→Prop) (U:Nat→World→Prop) (V:Nat→(Operand→Value)→Value→World→Prop) (a0:Act)
 (W0:World) (hlaid:laidB md ops a0.tmps.size=true) (hC0:C a0.eval W0) (hU0:∀i,U i W0) (hC:∀j o ev ev' v w w',ops[j]?=some o→(∀d,o.dst=some d→ev' (.tmp d)=v)→(∀t,o.dst≠some t→ev' (.tmp t)=ev (.tmp t))→C ev w→S j v w w'→C ev' w') (hU:∀i j v w w',i≠j→upB md ops ops.size j i=false→U i w→S j v w w'→U i w')
 (hown:∀j o ev ev' v w,ops[j]?=some o→(∀t,o.dst≠some t→ev' (.tmp t)=ev (.tmp t))→V j ev v w→V j ev' v w)
 (hstab:∀i j o ev ev' v u w w',ops[j]?=some o→(∀t,o.dst≠some t→ev' (.tmp t)=ev (.tmp t))→i≠j→upB md ops ops.size i j=false→V i ev v w→C ev w→S j u w w'→V i ev' v w')
 (hstep:∀j o,ops[j]?=some o→StepOkF P ops Q md C S U V a0 j o)
 (hend:∀a w,C a.eval w→a.tmps.size=a0.tmps.size→a.defers=a0.defers→
  (∀t,(∀(k:Nat) (p:Oper),ops[k]?=some p→p.dst≠some t)→a.tmps.getD t undef=a0.tmps.getD t undef)→
  (∀i o,ops[i]?=some o→∃v,(∀d,o.dst=some d→a.tmps.getD d undef=v)∧V i a.eval v w)→Q .normal a w):
 wpAny P md ops Q ops.size (Array.replicate ops.size false) a0 W0:=by
 have done:∀listed a w,listed.size=ops.size→(∀i,i < ops.size→listed.getD i false=true)→LooseF md ops C U V a0 listed a w→Q .normal a w:=by
  intro listed a w hl hall h
  refine hend a w h.world h.size h.defers (fun t ht=>h.old t fun k p hp hd=>absurd hd (ht k p hp)) fun i o ho=>h.val i o ho (hall i (Array.getElem?_eq_some_iff.1 ho).1)
 have none_ready:∀listed:Array Bool,listed.size=ops.size→Region.ready md ops listed= []→∀i,i < ops.size→listed.getD i false=true:=by
  intro listed hl hr i
  induction i using Nat.strongRecOn with
  | _ i ih=>
    intro hi
    cases hc:listed.getD i false with
    | true=>rfl
    | false=>
      exfalso
      have hm:i∈Region.ready md ops listed:=by
        refine mem_ready.2 ⟨?_,ops[i],Array.getElem?_eq_getElem hi,fun e he hb=>?_⟩
        · have hi':i < listed.size:=by omega
          simp [hi'] at hc⊢
          exact hc
        · have:=(laidB_at hlaid (Array.getElem?_eq_getElem hi)).1 e he hb
          exact ih e.on this (by omega)
      rw [hr] at hm
      cases hm
 have main:∀fuel listed a w,listed.size=ops.size→listed.toList.count false≤fuel→LooseF md ops C U V a0 listed a w→wpAny P md ops Q fuel listed a w:=by
  intro fuel
  induction fuel with
  | zero=>
    intro listed a w hl hc h
    have hall:∀i,i < ops.size→listed.getD i false=true:=by
        intro i hi
        have hi':i < listed.size:=by omega
        cases hv:listed.getD i false with
        | true=>rfl
        | false=>
          exfalso
          have:false∈listed.toList:=by
           simp [hi'] at hv
           exact hv ▸(by simp)
          have:=List.count_pos_iff.2 this
          omega
    refine ⟨?_,done listed a w hl hall h⟩
    cases hr:Region.ready md ops listed with
    | nil=>rfl
    | cons i l=>
      exfalso
      have hi:i∈Region.ready md ops listed:=by rw [hr];exact List.mem_cons_self ..
      obtain ⟨h0,o,ho,_⟩:=mem_ready.1 hi
      have hlt:i < ops.size:=(Array.getElem?_eq_some_iff.1 ho).1
      have h1:=hall i hlt
      have hi':i < listed.size:=by omega
      simp [hi'] at h0 h1
      rw [h0] at h1
      cases h1
  | succ fuel ih=>
    intro listed a w hl hc h
    refine ⟨fun hr=>done listed a w hl (none_ready listed hl hr) h,fun j hj=>?_⟩
    obtain ⟨h0,o,ho,haft⟩:=mem_ready.1 hj
    have hlt:j < ops.size:=(Array.getElem?_eq_some_iff.1 ho).1
    have hjl:j < listed.size:=by omega
    have h0':listed.getD j false=false:=by simp [hjl] at h0⊢;exact h0
    have hput:∀v t,o.dst≠some t→(a.put o.dst v).eval (.tmp t)=a.eval (.tmp t):=by
        intro v t ht
        cases hod:o.dst with
        | none=>rfl
        | some d=>
          have hdt:d≠t:=fun e=>ht (by rw [hod,e])
          simp [Act.eval,Act.put,Array.getD_eq_getD_getElem?,hdt]
    have hdst:∀v d,o.dst=some d→(a.put o.dst v).eval (.tmp d)=v:=by
        intro v d hd
        have hdl:=((laidB_at hlaid ho).2 d hd).1
        have:d < a.tmps.size:=by rw [h.size];exact hdl
        simp [Act.eval,Act.put,Array.getD_eq_getD_getElem?,hd,this]
    refine hstep j o ho a w h.world (h.pre j o ho h0') h.size h.defers (fun t ht=>h.old t fun k p hp hd=>?_) (fun e he hb p d hp hd=>by obtain ⟨v,h1,h2⟩:=h.val e.on p hp (haft e he hb);rw [h1 d hd];exact h2) _ fun v w' hS hV=>?_
    · rcases oldB_at ht hp hd with rfl |⟨e,he,hb,heq⟩
      · exact h0'
      · cases hk:listed.getD k false with
        | false=>rfl
        | true=>
          have:=h.shut k p hp hk e he hb
          rw [heq,h0'] at this
          cases this
    · refine ih _ _ _ (by simpa using hl) ?_ ?_
      · have hv:listed.toList[j]'(by simpa using hjl)=false:=by simp [hjl] at h0'⊢;exact h0'
        rw [Array.toList_setIfInBounds,List.count_set (by simpa using hjl),hv]
        simp
        have hm:false∈listed.toList:=hv ▸ List.getElem_mem _
        have:=List.count_pos_iff.2 hm
        rw [←Array.count_toList]
        omega
      · have hsz:(a.put o.dst v).tmps.size=a0.tmps.size:=by
          rw [←h.size]
          cases o.dst with
          | none=>rfl
          | some d=>simp [Act.put]
        refine ⟨hC j o _ _ v w w' ho (hdst v) (hput v) h.world hS,fun i p hp hi=>?_,hsz,?_,fun t ht=>?_,fun i p hp hi=>?_,fun k p hp hk e he hb=>?_⟩
        · have hji:i≠j:=fun e=>by
           rw [e,getD_set_same _ _ hjl] at hi
           cases hi
          rw [getD_set_ne false hji.symm] at hi
          refine hU i j v w w' hji ?_ (h.pre i p hp hi) hS
          cases hup:upB md ops ops.size j i with
          | false=>rfl
          | true=>
            have:=upB_listed h.shut _ j i o ho haft hup
            rw [hi] at this
            cases this
        · rw [←h.defers]
          cases o.dst <;> rfl
        · have hne:o.dst≠some t:=fun hd=>by
           have:=ht j o ho hd
           rw [getD_set_same _ _ hjl] at this
           cases this
          have hold:=h.old t fun k p hp hd=>by
           have:=ht k p hp hd
           cases hk:listed.getD k false with
           | false=>rfl
           | true=>
             by_cases hjk:j=k
             · subst hjk;rw [h0'] at hk;cases hk
             · rw [getD_set_ne false hjk,hk] at this;cases this
          rw [←hold]
          cases hod:o.dst with
          | none=>rfl
          | some d=>
            have hdt:d≠t:=fun h=>hne (by rw [hod,h])
            simp [Act.put,Array.getD_eq_getD_getElem?,hdt]
        · rcases getD_set_or _ _ _ hi with rfl | hi1
          · rw [ho] at hp
            injection hp with hp
            subst hp
            refine ⟨v,fun d hd=>?_,hown _ _ _ _ _ _ ho (hput v) hV⟩
            have hdl:=((laidB_at hlaid ho).2 d hd).1
            rw [hd]
            have:d < a.tmps.size:=by rw [h.size];exact hdl
            simp [Act.put,Array.getD_eq_getD_getElem?,this]
          · by_cases hij:i=j
            · subst hij;rw [h0'] at hi1;cases hi1
            obtain ⟨u,hu,hv⟩:=h.val i p hp hi1
            have haf:upB md ops ops.size i j=false:=by
              cases hc:upB md ops ops.size i j with
              | false=>rfl
              | true=>
                exfalso
                have:=upB_listed h.shut _ i j p hp (h.shut i p hp hi1) hc
                rw [h0'] at this
                cases this
            refine ⟨u,fun d hd=>?_,hstab _ _ _ _ _ _ _ _ _ ho (hput v) hij haf hv h.world hS⟩
            rw [←hu d hd]
            cases hod:o.dst with
            | none=>rfl
            | some d'=>
              have hdt:d'≠d:=fun h=>hij (((laidB_at hlaid ho).2 d' hod).2 i p hp (h ▸ hd))
              simp [Act.put,Array.getD_eq_getD_getElem?,hdt]
        · rcases getD_set_or _ _ _ hk with rfl | hk
          · rw [ho] at hp
            injection hp with hp
            subst hp
            have h1:=haft e he hb
            by_cases hje:k=e.on
            · rw [←hje];exact getD_set_same _ _ hjl _
            · rw [getD_set_ne false hje];exact h1
          · have h1:=h.shut k p hp hk e he hb
            by_cases hje:j=e.on
            · rw [←hje];exact getD_set_same _ _ hjl _
            · rw [getD_set_ne false hje];exact h1
 refine main _ _ _ _ (by simp) (by simp) ⟨hC0,fun j _ _ _=>hU0 j,rfl,rfl,fun _ _=>rfl,fun i o ho hi=>?_,fun k p hp hk=>?_⟩
 · have hlt:i < ops.size:=(Array.getElem?_eq_some_iff.1 ho).1
   simp [hlt] at hi
 · have hlt:k < ops.size:=(Array.getElem?_eq_some_iff.1 hp).1
   simp [hlt] at hk
theorem wpAny_frame8 (ds:List Nat) (C:(Operand→Value)→World→Prop) (S:Nat→Value→World→World→Prop) (U:Nat→World→Prop) (V:Nat→(Operand→Value)→Value→World→Prop) (a0:Act) (W0:World)
 (hds:ops.toList.filterMap (·.dst)=ds)
 (hlaid:laidB md ops a0.tmps.size=true) (hC0:C a0.eval W0) (hU0:∀i,U i W0) (hC:∀j o ev ev' v w w',ops[j]?=some o→(∀d,o.dst=some d→ev' (.tmp d)=v)→(∀t,o.dst≠some t→ev' (.tmp t)=ev (.tmp t))→C ev w→S j v w w'→C ev' w') (hU:∀i j v w w',i≠j→upB md ops ops.size j i=false→U i w→S j v w w'→U i w')
 (hown:∀j o ev ev' v w,ops[j]?=some o→(∀t,o.dst≠some t→ev' (.tmp t)=ev (.tmp t))→V j ev v w→V j ev' v w)
 (hstab:∀i j o ev ev' v u w w',ops[j]?=some o→(∀t,o.dst≠some t→ev' (.tmp t)=ev (.tmp t))→i≠j→upB md ops ops.size i j=false→V i ev v w→C ev w→S j u w w'→V i ev' v w')
 (hstep:∀j o,ops[j]?=some o→StepOkF P ops Q md C S U V a0 j o)
 (hend:∀(ev:Operand→Value) w,C ev w→(∀i d,((ops[i]?).bind (·.dst))=some d→V i ev (ev (.tmp d)) w)→(∀i,i < ops.size→∃v,V i ev v w)→Q .normal (putsOf ev ds a0) w):
 wpAny P md ops Q ops.size (Array.replicate ops.size false) a0 W0:=by
 refine wpAny_frame7 C S U V a0 W0 hlaid hC0 hU0 hC hU hown hstab hstep fun a w hS hsz hdf hold hval=>?_
 have h1:=hend a.eval w hS (fun i d hd=>by
  cases ho:ops[i]? with
  | none=>rw [ho] at hd;cases hd
  | some o=>
    rw [ho] at hd
    obtain ⟨v,h1,h2⟩:=hval i o ho
    have:=h1 d hd
    change V i a.eval (a.tmps.getD d undef) w
    rw [this]
    exact h2) (fun i hi=>by
  obtain ⟨v,_,h2⟩:=hval i _ (Array.getElem?_eq_getElem hi)
  exact ⟨v,h2⟩)
 rw [←act_puts a a0 ds hsz hdf fun t ht=>hold t fun k p hp hd=>ht ?_] at h1
 · exact h1
 · rw [←hds]
   exact List.mem_filterMap.2 ⟨p,Array.mem_toList_iff.2 (Array.mem_of_getElem? hp),hd⟩
end
def blk?:Value→Option Nat
 | .pointer (some a)=>some a.block
 | .slice (some a) _ _=>some a.block
 | _=>none
def Apart (fs:List Nat) (ev:Operand→Value) (w:World):Prop:=
 (∀s∈fs,∀g,blk? (ev (.tmp s))=some g→g < w.heap.size)∧∀s∈fs,∀t∈fs,s≠t→∀g,blk? (ev (.tmp s))=some g→blk? (ev (.tmp t))≠some g
theorem apart_none {fs:List Nat} {ev:Operand→Value} {w:World} (h:(fs.all fun s=>(blk? (ev (.tmp s))).isNone)=true):Apart fs ev w:=by
 have h1:∀s∈fs,blk? (ev (.tmp s))=none:=fun s hs=>by simpa using List.all_eq_true.1 h s hs
 refine ⟨fun s hs g hg=>?_,fun s hs _ _ _ g hg=>?_⟩<;>(rw [h1 s hs] at hg;cases hg)
def Fresh (v:Value) (w w':World):Prop:=∀g,blk? v=some g→w.heap.size≤g∧g < w'.heap.size
def LStep (fs:List Nat) (ops:Array Oper) (SJ:World→World→Prop) (J j:Nat) (v:Value) (w w':World):Prop:=w.heap.size≤w'.heap.size∧(j=J→SJ w w')∧(j≠J→Grow w w')∧∀d∈fs,((ops[j]?).bind (·.dst))=some d→Fresh v w w'
theorem lstep_grow {fs:List Nat} {ops:Array Oper} {SJ:World→World→Prop} {J j:Nat} {v:Value} {w w':World} (h:Grow w w') (hj:(j==J)=false) (hf:(fs.all fun d=>((ops[j]?).bind (·.dst))!= some d)=true):LStep fs ops SJ J j v w w':=
 ⟨h.size,fun e=>by simp [e] at hj,fun _=>h,fun d hd he=>by have:=List.all_eq_true.1 hf d hd;simp [he] at this⟩
theorem lstep_new {fs:List Nat} {ops:Array Oper} {SJ:World→World→Prop} {J j:Nat} {v:Value} {w w':World} (h:Grow w w') (hj:(j==J)=false) (hf:Fresh v w w'):LStep fs ops SJ J j v w w':=
 ⟨h.size,fun e=>by simp [e] at hj,fun _=>h,fun _ _ _=>hf⟩
theorem lstep_at {fs:List Nat} {ops:Array Oper} {SJ:World→World→Prop} {J:Nat} {v:Value} {w w':World} (h:SJ w w') (hz:w.heap.size≤w'.heap.size) (hf:(fs.all fun d=>((ops[J]?).bind (·.dst))!= some d)=true):LStep fs ops SJ J J v w w':=
 ⟨hz,fun _=>h,fun e=>absurd rfl e,fun d hd he=>by have:=List.all_eq_true.1 hf d hd;simp [he] at this⟩
abbrev KP:=List Nat×((Operand→Value)→Value→World→Prop)
def k0 (p:Value→World→Prop):KP:=([],fun _ v w=>p v w)
def kEq (t:Nat):KP:=([t],fun ev v _=>v=ev (.tmp t))
def kLk (s1 s2:Nat) (p:Value→Value→World→Prop):KP:=([s1,s2],fun ev _ w=>p (ev (.tmp s1)) (ev (.tmp s2)) w)
def DepOk (q:KP):Prop:=∀ev ev':Operand→Value,(∀t∈q.1,ev' (.tmp t)=ev (.tmp t))→∀v w,q.2 ev v w→q.2 ev' v w
theorem dep_k0 (p:Value→World→Prop):DepOk (k0 p):=fun _ _ _ _ _ h=>h
theorem dep_kEq (t:Nat):DepOk (kEq t):=fun ev ev' he v w h=>by
 show v=ev' (.tmp t)
 rw [he t (by simp [kEq])]
 exact h
theorem dep_kLk (s1 s2:Nat) (p:Value→Value→World→Prop):DepOk (kLk s1 s2 p):=fun ev ev' he v w h=>by
 show p (ev' (.tmp s1)) (ev' (.tmp s2)) w
 rw [he s1 (by simp [kLk]),he s2 (by simp [kLk])]
 exact h
def StbQ (R:World→World→Prop) (q:KP):Prop:=∀ev v w w',q.2 ev v w→R w w'→q.2 ev v w'
theorem stbq_k0 {R:World→World→Prop} {p:Value→World→Prop} (h:∀v w w',p v w→R w w'→p v w'):StbQ R (k0 p):=fun _ v w w' hp hr=>h v w w' hp hr
theorem stbq_is (R:World→World→Prop) (c:Value):StbQ R (k0 (is c)):=fun _ _ _ _ h _=>h
theorem stbq_any (R:World→World→Prop):StbQ R (k0 anyV):=fun _ _ _ _ _ _=>trivial
theorem stbq_kEq (R:World→World→Prop) (t:Nat):StbQ R (kEq t):=fun _ _ _ _ h _=>h
theorem stbq_kLk {R:World→World→Prop} {s1 s2:Nat} {p:Value→Value→World→Prop} (h:∀u v w w',p u v w→R w w'→p u v w'):StbQ R (kLk s1 s2 p):=fun _ _ w w' hp hr=>h _ _ w w' hp hr
def VsQ (l:List KP) (i:Nat) (ev:Operand→Value) (v:Value) (w:World):Prop:=(l.getD i (k0 anyV)).2 ev v w
theorem vsQ_mem (l:List KP) (i:Nat):l.getD i (k0 anyV)∈l∨l.getD i (k0 anyV)=k0 anyV:=by
 rw [List.getD_eq_getElem?_getD]
 cases h:l[i]? with
 | none=>exact .inr rfl
 | some q=>exact .inl (List.mem_of_getElem? h)
theorem wpAny_link {P:Program} {ops:Array Oper} {Q:Exit→Act→World→Prop} {md:Region.Mode} (ds fs:List Nat) (J:Nat) (SJ:World→World→Prop) (C:World→Prop) (l:List KP) (a0:Act) (W0:World)
 (hds:ops.toList.filterMap (·.dst)=ds) (hlaid:laidB md ops a0.tmps.size=true)
 (hlk:((List.range ops.size).all fun i=>(List.range ops.size).all fun j=>match ops[j]? with
  | some o=>upB md ops ops.size i j||(l.getD i (k0 anyV)).1.all fun t=>o.dst != some t
  | none=>true)=true)
 (hC0:C W0) (hA0:Apart fs a0.eval W0) (hC:∀w w',C w→(Grow w w'∨SJ w w')→C w')
 (hdep:∀q∈l,DepOk q) (hst:∀q∈l,StbQ Grow q) (hst2:∀q∈l.eraseIdx J,StbQ SJ q)
 (hstep:∀j o,ops[j]?=some o→StepOkF P ops Q md (fun ev w=>C w∧Apart fs ev w) (LStep fs ops SJ J) (fun _ _=>True) (VsQ l) a0 j o)
 (hend:∀(ev:Operand→Value) w,C w→Apart fs ev w→(∀i d,((ops[i]?).bind (·.dst))=some d→VsQ l i ev (ev (.tmp d)) w)→(∀i,i < ops.size→∃v,VsQ l i ev v w)→Q .normal (putsOf ev ds a0) w):
 wpAny P md ops Q ops.size (Array.replicate ops.size false) a0 W0:=by
 have hany:∀ {j v w w'},LStep fs ops SJ J j v w w'→Grow w w'∨SJ w w':=fun {j v w w'} h=>by
  by_cases hj:j=J
  · exact .inr (h.2.1 hj)
  · exact .inl (h.2.2.1 hj)
 have hself:∀j,upB md ops ops.size j j=false:=by
  intro j
  cases hc:upB md ops ops.size j j with
  | false=>rfl
  | true=>exact (upB_irrefl hlaid _ _ _ (Nat.le_refl _) hc).elim
 have hdepA:∀i,DepOk (l.getD i (k0 anyV)):=fun i=>by
  rcases vsQ_mem l i with h | h
  · exact hdep _ h
  · rw [h];exact dep_k0 _
 have hkeep:∀i j o (ev ev':Operand→Value) v w,i < ops.size→ops[j]?=some o→(∀t,o.dst≠some t→ev' (.tmp t)=ev (.tmp t))→upB md ops ops.size i j=false→VsQ l i ev v w→VsQ l i ev' v w:=by
  intro i j o ev ev' v w hi ho he hup hv
  have h1:=List.all_eq_true.1 (List.all_eq_true.1 hlk i (by simpa using hi)) j (by simpa using (Array.getElem?_eq_some_iff.1 ho).1)
  simp only [ho,hup,Bool.false_or] at h1
  exact hdepA i ev ev' (fun t ht=>he t (by have:=List.all_eq_true.1 h1 t ht;simpa using this)) v w hv
 refine wpAny_frame8 ds (fun ev w=>C w∧Apart fs ev w) (LStep fs ops SJ J) (fun _ _=>True) (fun i ev v w=>i < ops.size→VsQ l i ev v w) a0 W0 hds hlaid ⟨hC0,hA0⟩ (fun _=>trivial) (fun j o ev ev' v w w' ho hd he h k=>⟨hC w w' h.1 (hany k),?_⟩) (fun _ _ _ _ _ _ _ _ _=>trivial) (fun j o ev ev' v w ho he hv hj=>hkeep j j o ev ev' v w hj ho he (hself j) (hv hj)) (fun i j o ev ev' v u w w' ho he hij hup hv hc k hi=>?_) (fun j o ho a w h1 h2 h3 h4 h5 h6 K hK=>hstep j o ho a w h1 h2 h3 h4 h5 (fun e he hb p d hp hd=>h6 e he hb p d hp hd (Array.getElem?_eq_some_iff.1 hp).1) K (fun v w' hS hV=>hK v w' hS fun _=>hV)) (fun ev w h h1 h2=>hend ev w h.1 h.2 (fun i d hd=>h1 i d hd (by
  cases ho:ops[i]? with
  | none=>rw [ho] at hd;cases hd
  | some o=>exact (Array.getElem?_eq_some_iff.1 ho).1)) (fun i hi=>(h2 i hi).imp fun v hv=>hv hi))
 · have hz:=k.1
   obtain ⟨h1,h2⟩:=h.2
   have hnew:∀s∈fs,o.dst=some s→Fresh (ev' (.tmp s)) w w':=fun s hs hds=>by
    rw [hd s hds]
    exact k.2.2.2 s hs (by rw [ho];exact hds)
   refine ⟨fun s hs g hg=>?_,fun s hs t ht hst g hg hg'=>?_⟩
   · by_cases hds:o.dst=some s
     · exact (hnew s hs hds g hg).2
     · rw [he s hds] at hg
       have:=h1 s hs g hg
       omega
   · by_cases hds:o.dst=some s
     · have hdt:o.dst≠some t:=fun e=>hst (by rw [hds] at e;injection e)
       rw [he t hdt] at hg'
       have:=(hnew s hs hds g hg).1
       have:=h1 t ht g hg'
       omega
     · rw [he s hds] at hg
       by_cases hdt:o.dst=some t
       · have:=(hnew t ht hdt g hg').1
         have:=h1 s hs g hg
         omega
       · rw [he t hdt] at hg'
         exact h2 s hs t ht hst g hg hg'
 · have h1:=hkeep i j o ev ev' v w hi ho he hup (hv hi)
   unfold VsQ at h1⊢
   by_cases hj:j=J
   · subst hj
     have hm:l.getD i (k0 anyV)∈l.eraseIdx j∨l.getD i (k0 anyV)=k0 anyV:=by
        rw [List.getD_eq_getElem?_getD]
        cases hl:l[i]? with
        | none=>exact .inr rfl
        | some q=>exact .inl (List.mem_eraseIdx_iff_getElem?.2 ⟨i,hij,hl⟩)
     rcases hm with h2 | h2
     · exact hst2 _ h2 ev' v w w' h1 (k.2.1 rfl)
     · rw [h2];trivial
   · rcases vsQ_mem l i with h2 | h2
     · exact hst _ h2 ev' v w w' h1 (k.2.2.1 hj)
     · rw [h2];trivial
end Go.Proofs.YtipaccakmndkgaaGreatDoor
namespace Go.Proofs.YtipaccakmndkgaaGreatDoor
open Go.RowKit
def GetTold (w w':World) (o:List Int×Int) (e:Ending):Prop:=
 ∃A c,e=.returned (.tuple #[.slice A o.1.length c,.int .i64 o.2])∧Made w' w.heap.size 3 1 A o.1.length c (o.1.map iv)
theorem told_nil {w w':World} {o:List Int×Int} {k:Int} (h:([],k)=o):GetTold w w' o (.returned (.tuple #[.slice none 0 0,.int .i64 k])):=by
 subst h
 exact ⟨none,0,rfl,⟨World.ownsRow_nil _ _ _ _,Rd.nil _ _ _ _,Nat.le_refl _,Nat.zero_le _⟩⟩
theorem RunGet_core (A:Option Addr) (m c:Nat) (b:List UInt8) (most:Int) (w:World) (i0:TypeInfo) (hi0:Tryz.prog.info? 3=some i0) (hz0:i0.zero=some (.int .i64 0)) (hz1:i0.size=1) (hz2:i0.bytes=8)
 (Hll:Hid (b.length=m)) (Hr:Hid (Rd w w.heap.size 1 A m (b.map bv))) (hB0:Below w.heap.size w w) (hmc:m≤c) (hcl:c≤maxLen) (R:List Int×Int) (n0 a0:Nat) (ha0:a0≤m)
 (H0:Hid (getNB b 0=(n0,(a0:Int),0))) (Hn0:Hid (n0 < 18446744073709551616)) (mst:Nat) (H1:Hid (rgo b mst n0 a0 257 []=R)) (hmsb:mst≤1099511627776) (hcase:most=(mst:Int)∨(most < 0∧mst≤0)):
 Calls Tryz.prog 90 #[.slice A m c,.int .i64 most] w fun e w'=>GetTold w w' R e∧Below w.heap.size w w':=by
 have Hcase:=lhd hcase
 clear hcase
 go_enter Tryz.func90,Tryz.ntmps90
 go_wp2_with (go_at_call 159;refine (Get_is _ _ _ _ _ _ _ _ _ _ H0.out Hr.out hmc hcl).mono ?_;rintro e w5 ⟨rfl,rfl⟩)
 go_loopw [6,7,9,10] (fun x y v z wr=>∃(n a last:Nat) (acc:List Int),x=.int .u64 (n:Int)∧y=.int .i64 (a:Int)∧z=.int .u64 (last:Int)∧wr.ownsRow w.heap.size 3 1 v acc.length (acc.map iv)∧acc.length≤mst∧a≤m∧n < 18446744073709551616∧rgo b mst n a last acc=R∧Below w.heap.size w wr) (fun x _ _ _ _=>(intOf x).toNat)
 case atStart=>exact ⟨n0,a0,257, [],rfl,rfl,rfl,World.ownsRow_nil _ _ _ _,Nat.zero_le _,ha0,Hn0.out,H1.out,hB0⟩
 case round=>
  obtain ⟨n,a,last,acc,rfl,rfl,rfl,hown,hacc,ha,hn,hg,hb⟩:=hrel
  have Hg:=lhd hg
  have Hn:=lhd hn
  have hsz:=hb.size
  have hr2:=Hr.out.below hb
  have Hr2:=lhd hr2
  clear hg hn hr2
  rcases n with _ | n
  · have hgt:((0:Nat):Int)=0:=rfl
    by_cases hend:a=m
    · have hR:(acc,0)=R:=by rw [←Hg.out,rgo,if_pos (by rw [Hll.out];exact hend)]
      have HR:=lhd hR
      have ht:((a:Int)==(m:Int))=true:=by rw [beq_iff_eq];omega
      obtain ⟨A',c',rfl,hm3⟩:=made_of_own hown
      clear hend hR hown
      go_wp2
      go_ret2
      refine ⟨?_,hb⟩
      rw [←HR.out]
      exact ⟨A',c',rfl,hm3⟩
    · have hR:([],4)=R:=by rw [←Hg.out,rgo,if_neg (by rw [Hll.out];exact hend)]
      have HR:=lhd hR
      have ht:((a:Int)==(m:Int))=false:=by rw [beq_eq_false_iff_ne];omega
      clear hend hR
      go_wp2
      go_ret2
      exact ⟨told_nil HR.out,hb⟩
  · have hab:a≤b.length:=by rw [Hll.out];exact ha
    rcases h1:getGo (b.drop a) true 0 a with _ |⟨s,to⟩
    · have hR:([],4)=R:=by rw [←Hg.out,rgo_none _ _ _ _ _ _ (runAt_none1 _ _ h1)]
      have HR:=lhd hR
      have Hb1:=lhd (getNB_none b a hab h1)
      clear hR hab h1
      go_wp2_with (go_at_call 159;refine (Get_is _ _ _ _ _ _ _ _ _ _ Hb1.out Hr2.out hmc hcl).mono ?_;rintro e w5 ⟨rfl,rfl⟩)
      go_ret2
      exact ⟨told_nil HR.out,hb⟩
    · have hle1:=getGo_le _ _ _ _ _ _ h1
      have hb1:=getNB_some b a s to hab h1
      have hto:to≤m:=by rw [List.length_drop,Hll.out] at hle1;omega
      have htob:to≤b.length:=by rw [Hll.out];exact hto
      have Hb1:=lhd hb1
      have Hs64:=lhd hle1.2.2
      rcases h2:getGo (b.drop to) true 0 to with _ |⟨k,e⟩
      · have hR:([],4)=R:=by rw [←Hg.out,rgo_none _ _ _ _ _ _ (runAt_none2 _ _ _ _ h1 h2)]
        have HR:=lhd hR
        have Hb2:=lhd (getNB_none b to htob h2)
        clear hR hab h1 h2 hb1 hle1 htob
        go_wp2_with fail
        refine (Get_is _ _ _ _ _ _ _ _ _ _ Hb1.out Hr2.out hmc hcl).mono ?_
        rintro e w5 ⟨rfl,rfl⟩
        go_wp2_with fail
        refine (Get_is _ _ _ _ _ _ _ _ _ _ Hb2.out Hr2.out hmc hcl).mono ?_
        rintro e w5 ⟨rfl,rfl⟩
        go_wp2
        go_ret2
        exact ⟨told_nil HR.out,hb⟩
      · have hle2:=getGo_le _ _ _ _ _ _ h2
        have hb2:=getNB_some b to k e htob h2
        have he:e≤m:=by rw [List.length_drop,Hll.out] at hle2;omega
        have Hb2:=lhd hb2
        have hrun2:rgo b mst (n+1) a last acc=if 257≤s∨s=last∨k=0 then ([],4) else if mst - acc.length < k then ([],3) else rgo b mst n e s (acc++List.replicate k (s:Int)):=rgo_some _ _ _ _ _ _ _ _ _ (runAt_some _ _ _ _ _ _ h1 h2)
        have Hrun2:=lhd hrun2
        have Hk64:=lhd hle2.2.2
        clear hab h1 h2 hb1 hle1 htob hb2 hle2 hrun2
        by_cases hbad:257≤s∨s=last∨k=0
        · have hR:([],4)=R:=by rw [←Hg.out,Hrun2.out,if_pos hbad]
          have HR:=lhd hR
          have hbad':257≤s∨(s < 257∧s=last)∨(s < 257∧s≠last∧k=0):=by omega
          clear hR hbad
          rcases hbad' with h |⟨h,h'⟩|⟨h,h',h''⟩
          · go_wp2_with fail
            refine (Get_is _ _ _ _ _ _ _ _ _ _ Hb1.out Hr2.out hmc hcl).mono ?_
            rintro e w5 ⟨rfl,rfl⟩
            go_wp2_with fail
            refine (Get_is _ _ _ _ _ _ _ _ _ _ Hb2.out Hr2.out hmc hcl).mono ?_
            rintro e w5 ⟨rfl,rfl⟩
            go_wp2
            go_ret2
            exact ⟨told_nil HR.out,hb⟩
          · subst h'
            go_wp2_with fail
            refine (Get_is _ _ _ _ _ _ _ _ _ _ Hb1.out Hr2.out hmc hcl).mono ?_
            rintro e w5 ⟨rfl,rfl⟩
            go_wp2_with fail
            refine (Get_is _ _ _ _ _ _ _ _ _ _ Hb2.out Hr2.out hmc hcl).mono ?_
            rintro e w5 ⟨rfl,rfl⟩
            go_wp2
            go_ret2
            exact ⟨told_nil HR.out,hb⟩
          · subst h''
            have ht:((s:Int)==(last:Int))=false:=by rw [beq_eq_false_iff_ne];omega
            clear h'
            go_wp2_with fail
            refine (Get_is _ _ _ _ _ _ _ _ _ _ Hb1.out Hr2.out hmc hcl).mono ?_
            rintro e w5 ⟨rfl,rfl⟩
            go_wp2_with fail
            refine (Get_is _ _ _ _ _ _ _ _ _ _ Hb2.out Hr2.out hmc hcl).mono ?_
            rintro e w5 ⟨rfl,rfl⟩
            go_wp2
            go_ret2
            exact ⟨told_nil HR.out,hb⟩
        · have h257:s < 257:=by omega
          have hk0:0 < k:=by omega
          have ht0:((k:Int)==0)=false:=by rw [beq_eq_false_iff_ne];omega
          have ht1:decide ((257:Int)≤(s:Int))=false:=by simp;omega
          have ht:((s:Int)==(last:Int))=false:=by rw [beq_eq_false_iff_ne];omega
          obtain ⟨q,hq⟩:∃q,acc.length=q:=⟨_,rfl⟩
          have hrun3:rgo b mst (n+1) a last acc=if mst - q < k then ([],3) else rgo b mst n e s (acc++List.replicate k (s:Int)):=by rw [Hrun2.out,if_neg hbad,hq]
          have Hrun3:=lhd hrun3
          have Hq:=lhd hq
          rw [hq] at hown hacc
          obtain ⟨A',c',rfl,hm3⟩:=made_of_own hown
          have Hown:=lhd hown
          have hn64:=Hn.out
          have hmxl:∃mx:Int,mx=(mst:Int) -(q:Int):=⟨_,rfl⟩
          clear hbad hrun3 hq hm3 hown hmxl
          by_cases hfull:mst - q < k
          · have hR:([],3)=R:=by rw [←Hg.out,Hrun3.out,if_pos hfull]
            have HR:=lhd hR
            have hf2:(mst:Int) -(q:Int) < (k:Int):=by omega
            clear hR hfull hn64
            rcases Hcase.out with hc |⟨hc,hc'⟩
            · subst hc
              go_wp2_with fail
              refine (Get_is _ _ _ _ _ _ _ _ _ _ Hb1.out Hr2.out hmc hcl).mono ?_
              rintro e w5 ⟨rfl,rfl⟩
              go_wp2_with fail
              refine (Get_is _ _ _ _ _ _ _ _ _ _ Hb2.out Hr2.out hmc hcl).mono ?_
              rintro e w5 ⟨rfl,rfl⟩
              go_wp2
              go_ret2
              exact ⟨told_nil HR.out,hb⟩
            · go_wp2_with fail
              refine (Get_is _ _ _ _ _ _ _ _ _ _ Hb1.out Hr2.out hmc hcl).mono ?_
              rintro e w5 ⟨rfl,rfl⟩
              go_wp2_with fail
              refine (Get_is _ _ _ _ _ _ _ _ _ _ Hb2.out Hr2.out hmc hcl).mono ?_
              rintro e w5 ⟨rfl,rfl⟩
              go_wp2
              go_ret2
              exact ⟨told_nil HR.out,hb⟩
          · have hR:rgo b mst n e s (acc++List.replicate k (s:Int))=R:=by rw [←Hg.out,Hrun3.out,if_neg hfull]
            have HR:=lhd hR
            have hf2:(k:Int)≤(mst:Int) -(q:Int):=by omega
            have hc:most=(mst:Int):=by rcases Hcase.out with h |⟨_,h⟩<;> omega
            subst hc
            clear hR hfull
            go_wp2_with fail
            refine (Get_is _ _ _ _ _ _ _ _ _ _ Hb1.out Hr2.out hmc hcl).mono ?_
            rintro e w5 ⟨rfl,rfl⟩
            go_wp2_with fail
            refine (Get_is _ _ _ _ _ _ _ _ _ _ Hb2.out Hr2.out hmc hcl).mono ?_
            rintro e w5 ⟨rfl,rfl⟩
            go_wp2
            go_loopw [9,73] (fun v i wx=>∃j:Nat,j≤k∧i=.int .u64 (j:Int)∧wx.ownsRow w.heap.size 3 1 v (q+j) ((acc++List.replicate j (s:Int)).map iv)∧Below w.heap.size w wx) (fun _ i _=>k -(intOf i).toNat)
            case atStart=>exact ⟨0,Nat.zero_le _,rfl,by simpa using Hown.out,hb⟩
            case round=>
             obtain ⟨j,hj,rfl,hown1,hb1⟩:=hrel
             have hsz1:=hb1.size
             by_cases hjk:j < k
             · go_wp2_with (at_builtin;refine wpList_push _ rfl (.tmp 75) (.tmp 78) _ rfl w.heap.size 3 i0 (.int .i64 0) 1 8 Tryz.underlying22 hi0 hz0 hz1 hz2 rfl (by decide) u9 (q+j) _ rfl hown1 rfl rfl (by simp [Value.oneCell']) (by unfold maxLen;omega) (by omega) hsz1 ?_;intro v2 w2 hown2 hg2 hs2 hat2)
               have hb2:=below_grown hb1 hown1 hg2 hsz1
               clear hg2 hat2
               go_roundw
               case rel=>
                 refine ⟨j+1,by omega,by go_num,?_,hb2⟩
                 rw [List.replicate_succ',←List.append_assoc,List.map_append]
                 exact hown2
               case measure=>simp [intOf];omega
             · have hjk2:j=k:=by omega
               have hge:k≤j:=by omega
               rw [hjk2] at hown1
               clear hjk2
               go_wp2
               refine ⟨⟨n,e,s,acc++List.replicate k (s:Int),int_eq (by omega),rfl,rfl,?_,?_,he,by omega,HR.out,hb1⟩,by simp [intOf]⟩
               · rw [List.length_append,List.length_replicate,Hq.out]
                 exact hown1
               · rw [List.length_append,List.length_replicate,Hq.out]
                 omega
theorem RunGet_any (A:Option Addr) (m c B:Nat) (b:List UInt8) (most:Int) (w:World) (hr:Rd w B 1 A m (b.map bv)) (hB:B≤w.heap.size) (hmc:m≤c) (hcl:c≤maxLen) (hmost:most≤1099511627776) (hmost2:-9223372036854775808≤most):
 Calls Tryz.prog 90 #[.slice A m c,.int .i64 most] w fun e w'=>GetTold w w' (getRuns b most) e∧Below w.heap.size w w':=by
 obtain ⟨i0,hi0,hz0,hz1,hz2⟩:=info_parts run_int_info
 have hll:b.length=m:=by simpa using hr.1
 have Hll:=lhd hll
 have Hr:=lhd (hr.mono hB)
 have hB0:=Below.refl w.heap.size w
 obtain ⟨R,hR⟩:∃R,getRuns b most=R:=⟨_,rfl⟩
 rw [hR]
 rcases hfirst:getGo b true 0 0 with _ |⟨n0,a0⟩
 · have h0:getNB b 0=(0,0,4):=getNB_none b 0 (Nat.zero_le _) (by simpa using hfirst)
   have h1:([],4)=R:=by rw [←hR,getRuns,hfirst]
   have H0:=lhd h0
   have H1:=lhd h1
   clear hr hll hR h0 h1 hfirst
   go_enter Tryz.func90,Tryz.ntmps90
   go_wp2_with (go_at_call 159;refine (Get_is _ _ _ _ _ _ _ _ _ _ H0.out Hr.out hmc hcl).mono ?_;rintro e w5 ⟨rfl,rfl⟩)
   go_loop [6] (fun x=>x=.int .u64 0) (fun _=>0)
   case atStart=>rfl
   case round=>
    subst hrel
    go_wp2
    go_ret2
    exact ⟨told_nil H1.out,hB0⟩
 · have hle:=getGo_le _ _ _ _ _ _ hfirst
   have h0:getNB b 0=(n0,(a0:Int),0):=getNB_some b 0 n0 a0 (Nat.zero_le _) (by simpa using hfirst)
   have h1:rgo b most.toNat n0 a0 257 []=R:=by rw [←hR,getRuns,hfirst]
   have ha0:a0≤m:=by omega
   have H0:=lhd h0
   have H1:=lhd h1
   have Hn0:=lhd hle.2.2
   obtain ⟨mst,hmst⟩:∃mst:Nat,most.toNat=mst:=⟨_,rfl⟩
   rw [hmst] at H1
   have hmsb:mst≤1099511627776:=by omega
   have hcase:most=(mst:Int)∨(most < 0∧mst≤0):=by omega
   clear hr hll hR h0 h1 hfirst hle hmst hmost hmost2
   rcases hcase with hcase |⟨hneg,hm0⟩
   · subst hcase
     exact RunGet_core A m c b (mst:Int) w i0 hi0 hz0 hz1 hz2 Hll Hr hB0 hmc hcl R n0 a0 ha0 H0 Hn0 mst H1 hmsb (.inl rfl)
   · exact RunGet_core A m c b most w i0 hi0 hz0 hz1 hz2 Hll Hr hB0 hmc hcl R n0 a0 ha0 H0 Hn0 mst H1 hmsb (.inr ⟨hneg,hm0⟩)
theorem RunGet_is (A:Option Addr) (m c B:Nat) (b:List UInt8) (most:Int) (w:World) (l:List Int) (n:Nat) (k:Int) (h:getRuns b most=(l,k)) (hn:l.length=n) (hr:Rd w B 1 A m (b.map bv)) (hB:B≤w.heap.size) (hmc:m≤c) (hcl:c≤maxLen) (hmost:most≤1099511627776) (hmost2:-9223372036854775808≤most):
 Calls Tryz.prog 90 #[.slice A m c,.int .i64 most] w fun e w'=>∃A' c',e=.returned (.tuple #[.slice A' n c',.int .i64 k])∧Made w' w.heap.size 3 1 A' n c' (l.map iv)∧Below w.heap.size w w':=by
 subst hn
 refine (RunGet_any A m c B b most w hr hB hmc hcl hmost hmost2).mono fun e w' ⟨⟨A',c',he,hm⟩,hb⟩=>?_
 rw [h] at he hm
 exact ⟨A',c',he,hm,hb⟩
end Go.Proofs.YtipaccakmndkgaaGreatDoor
