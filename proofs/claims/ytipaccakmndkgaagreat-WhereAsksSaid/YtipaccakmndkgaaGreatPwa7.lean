/- A region that draws its order, as in 'Loose7'; a property may name what stands in other slots of the frame (so a store into a new block can be told of the slot that holds its address). No conditions. The walks of the tree's node, leaf, build on a fresh tree, and of tree.New. Conditions: at most 128 bits. -/
import Derived.Test.YtipaccakmndkgaaGreatPwa5
import Derived.Test.YtipaccakmndkgaaGreatPwa6
namespace Go.Proofs.YtipaccakmndkgaaGreat
open Go.RowKit Go
set_option linter.unusedVariables false
section
variable {P : Program} {ops : Array Oper} {Q : Exit → Act → World → Prop} {md : Region.Mode}
def StepOkF (P:Program) (ops:Array Oper) (Q:Exit→Act→World→Prop) (md:Region.Mode) (C:(Operand→Value)→World→Prop) (S:Nat→Value→World→World→Prop) (U:Nat→World→Prop) (V:Nat→(Operand→Value)→Value→World→Prop) (a0:Act) (j:Nat) (o:Oper):Prop:=
 ∀a w,C a.eval w→U j w→a.tmps.size=a0.tmps.size→a.defers=a0.defers→
    (∀t,oldB md ops j t=true→a.tmps.getD t undef=a0.tmps.getD t undef)→
    (∀e∈o.after,Region.binds md e=true→∀p d,ops[e.on]?=some p→p.dst=some d→V e.on a.eval (a.tmps.getD d undef) w)→
    ∀K:Act→World→Prop,(∀v w',S j v w w'→V j a.eval v w'→K (a.put o.dst v) w')→wpOp P ops Q j K a w
theorem step_onF {C:(Operand→Value)→World→Prop} {S:Nat→Value→World→World→Prop} {U:Nat→World→Prop} {V:Nat→(Operand→Value)→Value→World→Prop} {a0:Act} {j:Nat} {o:Oper} (ho:ops[j]?=some o) (hg:o.guard=none)
 (h:∀ev:Operand→Value,∀w,C ev w→U j w→(∀v,ev (.const v)=v)→(∀f,ev (.func f)=.func (.func f) #[] #[])→(∀t,oldB md ops j t=true→ev (.tmp t)=a0.eval (.tmp t))→
  (∀i d,o.after.toList.any (fun e=>Region.binds md e&&e.on==i)=true→((ops[i]?).bind (·.dst))=some d→V i ev (ev (.tmp d)) w)→
  ∀a K,a.eval=ev→(∀v w',S j v w w'→V j ev v w'→K (a.put o.dst v) w')→Oper.upon P o a K Q ((execOp ev o).run P w)):StepOkF P ops Q md C S U V a0 j o:=by
 intro a w hS hU hsz hdf hold hval K hK
 unfold wpOp
 simp only [ho]
 have hw:Region.wanted o (yielded ops a.tmps)=true:=by unfold Region.wanted;rw [hg]
 rw [if_pos hw]
 refine .inl (h a.eval w hS hU (fun _=>rfl) (fun _=>rfl) (fun t ht=>hold t ht) (fun i d hi hd=>?_) a K rfl hK)
 obtain ⟨e,he,h2⟩:=List.any_eq_true.1 hi
 simp only [Bool.and_eq_true,beq_iff_eq] at h2
 obtain ⟨h3,rfl⟩:=h2
 cases hp:ops[e.on]? with
 | none=>rw [hp] at hd;cases hd
 | some p=>rw [hp] at hd;exact hval e (Array.mem_toList_iff.1 he) h3 p d hp hd
theorem upB_lt {m:Nat} (hl:laidB md ops m=true):∀f i j,upB md ops f i j=true→j < i:=by
 intro f
 induction f with
 | zero=>intro i j h;cases h
 | succ f ih=>
   intro i j h
   unfold upB at h
   cases ho:ops[i]? with
   | none=>rw [ho] at h;cases h
   | some o=>
     rw [ho] at h
     obtain ⟨e,he,h2⟩:=List.any_eq_true.1 h
     simp only [Bool.and_eq_true,Bool.or_eq_true,beq_iff_eq] at h2
     have h3:=(laidB_at hl ho).1 e (Array.mem_toList_iff.1 he) h2.1
     rcases h2.2 with h4 | h4
     · omega
     · have:=ih _ _ h4
       omega
theorem upB_irrefl {m:Nat} (hl:laidB md ops m=true) (f i j:Nat) (h:j≤i) (hu:upB md ops f j i=true):False:=by
 have:=upB_lt hl f j i hu
 omega
structure LooseF (md:Region.Mode) (ops:Array Oper) (C:(Operand→Value)→World→Prop) (U:Nat→World→Prop) (V:Nat→(Operand→Value)→Value→World→Prop) (a0:Act) (listed:Array Bool) (a:Act) (w:World):Prop where
 world:C a.eval w
 pre:∀j o,ops[j]?=some o→listed.getD j false=false→U j w
 size:a.tmps.size=a0.tmps.size
 defers:a.defers=a0.defers
 old:∀t,(∀k p,ops[k]?=some p→p.dst=some t→listed.getD k false=false)→a.tmps.getD t undef=a0.tmps.getD t undef
 val:∀i o,ops[i]?=some o→listed.getD i false=true→∃v,(∀d,o.dst=some d→a.tmps.getD d undef=v)∧V i a.eval v w
 shut:∀k p,ops[k]?=some p→listed.getD k false=true→∀e∈p.after,Region.binds md e=true→listed.getD e.on false=true
theorem wpAny_frame7 (C:(Operand→Value)→World→Prop) (S:Nat→Value→World→World→Prop) (U:Nat→World→Prop) (V:Nat→(Operand→Value)→Value→World→Prop) (a0:Act)
 (W0:World) (hlaid:laidB md ops a0.tmps.size=true) (hC0:C a0.eval W0) (hU0:∀i,U i W0) (hC:∀j o ev ev' v w w',ops[j]?=some o→(∀d,o.dst=some d→ev' (.tmp d)=v)→(∀t,o.dst≠some t→ev' (.tmp t)=ev (.tmp t))→C ev w→S j v w w'→C ev' w') (hU:∀i j v w w',i≠j→upB md ops ops.size j i=false→U i w→S j v w w'→U i w')
 (hown:∀j o ev ev' v w,ops[j]?=some o→(∀t,o.dst≠some t→ev' (.tmp t)=ev (.tmp t))→V j ev v w→V j ev' v w)
 (hstab:∀i j o ev ev' v u w w',ops[j]?=some o→(∀t,o.dst≠some t→ev' (.tmp t)=ev (.tmp t))→i≠j→upB md ops ops.size i j=false→V i ev v w→C ev w→S j u w w'→V i ev' v w')
 (hstep:∀j o,ops[j]?=some o→StepOkF P ops Q md C S U V a0 j o)
 (hend:∀a w,C a.eval w→a.tmps.size=a0.tmps.size→a.defers=a0.defers→
  (∀t,(∀(k:Nat) (p:Oper),ops[k]?=some p→p.dst≠some t)→a.tmps.getD t undef=a0.tmps.getD t undef)→
  (∀i o,ops[i]?=some o→∃v,(∀d,o.dst=some d→a.tmps.getD d undef=v)∧V i a.eval v w)→Q .normal a w):
 wpAny P md ops Q ops.size (Array.replicate ops.size false) a0 W0:=by
 have done:∀listed a w,listed.size=ops.size→(∀i,i < ops.size→listed.getD i false=true)→LooseF md ops C U V a0 listed a w→Q .normal a w:=by
  intro listed a w hl hall h
  refine hend a w h.world h.size h.defers (fun t ht=>h.old t fun k p hp hd=>absurd hd (ht k p hp)) fun i o ho=>h.val i o ho (hall i (Array.getElem?_eq_some_iff.1 ho).1)
 have none_ready:∀listed:Array Bool,listed.size=ops.size→Region.ready md ops listed= []→∀i,i < ops.size→listed.getD i false=true:=by
  intro listed hl hr i
  induction i using Nat.strongRecOn with
  | _ i ih=>
    intro hi
    cases hc:listed.getD i false with
    | true=>rfl
    | false=>
      exfalso
      have hm:i∈Region.ready md ops listed:=by
        refine mem_ready.2 ⟨?_,ops[i],Array.getElem?_eq_getElem hi,fun e he hb=>?_⟩
        · have hi':i < listed.size:=by omega
          simp [hi'] at hc⊢
          exact hc
        · have:=(laidB_at hlaid (Array.getElem?_eq_getElem hi)).1 e he hb
          exact ih e.on this (by omega)
      rw [hr] at hm
      cases hm
 have main:∀fuel listed a w,listed.size=ops.size→listed.toList.count false≤fuel→LooseF md ops C U V a0 listed a w→wpAny P md ops Q fuel listed a w:=by
  intro fuel
  induction fuel with
  | zero=>
    intro listed a w hl hc h
    have hall:∀i,i < ops.size→listed.getD i false=true:=by
        intro i hi
        have hi':i < listed.size:=by omega
        cases hv:listed.getD i false with
        | true=>rfl
        | false=>
          exfalso
          have:false∈listed.toList:=by
           simp [hi'] at hv
           exact hv ▸(by simp)
          have:=List.count_pos_iff.2 this
          omega
    refine ⟨?_,done listed a w hl hall h⟩
    cases hr:Region.ready md ops listed with
    | nil=>rfl
    | cons i l=>
      exfalso
      have hi:i∈Region.ready md ops listed:=by rw [hr];exact List.mem_cons_self ..
      obtain ⟨h0,o,ho,_⟩:=mem_ready.1 hi
      have hlt:i < ops.size:=(Array.getElem?_eq_some_iff.1 ho).1
      have h1:=hall i hlt
      have hi':i < listed.size:=by omega
      simp [hi'] at h0 h1
      rw [h0] at h1
      cases h1
  | succ fuel ih=>
    intro listed a w hl hc h
    refine ⟨fun hr=>done listed a w hl (none_ready listed hl hr) h,fun j hj=>?_⟩
    obtain ⟨h0,o,ho,haft⟩:=mem_ready.1 hj
    have hlt:j < ops.size:=(Array.getElem?_eq_some_iff.1 ho).1
    have hjl:j < listed.size:=by omega
    have h0':listed.getD j false=false:=by simp [hjl] at h0⊢;exact h0
    have hput:∀v t,o.dst≠some t→(a.put o.dst v).eval (.tmp t)=a.eval (.tmp t):=by
        intro v t ht
        cases hod:o.dst with
        | none=>rfl
        | some d=>
          have hdt:d≠t:=fun e=>ht (by rw [hod,e])
          simp [Act.eval,Act.put,Array.getD_eq_getD_getElem?,hdt]
    have hdst:∀v d,o.dst=some d→(a.put o.dst v).eval (.tmp d)=v:=by
        intro v d hd
        have hdl:=((laidB_at hlaid ho).2 d hd).1
        have:d < a.tmps.size:=by rw [h.size];exact hdl
        simp [Act.eval,Act.put,Array.getD_eq_getD_getElem?,hd,this]
    refine hstep j o ho a w h.world (h.pre j o ho h0') h.size h.defers (fun t ht=>h.old t fun k p hp hd=>?_) (fun e he hb p d hp hd=>by obtain ⟨v,h1,h2⟩:=h.val e.on p hp (haft e he hb);rw [h1 d hd];exact h2) _ fun v w' hS hV=>?_
    · rcases oldB_at ht hp hd with rfl |⟨e,he,hb,heq⟩
      · exact h0'
      · cases hk:listed.getD k false with
        | false=>rfl
        | true=>
          have:=h.shut k p hp hk e he hb
          rw [heq,h0'] at this
          cases this
    · refine ih _ _ _ (by simpa using hl) ?_ ?_
      · have hv:listed.toList[j]'(by simpa using hjl)=false:=by simp [hjl] at h0'⊢;exact h0'
        rw [Array.toList_setIfInBounds,List.count_set (by simpa using hjl),hv]
        simp
        have hm:false∈listed.toList:=hv ▸ List.getElem_mem _
        have:=List.count_pos_iff.2 hm
        rw [←Array.count_toList]
        omega
      · have hsz:(a.put o.dst v).tmps.size=a0.tmps.size:=by
          rw [←h.size]
          cases o.dst with
          | none=>rfl
          | some d=>simp [Act.put]
        refine ⟨hC j o _ _ v w w' ho (hdst v) (hput v) h.world hS,fun i p hp hi=>?_,hsz,?_,fun t ht=>?_,fun i p hp hi=>?_,fun k p hp hk e he hb=>?_⟩
        · have hji:i≠j:=fun e=>by
           rw [e,getD_set_same _ _ hjl] at hi
           cases hi
          rw [getD_set_ne false hji.symm] at hi
          refine hU i j v w w' hji ?_ (h.pre i p hp hi) hS
          cases hup:upB md ops ops.size j i with
          | false=>rfl
          | true=>
            have:=upB_listed h.shut _ j i o ho haft hup
            rw [hi] at this
            cases this
        · rw [←h.defers]
          cases o.dst <;> rfl
        · have hne:o.dst≠some t:=fun hd=>by
           have:=ht j o ho hd
           rw [getD_set_same _ _ hjl] at this
           cases this
          have hold:=h.old t fun k p hp hd=>by
           have:=ht k p hp hd
           cases hk:listed.getD k false with
           | false=>rfl
           | true=>
             by_cases hjk:j=k
             · subst hjk;rw [h0'] at hk;cases hk
             · rw [getD_set_ne false hjk,hk] at this;cases this
          rw [←hold]
          cases hod:o.dst with
          | none=>rfl
          | some d=>
            have hdt:d≠t:=fun h=>hne (by rw [hod,h])
            simp [Act.put,Array.getD_eq_getD_getElem?,hdt]
        · rcases getD_set_or _ _ _ hi with rfl | hi1
          · rw [ho] at hp
            injection hp with hp
            subst hp
            refine ⟨v,fun d hd=>?_,hown _ _ _ _ _ _ ho (hput v) hV⟩
            have hdl:=((laidB_at hlaid ho).2 d hd).1
            rw [hd]
            have:d < a.tmps.size:=by rw [h.size];exact hdl
            simp [Act.put,Array.getD_eq_getD_getElem?,this]
          · by_cases hij:i=j
            · subst hij;rw [h0'] at hi1;cases hi1
            obtain ⟨u,hu,hv⟩:=h.val i p hp hi1
            have haf:upB md ops ops.size i j=false:=by
              cases hc:upB md ops ops.size i j with
              | false=>rfl
              | true=>
                exfalso
                have:=upB_listed h.shut _ i j p hp (h.shut i p hp hi1) hc
                rw [h0'] at this
                cases this
            refine ⟨u,fun d hd=>?_,hstab _ _ _ _ _ _ _ _ _ ho (hput v) hij haf hv h.world hS⟩
            rw [←hu d hd]
            cases hod:o.dst with
            | none=>rfl
            | some d'=>
              have hdt:d'≠d:=fun h=>hij (((laidB_at hlaid ho).2 d' hod).2 i p hp (h ▸ hd))
              simp [Act.put,Array.getD_eq_getD_getElem?,hdt]
        · rcases getD_set_or _ _ _ hk with rfl | hk
          · rw [ho] at hp
            injection hp with hp
            subst hp
            have h1:=haft e he hb
            by_cases hje:k=e.on
            · rw [←hje];exact getD_set_same _ _ hjl _
            · rw [getD_set_ne false hje];exact h1
          · have h1:=h.shut k p hp hk e he hb
            by_cases hje:j=e.on
            · rw [←hje];exact getD_set_same _ _ hjl _
            · rw [getD_set_ne false hje];exact h1
 refine main _ _ _ _ (by simp) (by simp) ⟨hC0,fun j _ _ _=>hU0 j,rfl,rfl,fun _ _=>rfl,fun i o ho hi=>?_,fun k p hp hk=>?_⟩
 · have hlt:i < ops.size:=(Array.getElem?_eq_some_iff.1 ho).1
   simp [hlt] at hi
 · have hlt:k < ops.size:=(Array.getElem?_eq_some_iff.1 hp).1
   simp [hlt] at hk
theorem wpAny_frame8 (ds:List Nat) (C:(Operand→Value)→World→Prop) (S:Nat→Value→World→World→Prop) (U:Nat→World→Prop) (V:Nat→(Operand→Value)→Value→World→Prop) (a0:Act) (W0:World)
 (hds:ops.toList.filterMap (·.dst)=ds)
 (hlaid:laidB md ops a0.tmps.size=true) (hC0:C a0.eval W0) (hU0:∀i,U i W0) (hC:∀j o ev ev' v w w',ops[j]?=some o→(∀d,o.dst=some d→ev' (.tmp d)=v)→(∀t,o.dst≠some t→ev' (.tmp t)=ev (.tmp t))→C ev w→S j v w w'→C ev' w') (hU:∀i j v w w',i≠j→upB md ops ops.size j i=false→U i w→S j v w w'→U i w')
 (hown:∀j o ev ev' v w,ops[j]?=some o→(∀t,o.dst≠some t→ev' (.tmp t)=ev (.tmp t))→V j ev v w→V j ev' v w)
 (hstab:∀i j o ev ev' v u w w',ops[j]?=some o→(∀t,o.dst≠some t→ev' (.tmp t)=ev (.tmp t))→i≠j→upB md ops ops.size i j=false→V i ev v w→C ev w→S j u w w'→V i ev' v w')
 (hstep:∀j o,ops[j]?=some o→StepOkF P ops Q md C S U V a0 j o)
 (hend:∀(ev:Operand→Value) w,C ev w→(∀i d,((ops[i]?).bind (·.dst))=some d→V i ev (ev (.tmp d)) w)→(∀i,i < ops.size→∃v,V i ev v w)→Q .normal (putsOf ev ds a0) w):
 wpAny P md ops Q ops.size (Array.replicate ops.size false) a0 W0:=by
 refine wpAny_frame7 C S U V a0 W0 hlaid hC0 hU0 hC hU hown hstab hstep fun a w hS hsz hdf hold hval=>?_
 have h1:=hend a.eval w hS (fun i d hd=>by
  cases ho:ops[i]? with
  | none=>rw [ho] at hd;cases hd
  | some o=>
    rw [ho] at hd
    obtain ⟨v,h1,h2⟩:=hval i o ho
    have:=h1 d hd
    change V i a.eval (a.tmps.getD d undef) w
    rw [this]
    exact h2) (fun i hi=>by
  obtain ⟨v,_,h2⟩:=hval i _ (Array.getElem?_eq_getElem hi)
  exact ⟨v,h2⟩)
 rw [←act_puts a a0 ds hsz hdf fun t ht=>hold t fun k p hp hd=>ht ?_] at h1
 · exact h1
 · rw [←hds]
   exact List.mem_filterMap.2 ⟨p,Array.mem_toList_iff.2 (Array.mem_of_getElem? hp),hd⟩
end
def blk?:Value→Option Nat
 | .pointer (some a)=>some a.block
 | .slice (some a) _ _=>some a.block
 | _=>none
def Apart (fs:List Nat) (ev:Operand→Value) (w:World):Prop:=
 (∀s∈fs,∀g,blk? (ev (.tmp s))=some g→g < w.heap.size)∧∀s∈fs,∀t∈fs,s≠t→∀g,blk? (ev (.tmp s))=some g→blk? (ev (.tmp t))≠some g
theorem apart_none {fs:List Nat} {ev:Operand→Value} {w:World} (h:(fs.all fun s=>(blk? (ev (.tmp s))).isNone)=true):Apart fs ev w:=by
 have h1:∀s∈fs,blk? (ev (.tmp s))=none:=fun s hs=>by simpa using List.all_eq_true.1 h s hs
 refine ⟨fun s hs g hg=>?_,fun s hs _ _ _ g hg=>?_⟩<;>(rw [h1 s hs] at hg;cases hg)
def Fresh (v:Value) (w w':World):Prop:=∀g,blk? v=some g→w.heap.size≤g∧g < w'.heap.size
def LStep (fs:List Nat) (ops:Array Oper) (SJ:World→World→Prop) (J j:Nat) (v:Value) (w w':World):Prop:=w.heap.size≤w'.heap.size∧(j=J→SJ w w')∧(j≠J→Grow w w')∧∀d∈fs,((ops[j]?).bind (·.dst))=some d→Fresh v w w'
theorem lstep_grow {fs:List Nat} {ops:Array Oper} {SJ:World→World→Prop} {J j:Nat} {v:Value} {w w':World} (h:Grow w w') (hj:(j==J)=false) (hf:(fs.all fun d=>((ops[j]?).bind (·.dst))!= some d)=true):LStep fs ops SJ J j v w w':=
 ⟨h.size,fun e=>by simp [e] at hj,fun _=>h,fun d hd he=>by have:=List.all_eq_true.1 hf d hd;simp [he] at this⟩
theorem lstep_new {fs:List Nat} {ops:Array Oper} {SJ:World→World→Prop} {J j:Nat} {v:Value} {w w':World} (h:Grow w w') (hj:(j==J)=false) (hf:Fresh v w w'):LStep fs ops SJ J j v w w':=
 ⟨h.size,fun e=>by simp [e] at hj,fun _=>h,fun _ _ _=>hf⟩
theorem lstep_at {fs:List Nat} {ops:Array Oper} {SJ:World→World→Prop} {J:Nat} {v:Value} {w w':World} (h:SJ w w') (hz:w.heap.size≤w'.heap.size) (hf:(fs.all fun d=>((ops[J]?).bind (·.dst))!= some d)=true):LStep fs ops SJ J J v w w':=
 ⟨hz,fun _=>h,fun e=>absurd rfl e,fun d hd he=>by have:=List.all_eq_true.1 hf d hd;simp [he] at this⟩
abbrev KP:=List Nat×((Operand→Value)→Value→World→Prop)
def k0 (p:Value→World→Prop):KP:=([],fun _ v w=>p v w)
def kEq (t:Nat):KP:=([t],fun ev v _=>v=ev (.tmp t))
def kLk (s1 s2:Nat) (p:Value→Value→World→Prop):KP:=([s1,s2],fun ev _ w=>p (ev (.tmp s1)) (ev (.tmp s2)) w)
def DepOk (q:KP):Prop:=∀ev ev':Operand→Value,(∀t∈q.1,ev' (.tmp t)=ev (.tmp t))→∀v w,q.2 ev v w→q.2 ev' v w
theorem dep_k0 (p:Value→World→Prop):DepOk (k0 p):=fun _ _ _ _ _ h=>h
theorem dep_kEq (t:Nat):DepOk (kEq t):=fun ev ev' he v w h=>by
 show v=ev' (.tmp t)
 rw [he t (by simp [kEq])]
 exact h
theorem dep_kLk (s1 s2:Nat) (p:Value→Value→World→Prop):DepOk (kLk s1 s2 p):=fun ev ev' he v w h=>by
 show p (ev' (.tmp s1)) (ev' (.tmp s2)) w
 rw [he s1 (by simp [kLk]),he s2 (by simp [kLk])]
 exact h
def StbQ (R:World→World→Prop) (q:KP):Prop:=∀ev v w w',q.2 ev v w→R w w'→q.2 ev v w'
theorem stbq_k0 {R:World→World→Prop} {p:Value→World→Prop} (h:∀v w w',p v w→R w w'→p v w'):StbQ R (k0 p):=fun _ v w w' hp hr=>h v w w' hp hr
theorem stbq_is (R:World→World→Prop) (c:Value):StbQ R (k0 (is c)):=fun _ _ _ _ h _=>h
theorem stbq_any (R:World→World→Prop):StbQ R (k0 anyV):=fun _ _ _ _ _ _=>trivial
theorem stbq_kEq (R:World→World→Prop) (t:Nat):StbQ R (kEq t):=fun _ _ _ _ h _=>h
theorem stbq_kLk {R:World→World→Prop} {s1 s2:Nat} {p:Value→Value→World→Prop} (h:∀u v w w',p u v w→R w w'→p u v w'):StbQ R (kLk s1 s2 p):=fun _ _ w w' hp hr=>h _ _ w w' hp hr
def VsQ (l:List KP) (i:Nat) (ev:Operand→Value) (v:Value) (w:World):Prop:=(l.getD i (k0 anyV)).2 ev v w
theorem vsQ_mem (l:List KP) (i:Nat):l.getD i (k0 anyV)∈l∨l.getD i (k0 anyV)=k0 anyV:=by
 rw [List.getD_eq_getElem?_getD]
 cases h:l[i]? with
 | none=>exact .inr rfl
 | some q=>exact .inl (List.mem_of_getElem? h)
theorem wpAny_link {P:Program} {ops:Array Oper} {Q:Exit→Act→World→Prop} {md:Region.Mode} (ds fs:List Nat) (J:Nat) (SJ:World→World→Prop) (C:World→Prop) (l:List KP) (a0:Act) (W0:World)
 (hds:ops.toList.filterMap (·.dst)=ds) (hlaid:laidB md ops a0.tmps.size=true)
 (hlk:((List.range ops.size).all fun i=>(List.range ops.size).all fun j=>match ops[j]? with
  | some o=>upB md ops ops.size i j||(l.getD i (k0 anyV)).1.all fun t=>o.dst != some t
  | none=>true)=true)
 (hC0:C W0) (hA0:Apart fs a0.eval W0) (hC:∀w w',C w→(Grow w w'∨SJ w w')→C w')
 (hdep:∀q∈l,DepOk q) (hst:∀q∈l,StbQ Grow q) (hst2:∀q∈l.eraseIdx J,StbQ SJ q)
 (hstep:∀j o,ops[j]?=some o→StepOkF P ops Q md (fun ev w=>C w∧Apart fs ev w) (LStep fs ops SJ J) (fun _ _=>True) (VsQ l) a0 j o)
 (hend:∀(ev:Operand→Value) w,C w→Apart fs ev w→(∀i d,((ops[i]?).bind (·.dst))=some d→VsQ l i ev (ev (.tmp d)) w)→(∀i,i < ops.size→∃v,VsQ l i ev v w)→Q .normal (putsOf ev ds a0) w):
 wpAny P md ops Q ops.size (Array.replicate ops.size false) a0 W0:=by
 have hany:∀ {j v w w'},LStep fs ops SJ J j v w w'→Grow w w'∨SJ w w':=fun {j v w w'} h=>by
  by_cases hj:j=J
  · exact .inr (h.2.1 hj)
  · exact .inl (h.2.2.1 hj)
 have hself:∀j,upB md ops ops.size j j=false:=by
  intro j
  cases hc:upB md ops ops.size j j with
  | false=>rfl
  | true=>exact (upB_irrefl hlaid _ _ _ (Nat.le_refl _) hc).elim
 have hdepA:∀i,DepOk (l.getD i (k0 anyV)):=fun i=>by
  rcases vsQ_mem l i with h | h
  · exact hdep _ h
  · rw [h];exact dep_k0 _
 have hkeep:∀i j o (ev ev':Operand→Value) v w,i < ops.size→ops[j]?=some o→(∀t,o.dst≠some t→ev' (.tmp t)=ev (.tmp t))→upB md ops ops.size i j=false→VsQ l i ev v w→VsQ l i ev' v w:=by
  intro i j o ev ev' v w hi ho he hup hv
  have h1:=List.all_eq_true.1 (List.all_eq_true.1 hlk i (by simpa using hi)) j (by simpa using (Array.getElem?_eq_some_iff.1 ho).1)
  simp only [ho,hup,Bool.false_or] at h1
  exact hdepA i ev ev' (fun t ht=>he t (by have:=List.all_eq_true.1 h1 t ht;simpa using this)) v w hv
 refine wpAny_frame8 ds (fun ev w=>C w∧Apart fs ev w) (LStep fs ops SJ J) (fun _ _=>True) (fun i ev v w=>i < ops.size→VsQ l i ev v w) a0 W0 hds hlaid ⟨hC0,hA0⟩ (fun _=>trivial) (fun j o ev ev' v w w' ho hd he h k=>⟨hC w w' h.1 (hany k),?_⟩) (fun _ _ _ _ _ _ _ _ _=>trivial) (fun j o ev ev' v w ho he hv hj=>hkeep j j o ev ev' v w hj ho he (hself j) (hv hj)) (fun i j o ev ev' v u w w' ho he hij hup hv hc k hi=>?_) (fun j o ho a w h1 h2 h3 h4 h5 h6 K hK=>hstep j o ho a w h1 h2 h3 h4 h5 (fun e he hb p d hp hd=>h6 e he hb p d hp hd (Array.getElem?_eq_some_iff.1 hp).1) K (fun v w' hS hV=>hK v w' hS fun _=>hV)) (fun ev w h h1 h2=>hend ev w h.1 h.2 (fun i d hd=>h1 i d hd (by
  cases ho:ops[i]? with
  | none=>rw [ho] at hd;cases hd
  | some o=>exact (Array.getElem?_eq_some_iff.1 ho).1)) (fun i hi=>(h2 i hi).imp fun v hv=>hv hi))
 · have hz:=k.1
   obtain ⟨h1,h2⟩:=h.2
   have hnew:∀s∈fs,o.dst=some s→Fresh (ev' (.tmp s)) w w':=fun s hs hds=>by
    rw [hd s hds]
    exact k.2.2.2 s hs (by rw [ho];exact hds)
   refine ⟨fun s hs g hg=>?_,fun s hs t ht hst g hg hg'=>?_⟩
   · by_cases hds:o.dst=some s
     · exact (hnew s hs hds g hg).2
     · rw [he s hds] at hg
       have:=h1 s hs g hg
       omega
   · by_cases hds:o.dst=some s
     · have hdt:o.dst≠some t:=fun e=>hst (by rw [hds] at e;injection e)
       rw [he t hdt] at hg'
       have:=(hnew s hs hds g hg).1
       have:=h1 t ht g hg'
       omega
     · rw [he s hds] at hg
       by_cases hdt:o.dst=some t
       · have:=(hnew t ht hdt g hg').1
         have:=h1 s hs g hg
         omega
       · rw [he t hdt] at hg'
         exact h2 s hs t ht hst g hg hg'
 · have h1:=hkeep i j o ev ev' v w hi ho he hup (hv hi)
   unfold VsQ at h1⊢
   by_cases hj:j=J
   · subst hj
     have hm:l.getD i (k0 anyV)∈l.eraseIdx j∨l.getD i (k0 anyV)=k0 anyV:=by
        rw [List.getD_eq_getElem?_getD]
        cases hl:l[i]? with
        | none=>exact .inr rfl
        | some q=>exact .inl (List.mem_eraseIdx_iff_getElem?.2 ⟨i,hij,hl⟩)
     rcases hm with h2 | h2
     · exact hst2 _ h2 ev' v w w' h1 (k.2.1 rfl)
     · rw [h2];trivial
   · rcases vsQ_mem l i with h2 | h2
     · exact hst _ h2 ev' v w w' h1 (k.2.2.1 hj)
     · rw [h2];trivial
end Go.Proofs.YtipaccakmndkgaaGreat
namespace Go.Proofs.YtipaccakmndkgaaGreat
open Go.RowKit
set_option linter.unusedVariables false
set_option linter.unusedSimpArgs false
theorem node_info:(Tryz.prog.info? 119).map (fun i=>(i.zero,i.size,i.bytes))=some (some (.agg #[.int .i64 0,.int .i64 0,.int .i64 0,.int .i64 0,.int .i64 0,.int .i64 0,.int .i64 0,.pointer none]),8,64):=by kernel_rfl
theorem rd_eight {w:World} {g sz:Nat} {e:TypeId} {cs:Array Value} (h:Bk w g e cs) (hs:cs.size=sz):Rd w w.heap.size sz (some ⟨g,0,none⟩) 1 cs.toList:=by
 refine ⟨by simp [hs],fun _=>⟨g,0,rfl,h.lt,fun i u hu=>?_⟩⟩
 rw [Nat.zero_add,h.cell i]
 rw [←hu]
 simp
structure Leaf (w:World) (B gt ga gl cl gb:Nat) (rt v:Int) (bs:List Bool):Prop where
 tree:Bk w gt 116 #[.pointer (some ⟨ga,0,none⟩),.slice (some ⟨gl,0,none⟩) 1 cl,.int .i64 rt,.int .i64 v]
 row:RowS B gl cl gb (bs.length:Int) ((bs.count true:Nat):Int) w
 blk:Bk w gb 146 (blkC bs)
 arena:∃A c,Bk w ga 107 #[.slice A 1 c,.slice none 0 0,.int .i64 268435456]∧Made w B 4 1 A 1 c [.bool true]
theorem own_row {w:World} {B:Nat} {A:Option Addr} {c:Nat} {xs:List Value} {e:TypeId} {sz:Nat} (h:w.ownsRow B e sz (.slice A 1 c) 1 xs):∃gl,A=some ⟨gl,0,none⟩:=by
 obtain ⟨g,cap,hv,_,_⟩:=World.ownsRow.form h (by omega)
 injection hv with hv
 exact ⟨g,hv⟩
theorem made_Tn {w w':World} {B B' gl cl gb:Nat} {x y:Int} {A:Option Addr} {n c:Nat} {xs:List Value} (hr:RowS B gl cl gb x y w) (k:Keep (fun b=>b=gl) w w') (h:Made w B' 4 1 A n c xs):Made w' B' 4 1 A n c xs:=by
 have ho:w'.ownsRow B' 4 1 (.slice A n c) n xs:=by
  refine ⟨h.own.1,?_⟩
  rcases h.own.2 with h1 |⟨g',cap,cur,h1,h2,h3,h4⟩
  · exact .inl h1
  · refine .inr ⟨g',cap,cur,h1,h2,(k.block g' (lt_of_block h3) (fun e'=>?_)).trans h3,h4⟩
    exact hr.bk_ne (t:=4) h3 (by decide) e'
 exact ⟨ho,Rd.of_own ho,h.cap,h.max⟩
set_option maxRecDepth 100000 in
set_option maxHeartbeats 4000000 in
theorem node_first (gt ga gb:Nat) (v:Int) (bs:List Bool) (w:World) (ht:Bk w gt 116 #[.pointer (some ⟨ga,0,none⟩),.slice none 0 0,.int .i64 (-1),.int .i64 v]) (ha:Bk w ga 107 #[.slice none 0 0,.slice none 0 0,.int .i64 268435456]) (hb:Bk w gb 146 (blkC bs)) (hl:bs.length≤128):
 Calls Tryz.prog 149 #[.pointer (some ⟨gt,0,none⟩),.agg #[.int .i64 (-1),.int .i64 (-1),.int .i64 0,.int .i64 0,.int .i64 0,.int .i64 0,.int .i64 0,.pointer (some ⟨gb,0,none⟩)]] w fun e w'=>e=.returned (.int .i64 0)∧Keep (fun b=>b=ga∨b=gt) w w'∧∃gl cl,Leaf w' w.heap.size gt ga gl cl gb (-1) v bs:=by
 obtain ⟨i0,hi0,hz0,hz1,hz2⟩:=info_parts node_info
 have hgt:=ht.lt
 have hga:=ha.lt
 have hgb:=hb.lt
 have hta:gt≠ga:=Bk.ne ht ha (by decide)
 have htb:gt≠gb:=Bk.ne ht hb (by decide)
 have hab:ga≠gb:=Bk.ne ha hb (by decide)
 have q0:w.cell? ⟨gt,0,none⟩=some (.pointer (some ⟨ga,0,none⟩)):=(ht.cell 0).trans rfl
 have Ht:=Lib.hid ht
 have Ha:=Lib.hid ha
 have Hb:=Lib.hid hb
 clear ht ha hb
 go_enter Tryz.func149,Tryz.ntmps149
 go_wp2_with fail
 obtain ⟨nb,hnb⟩:∃nb,w.heap.size=nb:=⟨_,rfl⟩
 refine (Take_first ga _ (Ha.out.alloc _)).mono ?_
 rintro e w1 ⟨rfl,hk1,A1,c1,ha1,hm1⟩
 have hn1:Bk w1 nb 119 #[.int .i64 (-1),.int .i64 (-1),.int .i64 0,.int .i64 0,.int .i64 0,.int .i64 0,.int .i64 0,.pointer (some ⟨gb,0,none⟩)]:=by
  rw [←hnb]
  exact hk1.bk (Bk.new w _ _) (fun h=>absurd (show w.heap.size=ga from h) (by omega))
 have ht1:=hk1.bk (Ht.out.alloc _) (fun h=>hta h)
 have hb1:=hk1.bk (Hb.out.alloc _) (fun h=>hab h.symm)
 have hs1:=hk1.size
 rw [World.size_alloc] at hs1 hm1
 have q1:w1.cell? ⟨gt,1,none⟩=some (.slice none 0 0):=(ht1.cell 1).trans rfl
 have HK1:=Lib.hid hk1
 clear hk1
 go_wp2_with fail
 refine wp_region_any (by kernel_rfl) ?_
 refine wpAny_keep [22,23,24,25,26,27,28,29,30,31] (fun b=>b=gt) 10 [4,10] (fun w2=>Bk w2 gt 116 #[.pointer (some ⟨ga,0,none⟩),.slice none 0 0,.int .i64 (-1),.int .i64 v]) (fun _ w2=>∃A c,Bk w2 gt 116 #[.pointer (some ⟨ga,0,none⟩),.slice A 1 c,.int .i64 (-1),.int .i64 v]∧Made w2 (nb+1) 119 8 A 1 c (leafL 0 0 gb)) [is (.pointer (some ⟨gt,0,none⟩)),is (.pointer (some ⟨gt,0,none⟩)),is (.pointer (some ⟨gt,0,none⟩)),is (.pointer (some ⟨gt,1,none⟩)),is (.slice none 0 0),is (.agg #[.int .i64 (-1),.int .i64 (-1),.int .i64 0,.int .i64 0,.int .i64 0,.int .i64 0,.int .i64 0,.pointer (some ⟨gb,0,none⟩)]),newBk (fun b=>b=gt) 119 #[.int .i64 (-1),.int .i64 (-1),.int .i64 0,.int .i64 0,.int .i64 0,.int .i64 0,.int .i64 0,.pointer (some ⟨gb,0,none⟩)] fun g=>.slice (some ⟨g,0,none⟩) 1 1,madeV (nb+1) 119 8 1 (leafL 0 0 gb),is (.pointer (some ⟨gt,0,none⟩)),is (.pointer (some ⟨gt,1,none⟩)),anyV] _ _ rfl (by kernel_rfl) (by kernel_rfl) (ht1) (fun w2 w3 h _ hg=>Bk.below h hg h.lt) (fun _ _ _ ⟨A,c,h1,h2⟩ k=>⟨A,c,Bk.below h1 k h1.lt,h2.below k⟩) (by repeat' (first | exact stbk_is _ _ | exact stbk_any _ | exact stbk_newBk _ _ _ _ | exact stbk_made (fun b hb=>by subst hb;omega) _ _ _ _ |(refine List.forall_mem_cons.2 ⟨?_,?_⟩)|(intro p hp;cases hp))) ?_ ?_
 · refine steps_of ?_
   refine steps_cons (step_on3 rfl rfl fun ev _ _ _ _ _ hold _ _ _ _ hK=>?_) ?_
   · have e0:ev (.tmp 0)=.pointer (some ⟨gt,0,none⟩):=hold 0 (by kernel_rfl)
     go_simp
     exact hK _ _ (kstep_grow (Below.refl _ _)) rfl
   refine steps_cons (step_on3 rfl rfl fun ev _ _ _ _ _ hold _ _ _ _ hK=>?_) ?_
   · have e0:ev (.tmp 0)=.pointer (some ⟨gt,0,none⟩):=hold 0 (by kernel_rfl)
     go_simp
     exact hK _ _ (kstep_grow (Below.refl _ _)) rfl
   refine steps_cons (step_on3 rfl rfl fun _ _ _ _ _ _ _ hval _ _ _ hK=>?_) ?_
   · have e23:_=_:=hval 1 23 (by kernel_rfl) rfl
     go_simp
     exact hK _ _ (kstep_grow (Below.refl _ _)) rfl
   refine steps_cons (step_on3 rfl rfl fun _ _ _ _ _ _ _ hval _ _ _ hK=>?_) ?_
   · have e24:_=_:=hval 2 24 (by kernel_rfl) rfl
     go_simp
     exact hK _ _ (kstep_grow (Below.refl _ _)) rfl
   refine steps_cons (step_on3 rfl rfl fun _ w5 _ hU _ _ _ hval _ _ _ hK=>?_) ?_
   · have hpre:=hU rfl
     have e25:_=_:=hval 3 25 (by kernel_rfl) rfl
     have c26:w5.cell? ⟨gt,1,none⟩=some (.slice none 0 0):=(hpre.cell 1).trans rfl
     go_simp
     exact hK _ _ (kstep_grow (Below.refl _ _)) rfl
   refine steps_cons (step_on3 rfl rfl fun ev w5 hS _ _ _ hold _ _ _ _ hK=>?_) ?_
   · replace hS:Keep (fun b=>b=gt) w1 w5:=⟨hS.os,hS.tape,hS.output,hS.size,hS.block⟩
     have e3:ev (.tmp 3)=.pointer (some ⟨nb,0,none⟩):=hold 3 (by kernel_rfl)
     have hn5:=hS.bk hn1 (fun h=>absurd (show nb=gt from h) (by omega))
     have x0:w5.cell? ⟨nb,0,none⟩=some (.int .i64 (-1)):=(hn5.cell 0).trans rfl
     have x1:w5.cell? ⟨nb,1,none⟩=some (.int .i64 (-1)):=(hn5.cell 1).trans rfl
     have x2:w5.cell? ⟨nb,2,none⟩=some (.int .i64 0):=(hn5.cell 2).trans rfl
     have x3:w5.cell? ⟨nb,3,none⟩=some (.int .i64 0):=(hn5.cell 3).trans rfl
     have x4:w5.cell? ⟨nb,4,none⟩=some (.int .i64 0):=(hn5.cell 4).trans rfl
     have x5:w5.cell? ⟨nb,5,none⟩=some (.int .i64 0):=(hn5.cell 5).trans rfl
     have x6:w5.cell? ⟨nb,6,none⟩=some (.int .i64 0):=(hn5.cell 6).trans rfl
     have x7:w5.cell? ⟨nb,7,none⟩=some (.pointer (some ⟨gb,0,none⟩)):=(hn5.cell 7).trans rfl
     go_simp
     exact hK _ _ (kstep_grow (Below.refl _ _)) rfl
   refine steps_cons (step_on3 rfl rfl fun _ w5 hS _ _ _ _ hval _ _ _ hK=>?_) ?_
   · replace hS:Keep (fun b=>b=gt) w1 w5:=⟨hS.os,hS.tape,hS.output,hS.size,hS.block⟩
     have e27:_=_:=hval 5 27 (by kernel_rfl) rfl
     go_simp
     exact hK _ _ (kstep_grow ((Below.refl _ _).alloc (Nat.le_refl _) _)) ⟨_,rfl,Bk.new _ _ _,fun h=>by have:=hS.size;have h0:w5.heap.size=gt:=h;omega⟩
   refine steps_cons (step_on3 rfl rfl fun ev w5 hS _ _ _ _ hval _ _ ha hK=>?_) ?_
   · replace hS:Keep (fun b=>b=gt) w1 w5:=⟨hS.os,hS.tape,hS.output,hS.size,hS.block⟩
     have e26:_=_:=hval 4 26 (by kernel_rfl) rfl
     have p28:(newBk (fun b=>b=gt) 119 #[.int .i64 (-1),.int .i64 (-1),.int .i64 0,.int .i64 0,.int .i64 0,.int .i64 0,.int .i64 0,.pointer (some ⟨gb,0,none⟩)] fun g=>.slice (some ⟨g,0,none⟩) 1 1) (ev (.tmp 28)) w5:=hval 6 28 (by kernel_rfl) rfl
     obtain ⟨g28,e28,hb28,hn28⟩:=p28
     subst ha
     have hw5:nb+1≤w5.heap.size:=by have:=hS.size;omega
     refine wp_append_rd w5 (.tmp 26) (.tmp 28) _ rfl (nb+1) 119 i0 _ 8 64 Tryz.underlying114 hi0 hz0 hz1 hz2 rfl (by decide) (.slice none 0 0) 0 [] e26 (World.ownsRow_nil _ _ _ _) w5.heap.size (some ⟨g28,0,none⟩) 1 1 _ e28 (rd_eight hb28 rfl) (by simp [Value.oneCell']) (by unfold maxLen;omega) (by omega) hw5 ?_
     intro v6 w6 hown6 hg6 hat6
     rw [Nat.zero_add,List.nil_append] at hown6
     obtain ⟨A9,c9,rfl,hm9⟩:=made_of_own hown6
     exact hK _ _ (kstep_grow ⟨hg6.os,hg6.tape,hg6.output,hg6.size,fun k hk=>hg6.block k hk (by simp [Value.ownBlock])⟩) ⟨A9,c9,rfl,hm9⟩
   refine steps_cons (step_on3 rfl rfl fun _ _ _ _ _ _ _ hval _ _ _ hK=>?_) ?_
   · have e22:_=_:=hval 0 22 (by kernel_rfl) rfl
     go_simp
     exact hK _ _ (kstep_grow (Below.refl _ _)) rfl
   refine steps_cons (step_on3 rfl rfl fun _ _ _ _ _ _ _ hval _ _ _ hK=>?_) ?_
   · have e30:_=_:=hval 8 30 (by kernel_rfl) rfl
     go_simp
     exact hK _ _ (kstep_grow (Below.refl _ _)) rfl
   refine steps_cons (step_on3 rfl rfl fun ev w5 _ hU _ _ _ hval _ _ _ hK=>?_) ?_
   · have hpre:=hU rfl
     have e31:_=_:=hval 9 31 (by kernel_rfl) rfl
     have p29:(madeV (nb+1) 119 8 1 (leafL 0 0 gb)) (ev (.tmp 29)) w5:=hval 7 29 (by kernel_rfl) rfl
     obtain ⟨A9,c9,e29,hm9⟩:=p29
     have c31:w5.cell? ⟨gt,1,none⟩=some (.slice none 0 0):=(hpre.cell 1).trans rfl
     have f31:=hpre.frozen 1
     go_simp
     exact hK (.bool true) _ (kstep_keep (Keep.setCell (F:=fun b=>b=gt) (Keep.refl _ _) (p:=⟨gt,1,none⟩) (.inl rfl) _)) ⟨A9,c9,hpre.set 1 _,hm9.keepF (Keep.setCell (F:=fun b=>b=gt) (Keep.refl _ _) (p:=⟨gt,1,none⟩) (.inl rfl) _) (fun b hb=>by subst hb;omega)⟩
   exact steps_nil
 · intro ev w6 hS hval hall
   replace hS:Keep (fun b=>b=gt) w1 w6:=⟨hS.os,hS.tape,hS.output,hS.size,hS.block⟩
   obtain ⟨vJ,pJ⟩:∃vJ0,(fun _ w2=>∃A c,Bk w2 gt 116 #[.pointer (some ⟨ga,0,none⟩),.slice A 1 c,.int .i64 (-1),.int .i64 v]∧Made w2 (nb+1) 119 8 A 1 c (leafL 0 0 gb)) vJ0 w6:=hall 10 (by decide)
   simp only [putsOf,List.foldl_cons,List.foldl_nil,Act.put,List.setIfInBounds_toArray,List.set_cons_zero,List.set_cons_succ]
   clear hval hall
   obtain ⟨A9,c9,ht6,hm6⟩:=pJ
   obtain ⟨gl,rfl⟩:=own_row hm6.own
   have hr6:RowS (nb+1) gl c9 gb 0 0 w6:=hm6.own
   have hb6:=hS.bk hb1 (fun h=>htb h.symm)
   have ha6:=hS.bk ha1 (fun h=>hta h.symm)
   have hm16:=hm1.keepF hS (fun b hb=>by subst hb;omega)
   have HS:=Lib.hid hS
   have hgl:=hr6.lt
   clear hS hm6
   go_wp2_with fail
   refine (fix_leaf gt ga gl c9 gb (nb+1) (-1) v bs w6 ht6 hr6 hb6 hl).mono ?_
   rintro e w7 ⟨rfl,hk7,hr7⟩
   have ht7:=hk7.bk ht6 (fun h=>absurd (show gt=gl from h) (by omega))
   have hb7:=hk7.bk hb6 (fun h=>absurd (show gb=gl from h) (by omega))
   have ha7:=hk7.bk ha6 (fun h=>absurd (show ga=gl from h) (by omega))
   have hm7:Made w7 w.heap.size 4 1 A1 1 c1 [.bool true]:=(made_Tn hr6 hk7 hm16).mono (by omega)
   have hkeep:Keep (fun b=>b=ga∨b=gt) w w7:=by
    have k1:Keep (fun b=>b=ga∨b=gt) w w1:=(Keep.of_below ((Below.refl _ _).alloc (Nat.le_refl _) _)).trans (HK1.out.mono (fun b _ e=>.inl e))
    have k2:=k1.trans (HS.out.mono (fun b _ e=>.inr e))
    exact k2.trans' hk7 (fun b hb e=>absurd (show b=gl from e) (by omega))
   go_wp2_with fail
   go_ret
   rw [hnb] at*
   exact ⟨rfl,hkeep,gl,c9,ht7,own_mono hr7 (by omega),hb7,A1,c1,ha7,hm7⟩
set_option maxRecDepth 100000 in
theorem leaf_first (gt ga gb:Nat) (v:Int) (bs:List Bool) (w:World) (ht:Bk w gt 116 #[.pointer (some ⟨ga,0,none⟩),.slice none 0 0,.int .i64 (-1),.int .i64 v]) (ha:Bk w ga 107 #[.slice none 0 0,.slice none 0 0,.int .i64 268435456]) (hb:Bk w gb 146 (blkC bs)) (hl:bs.length≤128):
 Calls Tryz.prog 133 #[.pointer (some ⟨gt,0,none⟩),.pointer (some ⟨gb,0,none⟩)] w fun e w'=>e=.returned (.int .i64 0)∧Keep (fun b=>b=ga∨b=gt) w w'∧∃gl cl,Leaf w' w.heap.size gt ga gl cl gb (-1) v bs:=by
 go_enter Tryz.func133,Tryz.ntmps133
 go_wp2_with fail
 refine (node_first gt ga gb v bs w ht ha hb hl).mono ?_
 rintro e w1 ⟨rfl,hk,gl,cl,h⟩
 go_wp2_with fail
 go_ret
 exact ⟨rfl,hk,gl,cl,h⟩
end Go.Proofs.YtipaccakmndkgaaGreat
