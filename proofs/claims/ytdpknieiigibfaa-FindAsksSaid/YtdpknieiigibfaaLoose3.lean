/- A region that draws its order, as in 'Loose', with a step of its own for each operation: one of them may write. No conditions. -/
import Derived.Test.YtdpknieiigibfaaLoose2
namespace Go.Proofs.Ytdpknieiigibfaa
open Go.RowKit Go
set_option linter.unusedVariables false
section
variable {P : Program} {ops : Array Oper} {Q : Exit → Act → World → Prop} {md : Region.Mode}
/-- Operation i waits for operation j. -/
def aftB (md : Region.Mode) (ops : Array Oper) (i j : Nat) : Bool := match ops[i]? with
  | some o => o.after.toList.any (fun e => Region.binds md e && e.on == j)
  | none => false
/-- What holds when the operations of 'listed' have come up. -/
structure Loose3 (md : Region.Mode) (ops : Array Oper) (C : World → Prop) (U : Nat → World → Prop) (V : Nat → Value → World → Prop) (a0 : Act) (listed : Array Bool) (a : Act) (w : World) : Prop where
  world : C w
  pre : ∀ j o, ops[j]? = some o → listed.getD j false = false → U j w
  size : a.tmps.size = a0.tmps.size
  defers : a.defers = a0.defers
  old : ∀ t, (∀ k p, ops[k]? = some p → p.dst = some t → listed.getD k false = false) → a.tmps.getD t undef = a0.tmps.getD t undef
  val : ∀ i o d, ops[i]? = some o → listed.getD i false = true → o.dst = some d → V i (a.tmps.getD d undef) w
  shut : ∀ k p, ops[k]? = some p → listed.getD k false = true → ∀ e ∈ p.after, Region.binds md e = true → listed.getD e.on false = true
/-- Operation j, whatever came up before it, yields a value of its property. -/
def StepOk3 (P : Program) (ops : Array Oper) (Q : Exit → Act → World → Prop) (md : Region.Mode) (C : World → Prop) (S : Nat → World → World → Prop) (U : Nat → World → Prop) (V : Nat → Value → World → Prop) (a0 : Act) (j : Nat) (o : Oper) : Prop :=
  ∀ a w, C w → U j w → a.tmps.size = a0.tmps.size → a.defers = a0.defers →
      (∀ t, oldB md ops j t = true → a.tmps.getD t undef = a0.tmps.getD t undef) →
      (∀ e ∈ o.after, Region.binds md e = true → ∀ p d, ops[e.on]? = some p → p.dst = some d → V e.on (a.tmps.getD d undef) w) →
      ∀ K : Act → World → Prop, (∀ v w', S j w w' → V j v w' → K (a.put o.dst v) w') → wpOp P ops Q j K a w
/-- An operation in the order's midst: what it finds, by name. -/
theorem step_on3 {C : World → Prop} {S : Nat → World → World → Prop} {U : Nat → World → Prop} {V : Nat → Value → World → Prop} {a0 : Act} {j : Nat} {o : Oper} (ho : ops[j]? = some o) (hg : o.guard = none)
    (h : ∀ ev : Operand → Value, ∀ w, C w → U j w → (∀ v, ev (.const v) = v) → (∀ f, ev (.func f) = .func (.func f) #[] #[]) → (∀ t, oldB md ops j t = true → ev (.tmp t) = a0.eval (.tmp t)) →
      (∀ i d, o.after.toList.any (fun e => Region.binds md e && e.on == i) = true → ((ops[i]?).bind (·.dst)) = some d → V i (ev (.tmp d)) w) →
      ∀ a K, a.eval = ev → (∀ v w', S j w w' → V j v w' → K (a.put o.dst v) w') → Oper.upon P o a K Q ((execOp ev o).run P w)) : StepOk3 P ops Q md C S U V a0 j o := by
  intro a w hS hU hsz hdf hold hval K hK
  unfold wpOp
  simp only [ho]
  have hw : Region.wanted o (yielded ops a.tmps) = true := by unfold Region.wanted; rw [hg]
  rw [if_pos hw]
  refine .inl (h a.eval w hS hU (fun _ => rfl) (fun _ => rfl) (fun t ht => hold t ht) (fun i d hi hd => ?_) a K rfl hK)
  obtain ⟨e, he, h2⟩ := List.any_eq_true.1 hi
  simp only [Bool.and_eq_true, beq_iff_eq] at h2
  obtain ⟨h3, rfl⟩ := h2
  cases hp : ops[e.on]? with
  | none => rw [hp] at hd; cases hd
  | some p => rw [hp] at hd; exact hval e (Array.mem_toList_iff.1 he) h3 p d hp hd
theorem step_guard3 {C : World → Prop} {S : Nat → World → World → Prop} {U : Nat → World → Prop} {V : Nat → Value → World → Prop} {a0 : Act} {j g d : Nat} {b : Bool} {o : Oper} (ho : ops[j]? = some o) (hg : o.guard = some (g, b))
    (hgd : ((ops[g]?).bind (·.dst)) = some d) (hga : o.after.toList.any (fun e => Region.binds md e && e.on == g) = true)
    (hv : ∀ v w, C w → V g v w → v = .bool b)
    (h : ∀ ev : Operand → Value, ∀ w, C w → U j w → (∀ v, ev (.const v) = v) → (∀ f, ev (.func f) = .func (.func f) #[] #[]) → (∀ t, oldB md ops j t = true → ev (.tmp t) = a0.eval (.tmp t)) →
      (∀ i d, o.after.toList.any (fun e => Region.binds md e && e.on == i) = true → ((ops[i]?).bind (·.dst)) = some d → V i (ev (.tmp d)) w) →
      ∀ a K, a.eval = ev → (∀ v w', S j w w' → V j v w' → K (a.put o.dst v) w') → Oper.upon P o a K Q ((execOp ev o).run P w)) : StepOk3 P ops Q md C S U V a0 j o := by
  intro a w hS hU hsz hdf hold hval K hK
  have hval' : ∀ i d, o.after.toList.any (fun e => Region.binds md e && e.on == i) = true → ((ops[i]?).bind (·.dst)) = some d → V i (a.eval (.tmp d)) w := by
    intro i d hi hd
    obtain ⟨e, he, h2⟩ := List.any_eq_true.1 hi
    simp only [Bool.and_eq_true, beq_iff_eq] at h2
    obtain ⟨h3, rfl⟩ := h2
    cases hp : ops[e.on]? with
    | none => rw [hp] at hd; cases hd
    | some p => rw [hp] at hd; exact hval e (Array.mem_toList_iff.1 he) h3 p d hp hd
  have hb := hv _ _ hS (hval' g d hga hgd)
  unfold wpOp
  simp only [ho]
  have hw : Region.wanted o (yielded ops a.tmps) = true := by
    unfold Region.wanted
    rw [hg]
    have : yielded ops a.tmps g = some b := by
      unfold yielded
      rw [hgd]
      change a.tmps.getD d undef = .bool b at hb
      rw [Array.getD_eq_getD_getElem?] at hb
      rw [Option.bind_some]
      cases ht : a.tmps[d]? with
      | none => rw [ht] at hb; cases hb
      | some u => rw [ht] at hb; simp only [Option.getD_some] at hb; rw [hb]
    simp only [this, beq_self_eq_true]
  rw [if_pos hw]
  exact .inl (h a.eval w hS hU (fun _ => rfl) (fun _ => rfl) (fun t ht => hold t ht) hval' a K rfl hK)
/-- The guard says no: the operation is passed over. -/
theorem step_skip3 {C : World → Prop} {S : Nat → World → World → Prop} {U : Nat → World → Prop} {V : Nat → Value → World → Prop} {a0 : Act} {j g d : Nat} {b : Bool} {o : Oper} (ho : ops[j]? = some o) (hg : o.guard = some (g, !b))
    (hgd : ((ops[g]?).bind (·.dst)) = some d) (hga : o.after.toList.any (fun e => Region.binds md e && e.on == g) = true)
    (hv : ∀ v w, C w → V g v w → v = .bool b) (hrefl : ∀ w, S j w w)
    (h : ∀ w, V j undef w) : StepOk3 P ops Q md C S U V a0 j o := by
  intro a w hS hU hsz hdf hold hval K hK
  obtain ⟨e, he, h2⟩ := List.any_eq_true.1 hga
  simp only [Bool.and_eq_true, beq_iff_eq] at h2
  obtain ⟨h3, rfl⟩ := h2
  have hb : a.tmps.getD d undef = .bool b := by
    cases hp : ops[e.on]? with
    | none => rw [hp] at hgd; cases hgd
    | some p => rw [hp] at hgd; exact hv _ _ hS (hval e (Array.mem_toList_iff.1 he) h3 p d hp hgd)
  unfold wpOp
  simp only [ho]
  have hw : Region.wanted o (yielded ops a.tmps) = false := by
    unfold Region.wanted
    rw [hg]
    have : yielded ops a.tmps e.on = some b := by
      unfold yielded
      rw [hgd]
      rw [Array.getD_eq_getD_getElem?] at hb
      rw [Option.bind_some]
      cases ht : a.tmps[d]? with
      | none => rw [ht] at hb; cases hb
      | some u => rw [ht] at hb; simp only [Option.getD_some] at hb; rw [hb]
    simp only [this]
    cases b <;> rfl
  rw [if_neg (by rw [hw]; decide)]
  exact hK _ _ (hrefl w) (h w)
theorem wpAny_loose3 (C : World → Prop) (S : Nat → World → World → Prop) (U : Nat → World → Prop) (V : Nat → Value → World → Prop) (a0 : Act)
    (W0 : World) (hlaid : laidB md ops a0.tmps.size = true) (hC0 : C W0) (hU0 : ∀ i, U i W0) (hC : ∀ j w w', C w → S j w w' → C w') (hU : ∀ i j w w', i ≠ j → U i w → S j w w' → U i w')
    (hstab : ∀ i j v w w', i ≠ j → aftB md ops i j = false → V i v w → S j w w' → V i v w')
    (hstep : ∀ j o, ops[j]? = some o → StepOk3 P ops Q md C S U V a0 j o)
    (hend : ∀ a w, C w → a.tmps.size = a0.tmps.size → a.defers = a0.defers →
      (∀ t, (∀ (k : Nat) (p : Oper), ops[k]? = some p → p.dst ≠ some t) → a.tmps.getD t undef = a0.tmps.getD t undef) →
      (∀ i o d, ops[i]? = some o → o.dst = some d → V i (a.tmps.getD d undef) w) → Q .normal a w) :
    wpAny P md ops Q ops.size (Array.replicate ops.size false) a0 W0 := by
  have done : ∀ listed a w, listed.size = ops.size → (∀ i, i < ops.size → listed.getD i false = true) → Loose3 md ops C U V a0 listed a w → Q .normal a w := by
    intro listed a w hl hall h
    refine hend a w h.world h.size h.defers (fun t ht => h.old t fun k p hp hd => absurd hd (ht k p hp)) fun i o d ho hd => h.val i o d ho (hall i (Array.getElem?_eq_some_iff.1 ho).1) hd
  have none_ready : ∀ listed : Array Bool, listed.size = ops.size → Region.ready md ops listed = [] → ∀ i, i < ops.size → listed.getD i false = true := by
    intro listed hl hr i
    induction i using Nat.strongRecOn with
    | _ i ih =>
      intro hi
      cases hc : listed.getD i false with
      | true => rfl
      | false =>
        exfalso
        have hm : i ∈ Region.ready md ops listed := by
          refine mem_ready.2 ⟨?_, ops[i], Array.getElem?_eq_getElem hi, fun e he hb => ?_⟩
          · have hi' : i < listed.size := by omega
            simp [hi'] at hc ⊢
            exact hc
          · have := (laidB_at hlaid (Array.getElem?_eq_getElem hi)).1 e he hb
            exact ih e.on this (by omega)
        rw [hr] at hm
        cases hm
  have main : ∀ fuel listed a w, listed.size = ops.size → listed.toList.count false ≤ fuel → Loose3 md ops C U V a0 listed a w → wpAny P md ops Q fuel listed a w := by
    intro fuel
    induction fuel with
    | zero =>
      intro listed a w hl hc h
      have hall : ∀ i, i < ops.size → listed.getD i false = true := by
        intro i hi
        have hi' : i < listed.size := by omega
        cases hv : listed.getD i false with
        | true => rfl
        | false =>
          exfalso
          have : false ∈ listed.toList := by
            simp [hi'] at hv
            exact hv ▸ (by simp)
          have := List.count_pos_iff.2 this
          omega
      refine ⟨?_, done listed a w hl hall h⟩
      cases hr : Region.ready md ops listed with
      | nil => rfl
      | cons i l =>
        exfalso
        have hi : i ∈ Region.ready md ops listed := by rw [hr]; exact List.mem_cons_self ..
        obtain ⟨h0, o, ho, _⟩ := mem_ready.1 hi
        have hlt : i < ops.size := (Array.getElem?_eq_some_iff.1 ho).1
        have h1 := hall i hlt
        have hi' : i < listed.size := by omega
        simp [hi'] at h0 h1
        rw [h0] at h1
        cases h1
    | succ fuel ih =>
      intro listed a w hl hc h
      refine ⟨fun hr => done listed a w hl (none_ready listed hl hr) h, fun j hj => ?_⟩
      obtain ⟨h0, o, ho, haft⟩ := mem_ready.1 hj
      have hlt : j < ops.size := (Array.getElem?_eq_some_iff.1 ho).1
      have hjl : j < listed.size := by omega
      have h0' : listed.getD j false = false := by simp [hjl] at h0 ⊢; exact h0
      refine hstep j o ho a w h.world (h.pre j o ho h0') h.size h.defers (fun t ht => h.old t fun k p hp hd => ?_) (fun e he hb p d hp hd => h.val e.on p d hp (haft e he hb) hd) _ fun v w' hS hV => ?_
      · rcases oldB_at ht hp hd with rfl | ⟨e, he, hb, heq⟩
        · exact h0'
        · cases hk : listed.getD k false with
          | false => rfl
          | true =>
            have := h.shut k p hp hk e he hb
            rw [heq, h0'] at this
            cases this
      · refine ih _ _ _ (by simpa using hl) ?_ ?_
        · have hv : listed.toList[j]'(by simpa using hjl) = false := by simp [hjl] at h0' ⊢; exact h0'
          rw [Array.toList_setIfInBounds, List.count_set (by simpa using hjl), hv]
          simp
          have hm : false ∈ listed.toList := hv ▸ List.getElem_mem _
          have := List.count_pos_iff.2 hm
          rw [← Array.count_toList]
          omega
        · have hsz : (a.put o.dst v).tmps.size = a0.tmps.size := by
            rw [← h.size]
            cases o.dst with
            | none => rfl
            | some d => simp [Act.put]
          refine ⟨hC j w w' h.world hS, fun i p hp hi => ?_, hsz, ?_, fun t ht => ?_, fun i p d hp hi hd => ?_, fun k p hp hk e he hb => ?_⟩
          · have hji : i ≠ j := fun e => by
              rw [e, getD_set_same _ _ hjl] at hi
              cases hi
            rw [getD_set_ne false hji.symm] at hi
            exact hU i j w w' hji (h.pre i p hp hi) hS
          · rw [← h.defers]
            cases o.dst <;> rfl
          · have hne : o.dst ≠ some t := fun hd => by
              have := ht j o ho hd
              rw [getD_set_same _ _ hjl] at this
              cases this
            have hold := h.old t fun k p hp hd => by
              have := ht k p hp hd
              cases hk : listed.getD k false with
              | false => rfl
              | true =>
                by_cases hjk : j = k
                · subst hjk; rw [h0'] at hk; cases hk
                · rw [getD_set_ne false hjk, hk] at this; cases this
            rw [← hold]
            cases hod : o.dst with
            | none => rfl
            | some d =>
              have hdt : d ≠ t := fun h => hne (by rw [hod, h])
              simp [Act.put, Array.getD_eq_getD_getElem?, hdt]
          · rcases getD_set_or _ _ _ hi with rfl | hi1
            · rw [ho] at hp
              injection hp with hp
              subst hp
              have hdl := ((laidB_at hlaid ho).2 d hd).1
              have : (a.put o.dst v).tmps.getD d undef = v := by
                rw [hd]
                have : d < a.tmps.size := by rw [h.size]; exact hdl
                simp [Act.put, Array.getD_eq_getD_getElem?, this]
              rw [this]
              exact hV
            · by_cases hij : i = j
              · subst hij; rw [h0'] at hi1; cases hi1
              have : (a.put o.dst v).tmps.getD d undef = a.tmps.getD d undef := by
                cases hod : o.dst with
                | none => rfl
                | some d' =>
                  have hdt : d' ≠ d := fun h => hij (((laidB_at hlaid ho).2 d' hod).2 i p hp (h ▸ hd))
                  simp [Act.put, Array.getD_eq_getD_getElem?, hdt]
              rw [this]
              have haf : aftB md ops i j = false := by
                cases hc : aftB md ops i j with
                | false => rfl
                | true =>
                  exfalso
                  unfold aftB at hc
                  rw [hp] at hc
                  obtain ⟨e, he, h2⟩ := List.any_eq_true.1 hc
                  simp only [Bool.and_eq_true, beq_iff_eq] at h2
                  have := h.shut i p hp hi1 e (Array.mem_toList_iff.1 he) h2.1
                  rw [h2.2, h0'] at this
                  cases this
              exact hstab _ _ _ _ _ hij haf (h.val i p d hp hi1 hd) hS
          · rcases getD_set_or _ _ _ hk with rfl | hk
            · rw [ho] at hp
              injection hp with hp
              subst hp
              have h1 := haft e he hb
              by_cases hje : k = e.on
              · rw [← hje]; exact getD_set_same _ _ hjl _
              · rw [getD_set_ne false hje]; exact h1
            · have h1 := h.shut k p hp hk e he hb
              by_cases hje : j = e.on
              · rw [← hje]; exact getD_set_same _ _ hjl _
              · rw [getD_set_ne false hje]; exact h1
  refine main _ _ _ _ (by simp) (by simp) ⟨hC0, fun j _ _ _ => hU0 j, rfl, rfl, fun _ _ => rfl, fun i o d ho hi hd => ?_, fun k p hp hk => ?_⟩
  · have hlt : i < ops.size := (Array.getElem?_eq_some_iff.1 ho).1
    simp [hlt] at hi
  · have hlt : k < ops.size := (Array.getElem?_eq_some_iff.1 hp).1
    simp [hlt] at hk
theorem wpAny_loose4 (ds : List Nat) (C : World → Prop) (S : Nat → World → World → Prop) (U : Nat → World → Prop) (V : Nat → Value → World → Prop) (a0 : Act) (W0 : World)
    (hds : ops.toList.filterMap (·.dst) = ds)
    (hlaid : laidB md ops a0.tmps.size = true) (hC0 : C W0) (hU0 : ∀ i, U i W0) (hC : ∀ j w w', C w → S j w w' → C w') (hU : ∀ i j w w', i ≠ j → U i w → S j w w' → U i w')
    (hstab : ∀ i j v w w', i ≠ j → aftB md ops i j = false → V i v w → S j w w' → V i v w')
    (hstep : ∀ j o, ops[j]? = some o → StepOk3 P ops Q md C S U V a0 j o)
    (hend : ∀ (ev : Operand → Value) w, C w → (∀ i d, ((ops[i]?).bind (·.dst)) = some d → V i (ev (.tmp d)) w) → Q .normal (putsOf ev ds a0) w) :
    wpAny P md ops Q ops.size (Array.replicate ops.size false) a0 W0 := by
  refine wpAny_loose3 C S U V a0 W0 hlaid hC0 hU0 hC hU hstab hstep fun a w hS hsz hdf hold hval => ?_
  have h1 := hend a.eval w hS fun i d hd => by
    cases ho : ops[i]? with
    | none => rw [ho] at hd; cases hd
    | some o => rw [ho] at hd; exact hval i o d ho hd
  rw [← act_puts a a0 ds hsz hdf fun t ht => hold t fun k p hp hd => ht ?_] at h1
  · exact h1
  · rw [← hds]
    exact List.mem_filterMap.2 ⟨p, Array.mem_toList_iff.2 (Array.mem_of_getElem? hp), hd⟩
end
end Go.Proofs.Ytdpknieiigibfaa
