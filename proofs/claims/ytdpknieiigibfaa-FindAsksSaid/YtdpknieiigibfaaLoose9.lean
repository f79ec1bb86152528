/- As 'Loose7', where the last operations wait for all the others: they come one behind the other. No conditions. -/
import Derived.Test.YtdpknieiigibfaaLoose7
namespace Go.Proofs.Ytdpknieiigibfaa
open Go.RowKit Go
set_option linter.unusedVariables false
section
variable {P : Program} {ops : Array Oper} {Q : Exit → Act → World → Prop} {md : Region.Mode}
/-- The first n of m are listed. -/
def firstN (n m : Nat) : Array Bool := ((List.range m).map fun i => decide (i < n)).toArray
theorem firstN_count (n m : Nat) (h : n ≤ m) : (firstN n m).toList.count false = m - n := by
  unfold firstN
  rw [List.toList_toArray]
  induction m with
  | zero => simp
  | succ m ih =>
    rw [List.range_succ, List.map_append, List.count_append]
    rcases Nat.lt_or_ge m n with hm | hm
    · have : n = m + 1 := by omega
      subst this
      have e : (List.map (fun i => decide (i < m + 1)) (List.range m)).count false = 0 := by
        rw [List.count_eq_zero]
        intro hc
        obtain ⟨x, hx, h2⟩ := List.mem_map.1 hc
        have := List.mem_range.1 hx
        simp at h2
        omega
      rw [e]
      simp
    · rw [ih hm]
      have : ¬ (m < n) := by omega
      simp [this]
      omega
theorem wpAny_all {f : Nat} {listed : Array Bool} {a : Act} {w : World} (hr : Region.ready md ops listed = []) (hq : Q .normal a w) : wpAny P md ops Q f listed a w := by
  cases f with
  | zero => exact ⟨hr, hq⟩
  | succ f => exact ⟨fun _ => hq, fun i hi => by rw [hr] at hi; cases hi⟩
theorem wpAny_one {f : Nat} {listed : Array Bool} {a : Act} {w : World} {i : Nat} (hr : Region.ready md ops listed = [i]) (hq : wpOp P ops Q i (wpAny P md ops Q f (listed.setIfInBounds i true)) a w) : wpAny P md ops Q (f + 1) listed a w :=
  ⟨fun h => (by rw [hr] at h; cases h), fun j hj => (by rw [hr] at hj; cases List.mem_singleton.1 hj; exact hq)⟩
theorem wpAny_tail (n : Nat) (C : World → Prop) (S : Nat → World → World → Prop) (U : Nat → World → Prop) (V : Nat → Value → World → Prop) (a0 : Act)
    (W0 : World) (hn : n ≤ ops.size) (hlaid : laidB md ops a0.tmps.size = true) (htail : ((List.range ops.size).all fun k => decide (k < n) || (List.range n).all fun i => upB md ops ops.size k i) = true) (hC0 : C W0) (hU0 : ∀ i, U i W0) (hC : ∀ j w w', j < n → C w → S j w w' → C w')
    (hU : ∀ i j w w', j < n → i ≠ j → upB md ops ops.size j i = false → U i w → C w → S j w w' → U i w')
    (hstab : ∀ i j v w w', j < n → i ≠ j → aftB md ops i j = false → V i v w → C w → S j w w' → V i v w')
    (hstep : ∀ j o, j < n → ops[j]? = some o → StepOk3 P ops Q md C S U V a0 j o)
    (hend : ∀ a w f, C w → a.tmps.size = a0.tmps.size → a.defers = a0.defers →
      (∀ t, (∀ (k : Nat) (p : Oper), k < n → ops[k]? = some p → p.dst ≠ some t) → a.tmps.getD t undef = a0.tmps.getD t undef) →
      (∀ i o, i < n → ops[i]? = some o → ∃ v, (∀ d, o.dst = some d → a.tmps.getD d undef = v) ∧ V i v w) → wpAny P md ops Q (ops.size - n + f) (firstN n ops.size) a w) :
    wpAny P md ops Q ops.size (Array.replicate ops.size false) a0 W0 := by
  have none_ready : ∀ listed : Array Bool, listed.size = ops.size → Region.ready md ops listed = [] → ∀ i, i < ops.size → listed.getD i false = true := by
    intro listed hl hr i
    induction i using Nat.strongRecOn with
    | _ i ih =>
      intro hi
      cases hc : listed.getD i false with
      | true => rfl
      | false =>
        exfalso
        have hm : i ∈ Region.ready md ops listed := by
          refine mem_ready.2 ⟨?_, ops[i], Array.getElem?_eq_getElem hi, fun e he hb => ?_⟩
          · have hi' : i < listed.size := by omega
            simp [hi'] at hc ⊢
            exact hc
          · have := (laidB_at hlaid (Array.getElem?_eq_getElem hi)).1 e he hb
            exact ih e.on this (by omega)
        rw [hr] at hm
        cases hm
  have main : ∀ fuel listed a w, listed.size = ops.size → listed.toList.count false ≤ fuel → Loose7 md ops C U V a0 listed a w → (∀ k, n ≤ k → listed.getD k false = false) → wpAny P md ops Q fuel listed a w := by
    intro fuel
    induction fuel with
    | zero =>
      intro listed a w hl hc h ht0
      have hall : ∀ i, i < ops.size → listed.getD i false = true := by
        intro i hi
        have hi' : i < listed.size := by omega
        cases hv : listed.getD i false with
        | true => rfl
        | false =>
          exfalso
          have : false ∈ listed.toList := by
            simp [hi'] at hv
            exact hv ▸ (by simp)
          have := List.count_pos_iff.2 this
          omega
      have hnn : n = ops.size := by
        rcases Nat.lt_or_ge n ops.size with h1 | h1
        · have h2 := hall n h1
          rw [ht0 n (Nat.le_refl _)] at h2
          cases h2
        · omega
      have he : listed = firstN n ops.size := by
        apply Array.ext
        · simp [firstN, hl]
        · intro i h1 h2
          have h3 := hall i (by omega)
          simp [h1] at h3
          simp [firstN, h3]
          omega
      have h3 := hend a w 0 h.world h.size h.defers (fun t ht => h.old t fun k p hp hd => absurd hd (ht k p (by have := (Array.getElem?_eq_some_iff.1 hp).1; omega) hp)) fun i o hi ho => h.val i o ho (hall i (Array.getElem?_eq_some_iff.1 ho).1)
      rw [← he, ← hnn, Nat.sub_self] at h3
      exact h3
    | succ fuel ih =>
      intro listed a w hl hc h ht0
      by_cases hall : ∀ i, i < n → listed.getD i false = true
      · have he : listed = firstN n ops.size := by
          apply Array.ext
          · simp [firstN, hl]
          · intro i h1 h2
            rcases Nat.lt_or_ge i n with h4 | h4
            · have h3 := hall i h4
              simp [h1] at h3
              simp [firstN, h3]
              exact h4
            · have h3 := ht0 i h4
              simp [h1] at h3
              simp [firstN, h3]
              omega
        have hcount : ops.size - n ≤ fuel + 1 := by rw [he, firstN_count _ _ hn] at hc; exact hc
        have h3 := hend a w (fuel + 1 - (ops.size - n)) h.world h.size h.defers (fun t ht => h.old t fun k p hp hd => by
          rcases Nat.lt_or_ge k n with h4 | h4
          · exact absurd hd (ht k p h4 hp)
          · exact ht0 k h4) fun i o hi ho => h.val i o ho (hall i hi)
        rw [← he, show ops.size - n + (fuel + 1 - (ops.size - n)) = fuel + 1 by omega] at h3
        exact h3
      refine ⟨fun hr => absurd (fun i hi => none_ready listed hl hr i (by omega)) hall, fun j hj => ?_⟩
      obtain ⟨h0, o, ho, haft⟩ := mem_ready.1 hj
      have hlt : j < ops.size := (Array.getElem?_eq_some_iff.1 ho).1
      have hjl : j < listed.size := by omega
      have h0' : listed.getD j false = false := by simp [hjl] at h0 ⊢; exact h0
      have hjn : j < n := by
        rcases Nat.lt_or_ge j n with h4 | h4
        · exact h4
        · exfalso
          refine hall fun i hi => ?_
          have h5 := List.all_eq_true.1 htail j (List.mem_range.2 hlt)
          have h6 : ¬ (j < n) := by omega
          simp only [h6, decide_false, Bool.false_or] at h5
          exact upB_listed h.shut _ j i o ho haft (List.all_eq_true.1 h5 i (List.mem_range.2 hi))
      refine hstep j o hjn ho a w h.world (h.pre j o ho h0') h.size h.defers (fun t ht => h.old t fun k p hp hd => ?_) (fun e he hb p d hp hd => by obtain ⟨v, h1, h2⟩ := h.val e.on p hp (haft e he hb); rw [h1 d hd]; exact h2) _ fun v w' hS hV => ?_
      · rcases oldB_at ht hp hd with rfl | ⟨e, he, hb, heq⟩
        · exact h0'
        · cases hk : listed.getD k false with
          | false => rfl
          | true =>
            have := h.shut k p hp hk e he hb
            rw [heq, h0'] at this
            cases this
      · refine ih _ _ _ (by simpa using hl) ?_ ?_ (fun k hk => by rw [getD_set_ne false (by omega : j ≠ k)]; exact ht0 k hk)
        · have hv : listed.toList[j]'(by simpa using hjl) = false := by simp [hjl] at h0' ⊢; exact h0'
          rw [Array.toList_setIfInBounds, List.count_set (by simpa using hjl), hv]
          simp
          have hm : false ∈ listed.toList := hv ▸ List.getElem_mem _
          have := List.count_pos_iff.2 hm
          rw [← Array.count_toList]
          omega
        · have hsz : (a.put o.dst v).tmps.size = a0.tmps.size := by
            rw [← h.size]
            cases o.dst with
            | none => rfl
            | some d => simp [Act.put]
          refine ⟨hC j w w' hjn h.world hS, fun i p hp hi => ?_, hsz, ?_, fun t ht => ?_, fun i p hp hi => ?_, fun k p hp hk e he hb => ?_⟩
          · have hji : i ≠ j := fun e => by
              rw [e, getD_set_same _ _ hjl] at hi
              cases hi
            rw [getD_set_ne false hji.symm] at hi
            refine hU i j w w' hjn hji ?_ (h.pre i p hp hi) h.world hS
            cases hup : upB md ops ops.size j i with
            | false => rfl
            | true =>
              have := upB_listed h.shut _ j i o ho haft hup
              rw [hi] at this
              cases this
          · rw [← h.defers]
            cases o.dst <;> rfl
          · have hne : o.dst ≠ some t := fun hd => by
              have := ht j o ho hd
              rw [getD_set_same _ _ hjl] at this
              cases this
            have hold := h.old t fun k p hp hd => by
              have := ht k p hp hd
              cases hk : listed.getD k false with
              | false => rfl
              | true =>
                by_cases hjk : j = k
                · subst hjk; rw [h0'] at hk; cases hk
                · rw [getD_set_ne false hjk, hk] at this; cases this
            rw [← hold]
            cases hod : o.dst with
            | none => rfl
            | some d =>
              have hdt : d ≠ t := fun h => hne (by rw [hod, h])
              simp [Act.put, Array.getD_eq_getD_getElem?, hdt]
          · rcases getD_set_or _ _ _ hi with rfl | hi1
            · rw [ho] at hp
              injection hp with hp
              subst hp
              refine ⟨v, fun d hd => ?_, hV⟩
              have hdl := ((laidB_at hlaid ho).2 d hd).1
              rw [hd]
              have : d < a.tmps.size := by rw [h.size]; exact hdl
              simp [Act.put, Array.getD_eq_getD_getElem?, this]
            · by_cases hij : i = j
              · subst hij; rw [h0'] at hi1; cases hi1
              obtain ⟨u, hu, hv⟩ := h.val i p hp hi1
              have haf : aftB md ops i j = false := by
                cases hc : aftB md ops i j with
                | false => rfl
                | true =>
                  exfalso
                  unfold aftB at hc
                  rw [hp] at hc
                  obtain ⟨e, he, h2⟩ := List.any_eq_true.1 hc
                  simp only [Bool.and_eq_true, beq_iff_eq] at h2
                  have := h.shut i p hp hi1 e (Array.mem_toList_iff.1 he) h2.1
                  rw [h2.2, h0'] at this
                  cases this
              refine ⟨u, fun d hd => ?_, hstab _ _ _ _ _ hjn hij haf hv h.world hS⟩
              rw [← hu d hd]
              cases hod : o.dst with
              | none => rfl
              | some d' =>
                have hdt : d' ≠ d := fun h => hij (((laidB_at hlaid ho).2 d' hod).2 i p hp (h ▸ hd))
                simp [Act.put, Array.getD_eq_getD_getElem?, hdt]
          · rcases getD_set_or _ _ _ hk with rfl | hk
            · rw [ho] at hp
              injection hp with hp
              subst hp
              have h1 := haft e he hb
              by_cases hje : k = e.on
              · rw [← hje]; exact getD_set_same _ _ hjl _
              · rw [getD_set_ne false hje]; exact h1
            · have h1 := h.shut k p hp hk e he hb
              by_cases hje : j = e.on
              · rw [← hje]; exact getD_set_same _ _ hjl _
              · rw [getD_set_ne false hje]; exact h1
  refine main _ _ _ _ (by simp) (by simp) ⟨hC0, fun j _ _ _ => hU0 j, rfl, rfl, fun _ _ => rfl, fun i o ho hi => ?_, fun k p hp hk => ?_⟩ (fun k hk => by
    rw [Array.getD_eq_getD_getElem?]
    rcases Nat.lt_or_ge k ops.size with h | h
    · simp [h]
    · rw [Array.getElem?_eq_none (by simpa using h)]
      rfl)
  · have hlt : i < ops.size := (Array.getElem?_eq_some_iff.1 ho).1
    simp [hlt] at hi
  · have hlt : k < ops.size := (Array.getElem?_eq_some_iff.1 hp).1
    simp [hlt] at hk
theorem wpAny_tail2 (n : Nat) (ds : List Nat) (C : World → Prop) (S : Nat → World → World → Prop) (U : Nat → World → Prop) (V : Nat → Value → World → Prop) (a0 : Act)
    (W0 : World) (hds : (ops.toList.take n).filterMap (·.dst) = ds) (hn : n ≤ ops.size) (hlaid : laidB md ops a0.tmps.size = true) (htail : ((List.range ops.size).all fun k => decide (k < n) || (List.range n).all fun i => upB md ops ops.size k i) = true) (hC0 : C W0) (hU0 : ∀ i, U i W0) (hC : ∀ j w w', j < n → C w → S j w w' → C w')
    (hU : ∀ i j w w', j < n → i ≠ j → upB md ops ops.size j i = false → U i w → C w → S j w w' → U i w')
    (hstab : ∀ i j v w w', j < n → i ≠ j → aftB md ops i j = false → V i v w → C w → S j w w' → V i v w')
    (hstep : ∀ j o, j < n → ops[j]? = some o → StepOk3 P ops Q md C S U V a0 j o)
    (hend : ∀ (ev : Operand → Value) w f, C w → (∀ i d, i < n → ((ops[i]?).bind (·.dst)) = some d → V i (ev (.tmp d)) w) → wpAny P md ops Q (ops.size - n + f) (firstN n ops.size) (putsOf ev ds a0) w) :
    wpAny P md ops Q ops.size (Array.replicate ops.size false) a0 W0 := by
  refine wpAny_tail n C S U V a0 W0 hn hlaid htail hC0 hU0 hC hU hstab hstep fun a w f hS hsz hdf hold hval => ?_
  have h1 := hend a.eval w f hS fun i d hi hd => by
    cases ho : ops[i]? with
    | none => rw [ho] at hd; cases hd
    | some o =>
      rw [ho] at hd
      obtain ⟨v, h1, h2⟩ := hval i o hi ho
      have := h1 d hd
      change V i (a.tmps.getD d undef) w
      rw [this]
      exact h2
  rw [← act_puts a a0 ds hsz hdf fun t ht => hold t fun k p hk hp hd => ht ?_] at h1
  · exact h1
  · rw [← hds]
    refine List.mem_filterMap.2 ⟨p, ?_, hd⟩
    have hk2 : (ops.toList.take n)[k]? = some p := by
      rw [List.getElem?_take, if_pos hk, Array.getElem?_toList]
      exact hp
    exact List.mem_of_getElem? hk2
theorem wpOp_run {j : Nat} {o : Oper} {a : Act} {w : World} {K : Act → World → Prop} (ho : ops[j]? = some o) (hg : o.guard = none) (h : Oper.upon P o a K Q ((execOp a.eval o).run P w)) : wpOp P ops Q j K a w := by
  unfold wpOp
  simp only [ho]
  have hw : Region.wanted o (yielded ops a.tmps) = true := by unfold Region.wanted; rw [hg]
  rw [if_pos hw]
  exact .inl h
end
end Go.Proofs.Ytdpknieiigibfaa
