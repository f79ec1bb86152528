/- A region that draws its order, each of whose operations yields a value of which a stable property holds, whatever came up before: no order is walked. No conditions. -/
import Derived.Test.YtdpknieiigibfaaBase
import Derived.Orders
namespace Go.Proofs.Ytdpknieiigibfaa
open Go.RowKit Go
set_option linter.unusedVariables false
section
variable {P : Program} {ops : Array Oper} {Q : Exit → Act → World → Prop} {md : Region.Mode}
/-- The slot t has its old value when operation j comes up. -/
def oldB (md : Region.Mode) (ops : Array Oper) (j t : Nat) : Bool :=
  (List.range ops.size).all fun k => match ops[k]? with
    | some p => p.dst != some t || k == j || p.after.toList.any (fun e => Region.binds md e && e.on == j)
    | none => true
/-- Later operations wait for earlier ones only; no slot is written twice; each slot is one of the frame's. -/
def laidB (md : Region.Mode) (ops : Array Oper) (n : Nat) : Bool :=
  (List.range ops.size).all fun k => match ops[k]? with
    | some p => p.after.toList.all (fun e => !Region.binds md e || decide (e.on < k)) &&
        (match p.dst with | some d => decide (d < n) && (List.range ops.size).all (fun j => j == k || ((ops[j]?).bind (·.dst)) != some d) | none => true)
    | none => true
theorem laidB_at {n : Nat} (h : laidB md ops n = true) {k : Nat} {p : Oper} (hp : ops[k]? = some p) :
    (∀ e ∈ p.after, Region.binds md e = true → e.on < k) ∧ ∀ d, p.dst = some d → d < n ∧ ∀ j q, ops[j]? = some q → q.dst = some d → j = k := by
  have hk : k < ops.size := (Array.getElem?_eq_some_iff.1 hp).1
  have h1 := List.all_eq_true.1 h k (List.mem_range.2 hk)
  simp only [hp, Bool.and_eq_true] at h1
  refine ⟨fun e he hb => ?_, fun d hd => ?_⟩
  · have := List.all_eq_true.1 h1.1 e (Array.mem_toList_iff.2 he)
    simpa [hb] using this
  · have h2 := h1.2
    simp only [hd, Bool.and_eq_true, decide_eq_true_eq] at h2
    refine ⟨h2.1, fun j q hq hqd => ?_⟩
    have hj : j < ops.size := (Array.getElem?_eq_some_iff.1 hq).1
    have := List.all_eq_true.1 h2.2 j (List.mem_range.2 hj)
    simp only [hq, Option.bind_some, hqd, Bool.or_eq_true, beq_iff_eq, bne_self_eq_false, Bool.false_eq_true, or_false] at this
    exact this
theorem oldB_at {j t : Nat} (h : oldB md ops j t = true) {k : Nat} {p : Oper} (hp : ops[k]? = some p) (hd : p.dst = some t) :
    k = j ∨ ∃ e ∈ p.after, Region.binds md e = true ∧ e.on = j := by
  have hk : k < ops.size := (Array.getElem?_eq_some_iff.1 hp).1
  have h1 := List.all_eq_true.1 h k (List.mem_range.2 hk)
  simp only [hp, hd, Bool.or_eq_true, beq_iff_eq, bne_self_eq_false, Bool.false_eq_true, false_or] at h1
  rcases h1 with h1 | h1
  · exact .inl h1
  · obtain ⟨e, he, h2⟩ := List.any_eq_true.1 h1
    simp only [Bool.and_eq_true, beq_iff_eq] at h2
    exact .inr ⟨e, Array.mem_toList_iff.1 he, h2.1, h2.2⟩
/-- What holds when the operations of 'listed' have come up. -/
structure Loose (md : Region.Mode) (ops : Array Oper) (S : World → World → Prop) (V : Nat → Value → World → Prop) (a0 : Act) (W0 : World) (listed : Array Bool) (a : Act) (w : World) : Prop where
  world : S W0 w
  size : a.tmps.size = a0.tmps.size
  defers : a.defers = a0.defers
  old : ∀ t, (∀ k p, ops[k]? = some p → p.dst = some t → listed.getD k false = false) → a.tmps.getD t undef = a0.tmps.getD t undef
  val : ∀ i o d, ops[i]? = some o → listed.getD i false = true → o.dst = some d → V i (a.tmps.getD d undef) w
  shut : ∀ k p, ops[k]? = some p → listed.getD k false = true → ∀ e ∈ p.after, Region.binds md e = true → listed.getD e.on false = true
theorem getD_set_same (l : Array Bool) (i : Nat) (h : i < l.size) (d : Bool) : (l.setIfInBounds i true).getD i d = true := by simp [h]
theorem getD_set_or (l : Array Bool) (i k : Nat) (h : (l.setIfInBounds i true).getD k false = true) : k = i ∨ l.getD k false = true := by
  by_cases hk : i = k
  · exact .inl hk.symm
  · rw [getD_set_ne false hk] at h; exact .inr h
/-- Operation j, whatever came up before it, yields a value of its property. -/
def StepOk (P : Program) (ops : Array Oper) (Q : Exit → Act → World → Prop) (md : Region.Mode) (S : World → World → Prop) (V : Nat → Value → World → Prop) (a0 : Act) (W0 : World) (j : Nat) (o : Oper) : Prop :=
  ∀ a w, S W0 w → a.tmps.size = a0.tmps.size → a.defers = a0.defers →
      (∀ t, oldB md ops j t = true → a.tmps.getD t undef = a0.tmps.getD t undef) →
      (∀ e ∈ o.after, Region.binds md e = true → ∀ p d, ops[e.on]? = some p → p.dst = some d → V e.on (a.tmps.getD d undef) w) →
      ∀ K : Act → World → Prop, (∀ v w', S w w' → V j v w' → K (a.put o.dst v) w') → wpOp P ops Q j K a w
/-- An operation in the order's midst: what it finds, by name. -/
theorem step_on {S : World → World → Prop} {V : Nat → Value → World → Prop} {a0 : Act} {W0 : World} {j : Nat} {o : Oper} (ho : ops[j]? = some o) (hg : o.guard = none)
    (h : ∀ ev : Operand → Value, ∀ w, S W0 w → (∀ v, ev (.const v) = v) → (∀ f, ev (.func f) = .func (.func f) #[] #[]) → (∀ t, oldB md ops j t = true → ev (.tmp t) = a0.eval (.tmp t)) →
      (∀ i d, o.after.toList.any (fun e => Region.binds md e && e.on == i) = true → ((ops[i]?).bind (·.dst)) = some d → V i (ev (.tmp d)) w) →
      ∀ a K, a.eval = ev → (∀ v w', S w w' → V j v w' → K (a.put o.dst v) w') → Oper.upon P o a K Q ((execOp ev o).run P w)) : StepOk P ops Q md S V a0 W0 j o := by
  intro a w hS hsz hdf hold hval K hK
  unfold wpOp
  simp only [ho]
  have hw : Region.wanted o (yielded ops a.tmps) = true := by unfold Region.wanted; rw [hg]
  rw [if_pos hw]
  refine .inl (h a.eval w hS (fun _ => rfl) (fun _ => rfl) (fun t ht => hold t ht) (fun i d hi hd => ?_) a K rfl hK)
  obtain ⟨e, he, h2⟩ := List.any_eq_true.1 hi
  simp only [Bool.and_eq_true, beq_iff_eq] at h2
  obtain ⟨h3, rfl⟩ := h2
  cases hp : ops[e.on]? with
  | none => rw [hp] at hd; cases hd
  | some p => rw [hp] at hd; exact hval e (Array.mem_toList_iff.1 he) h3 p d hp hd
theorem step_guard {S : World → World → Prop} {V : Nat → Value → World → Prop} {a0 : Act} {W0 : World} {j g d : Nat} {b : Bool} {o : Oper} (ho : ops[j]? = some o) (hg : o.guard = some (g, b))
    (hgd : ((ops[g]?).bind (·.dst)) = some d) (hga : o.after.toList.any (fun e => Region.binds md e && e.on == g) = true)
    (hv : ∀ v w, S W0 w → V g v w → v = .bool b)
    (h : ∀ ev : Operand → Value, ∀ w, S W0 w → (∀ v, ev (.const v) = v) → (∀ f, ev (.func f) = .func (.func f) #[] #[]) → (∀ t, oldB md ops j t = true → ev (.tmp t) = a0.eval (.tmp t)) →
      (∀ i d, o.after.toList.any (fun e => Region.binds md e && e.on == i) = true → ((ops[i]?).bind (·.dst)) = some d → V i (ev (.tmp d)) w) →
      ∀ a K, a.eval = ev → (∀ v w', S w w' → V j v w' → K (a.put o.dst v) w') → Oper.upon P o a K Q ((execOp ev o).run P w)) : StepOk P ops Q md S V a0 W0 j o := by
  intro a w hS hsz hdf hold hval K hK
  have hval' : ∀ i d, o.after.toList.any (fun e => Region.binds md e && e.on == i) = true → ((ops[i]?).bind (·.dst)) = some d → V i (a.eval (.tmp d)) w := by
    intro i d hi hd
    obtain ⟨e, he, h2⟩ := List.any_eq_true.1 hi
    simp only [Bool.and_eq_true, beq_iff_eq] at h2
    obtain ⟨h3, rfl⟩ := h2
    cases hp : ops[e.on]? with
    | none => rw [hp] at hd; cases hd
    | some p => rw [hp] at hd; exact hval e (Array.mem_toList_iff.1 he) h3 p d hp hd
  have hb := hv _ _ hS (hval' g d hga hgd)
  unfold wpOp
  simp only [ho]
  have hw : Region.wanted o (yielded ops a.tmps) = true := by
    unfold Region.wanted
    rw [hg]
    have : yielded ops a.tmps g = some b := by
      unfold yielded
      rw [hgd]
      change a.tmps.getD d undef = .bool b at hb
      rw [Array.getD_eq_getD_getElem?] at hb
      rw [Option.bind_some]
      cases ht : a.tmps[d]? with
      | none => rw [ht] at hb; cases hb
      | some u => rw [ht] at hb; simp only [Option.getD_some] at hb; rw [hb]
    simp only [this, beq_self_eq_true]
  rw [if_pos hw]
  exact .inl (h a.eval w hS (fun _ => rfl) (fun _ => rfl) (fun t ht => hold t ht) hval' a K rfl hK)
theorem act_lit (a : Act) (n : Nat) (h : a.tmps.size = n) : a = ⟨((List.range n).map fun t => a.eval (.tmp t)).toArray, a.defers⟩ := by
  obtain ⟨t, d⟩ := a
  subst h
  congr 1
  apply Array.ext
  · simp
  · intro i h1 h2
    simp only [List.getElem_toArray, List.getElem_map, List.getElem_range, Act.eval]
    rw [Array.getD_eq_getD_getElem?, Array.getElem?_eq_getElem h1]
    rfl
/-- The guard says no: the operation is passed over. -/
theorem step_skip {S : World → World → Prop} {V : Nat → Value → World → Prop} {a0 : Act} {W0 : World} {j g d : Nat} {b : Bool} {o : Oper} (ho : ops[j]? = some o) (hg : o.guard = some (g, !b))
    (hgd : ((ops[g]?).bind (·.dst)) = some d) (hga : o.after.toList.any (fun e => Region.binds md e && e.on == g) = true)
    (hv : ∀ v w, S W0 w → V g v w → v = .bool b) (hrefl : ∀ w, S w w)
    (h : ∀ w, V j undef w) : StepOk P ops Q md S V a0 W0 j o := by
  intro a w hS hsz hdf hold hval K hK
  obtain ⟨e, he, h2⟩ := List.any_eq_true.1 hga
  simp only [Bool.and_eq_true, beq_iff_eq] at h2
  obtain ⟨h3, rfl⟩ := h2
  have hb : a.tmps.getD d undef = .bool b := by
    cases hp : ops[e.on]? with
    | none => rw [hp] at hgd; cases hgd
    | some p => rw [hp] at hgd; exact hv _ _ hS (hval e (Array.mem_toList_iff.1 he) h3 p d hp hgd)
  unfold wpOp
  simp only [ho]
  have hw : Region.wanted o (yielded ops a.tmps) = false := by
    unfold Region.wanted
    rw [hg]
    have : yielded ops a.tmps e.on = some b := by
      unfold yielded
      rw [hgd]
      rw [Array.getD_eq_getD_getElem?] at hb
      rw [Option.bind_some]
      cases ht : a.tmps[d]? with
      | none => rw [ht] at hb; cases hb
      | some u => rw [ht] at hb; simp only [Option.getD_some] at hb; rw [hb]
    simp only [this]
    cases b <;> rfl
  rw [if_neg (by rw [hw]; decide)]
  exact hK _ _ (hrefl w) (h w)
theorem steps_nil {T : Nat → Oper → Prop} {k : Nat} : ∀ j p, ([] : List Oper)[j]? = some p → T (k + j) p := by intro j p h; simp at h
theorem steps_cons {T : Nat → Oper → Prop} {k : Nat} {o : Oper} {l : List Oper} (h : T k o) (hl : ∀ j p, l[j]? = some p → T (k + 1 + j) p) : ∀ j p, (o :: l)[j]? = some p → T (k + j) p := by
  intro j p hj
  cases j with
  | zero => simp at hj; subst hj; exact h
  | succ j => simp at hj; have := hl j p hj; rwa [show k + 1 + j = k + (j + 1) by omega] at this
theorem steps_of {T : Nat → Oper → Prop} {l : List Oper} (h : ∀ j p, l[j]? = some p → T (0 + j) p) : ∀ j p, l.toArray[j]? = some p → T j p := by
  intro j p hj
  have := h j p (by simpa using hj)
  rwa [Nat.zero_add] at this
/-- A value. -/
def is (c : Value) : Value → World → Prop := fun v _ => v = c
/-- A slice of so many elements, that holds these cells. -/
def row (sz n : Nat) (xs : List Value) : Value → World → Prop := fun v w => ∃ A c, v = .slice A n c ∧ Rd w w.heap.size sz A n xs ∧ n ≤ c ∧ c ≤ maxLen
def Grow (w w' : World) : Prop := Below w.heap.size w w'
theorem Grow.trans {w w1 w2 : World} (h : Grow w w1) (k : Grow w1 w2) : Grow w w2 := Below.trans h (Below.mono k (Below.size h))
def Stb (p : Value → World → Prop) : Prop := ∀ v w w', p v w → Grow w w' → p v w'
theorem stb_is (c : Value) : Stb (is c) := fun _ _ _ h _ => h
theorem stb_row (sz n : Nat) (xs : List Value) : Stb (row sz n xs) := fun _ _ _ ⟨A, c, h1, h2, h3⟩ hb => ⟨A, c, h1, (h2.below hb).mono (Below.size hb), h3⟩
/-- The properties of a list, by number. -/
def Vs (l : List (Value → World → Prop)) (i : Nat) : Value → World → Prop := l.getD i fun _ _ => True
theorem stb_all {l : List (Value → World → Prop)} (h : ∀ p ∈ l, Stb p) : ∀ i v w w', Vs l i v w → Grow w w' → Vs l i v w' := by
  intro i v w w' h1 h2
  unfold Vs at *
  rw [List.getD_eq_getElem?_getD] at *
  cases hp : l[i]? with
  | none => exact trivial
  | some p => rw [hp] at h1; exact h p (List.mem_of_getElem? hp) _ _ _ h1 h2
theorem wpAny_loose (S : World → World → Prop) (V : Nat → Value → World → Prop) (a0 : Act) (W0 : World)
    (hlaid : laidB md ops a0.tmps.size = true) (hrefl : S W0 W0) (htrans : ∀ w w', S W0 w → S w w' → S W0 w') (hstab : ∀ i v w w', V i v w → S w w' → V i v w')
    (hstep : ∀ j o, ops[j]? = some o → StepOk P ops Q md S V a0 W0 j o)
    (hend : ∀ a w, S W0 w → a.tmps.size = a0.tmps.size → a.defers = a0.defers →
      (∀ t, (∀ (k : Nat) (p : Oper), ops[k]? = some p → p.dst ≠ some t) → a.tmps.getD t undef = a0.tmps.getD t undef) →
      (∀ i o d, ops[i]? = some o → o.dst = some d → V i (a.tmps.getD d undef) w) → Q .normal a w) :
    wpAny P md ops Q ops.size (Array.replicate ops.size false) a0 W0 := by
  have done : ∀ listed a w, listed.size = ops.size → (∀ i, i < ops.size → listed.getD i false = true) → Loose md ops S V a0 W0 listed a w → Q .normal a w := by
    intro listed a w hl hall h
    refine hend a w h.world h.size h.defers (fun t ht => h.old t fun k p hp hd => absurd hd (ht k p hp)) fun i o d ho hd => h.val i o d ho (hall i (Array.getElem?_eq_some_iff.1 ho).1) hd
  have none_ready : ∀ listed : Array Bool, listed.size = ops.size → Region.ready md ops listed = [] → ∀ i, i < ops.size → listed.getD i false = true := by
    intro listed hl hr i
    induction i using Nat.strongRecOn with
    | _ i ih =>
      intro hi
      cases hc : listed.getD i false with
      | true => rfl
      | false =>
        exfalso
        have hm : i ∈ Region.ready md ops listed := by
          refine mem_ready.2 ⟨?_, ops[i], Array.getElem?_eq_getElem hi, fun e he hb => ?_⟩
          · have hi' : i < listed.size := by omega
            simp [hi'] at hc ⊢
            exact hc
          · have := (laidB_at hlaid (Array.getElem?_eq_getElem hi)).1 e he hb
            exact ih e.on this (by omega)
        rw [hr] at hm
        cases hm
  have main : ∀ fuel listed a w, listed.size = ops.size → listed.toList.count false ≤ fuel → Loose md ops S V a0 W0 listed a w → wpAny P md ops Q fuel listed a w := by
    intro fuel
    induction fuel with
    | zero =>
      intro listed a w hl hc h
      have hall : ∀ i, i < ops.size → listed.getD i false = true := by
        intro i hi
        have hi' : i < listed.size := by omega
        cases hv : listed.getD i false with
        | true => rfl
        | false =>
          exfalso
          have : false ∈ listed.toList := by
            simp [hi'] at hv
            exact hv ▸ (by simp)
          have := List.count_pos_iff.2 this
          omega
      refine ⟨?_, done listed a w hl hall h⟩
      cases hr : Region.ready md ops listed with
      | nil => rfl
      | cons i l =>
        exfalso
        have hi : i ∈ Region.ready md ops listed := by rw [hr]; exact List.mem_cons_self ..
        obtain ⟨h0, o, ho, _⟩ := mem_ready.1 hi
        have hlt : i < ops.size := (Array.getElem?_eq_some_iff.1 ho).1
        have h1 := hall i hlt
        have hi' : i < listed.size := by omega
        simp [hi'] at h0 h1
        rw [h0] at h1
        cases h1
    | succ fuel ih =>
      intro listed a w hl hc h
      refine ⟨fun hr => done listed a w hl (none_ready listed hl hr) h, fun j hj => ?_⟩
      obtain ⟨h0, o, ho, haft⟩ := mem_ready.1 hj
      have hlt : j < ops.size := (Array.getElem?_eq_some_iff.1 ho).1
      have hjl : j < listed.size := by omega
      have h0' : listed.getD j false = false := by simp [hjl] at h0 ⊢; exact h0
      refine hstep j o ho a w h.world h.size h.defers (fun t ht => h.old t fun k p hp hd => ?_) (fun e he hb p d hp hd => h.val e.on p d hp (haft e he hb) hd) _ fun v w' hS hV => ?_
      · rcases oldB_at ht hp hd with rfl | ⟨e, he, hb, heq⟩
        · exact h0'
        · cases hk : listed.getD k false with
          | false => rfl
          | true =>
            have := h.shut k p hp hk e he hb
            rw [heq, h0'] at this
            cases this
      · refine ih _ _ _ (by simpa using hl) ?_ ?_
        · have hv : listed.toList[j]'(by simpa using hjl) = false := by simp [hjl] at h0' ⊢; exact h0'
          rw [Array.toList_setIfInBounds, List.count_set (by simpa using hjl), hv]
          simp
          have hm : false ∈ listed.toList := hv ▸ List.getElem_mem _
          have := List.count_pos_iff.2 hm
          rw [← Array.count_toList]
          omega
        · have hsz : (a.put o.dst v).tmps.size = a0.tmps.size := by
            rw [← h.size]
            cases o.dst with
            | none => rfl
            | some d => simp [Act.put]
          refine ⟨htrans w w' h.world hS, hsz, ?_, fun t ht => ?_, fun i p d hp hi hd => ?_, fun k p hp hk e he hb => ?_⟩
          · rw [← h.defers]
            cases o.dst <;> rfl
          · have hne : o.dst ≠ some t := fun hd => by
              have := ht j o ho hd
              rw [getD_set_same _ _ hjl] at this
              cases this
            have hold := h.old t fun k p hp hd => by
              have := ht k p hp hd
              cases hk : listed.getD k false with
              | false => rfl
              | true =>
                by_cases hjk : j = k
                · subst hjk; rw [h0'] at hk; cases hk
                · rw [getD_set_ne false hjk, hk] at this; cases this
            rw [← hold]
            cases hod : o.dst with
            | none => rfl
            | some d =>
              have hdt : d ≠ t := fun h => hne (by rw [hod, h])
              simp [Act.put, Array.getD_eq_getD_getElem?, hdt]
          · rcases getD_set_or _ _ _ hi with rfl | hi1
            · rw [ho] at hp
              injection hp with hp
              subst hp
              have hdl := ((laidB_at hlaid ho).2 d hd).1
              have : (a.put o.dst v).tmps.getD d undef = v := by
                rw [hd]
                have : d < a.tmps.size := by rw [h.size]; exact hdl
                simp [Act.put, Array.getD_eq_getD_getElem?, this]
              rw [this]
              exact hV
            · by_cases hij : i = j
              · subst hij; rw [h0'] at hi1; cases hi1
              have : (a.put o.dst v).tmps.getD d undef = a.tmps.getD d undef := by
                cases hod : o.dst with
                | none => rfl
                | some d' =>
                  have hdt : d' ≠ d := fun h => hij (((laidB_at hlaid ho).2 d' hod).2 i p hp (h ▸ hd))
                  simp [Act.put, Array.getD_eq_getD_getElem?, hdt]
              rw [this]
              exact hstab _ _ _ _ (h.val i p d hp hi1 hd) hS
          · rcases getD_set_or _ _ _ hk with rfl | hk
            · rw [ho] at hp
              injection hp with hp
              subst hp
              have h1 := haft e he hb
              by_cases hje : k = e.on
              · rw [← hje]; exact getD_set_same _ _ hjl _
              · rw [getD_set_ne false hje]; exact h1
            · have h1 := h.shut k p hp hk e he hb
              by_cases hje : j = e.on
              · rw [← hje]; exact getD_set_same _ _ hjl _
              · rw [getD_set_ne false hje]; exact h1
  refine main _ _ _ _ (by simp) (by simp) ⟨hrefl, rfl, rfl, fun _ _ => rfl, fun i o d ho hi hd => ?_, fun k p hp hk => ?_⟩
  · have hlt : i < ops.size := (Array.getElem?_eq_some_iff.1 ho).1
    simp [hlt] at hi
  · have hlt : k < ops.size := (Array.getElem?_eq_some_iff.1 hp).1
    simp [hlt] at hk
end
end Go.Proofs.Ytdpknieiigibfaa
