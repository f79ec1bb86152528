/- A region that draws its order, each of whose operations yields a value of which a stable property holds, whatever came up before: no order is walked. No conditions. Behind a region of 'wpAny_loose' the frame is the old one with the operations' slots put anew. No conditions. A region that draws its order, as in 'Loose', with a step of its own for each operation: one of them may write. No conditions. A region that draws its order, as in 'Loose3'; an operation that writes may come behind others that read what it writes, and need not yield. No conditions. -/
import Derived.Test.YthkkcelfgcholaaGreatQBase
import Derived.Orders
namespace Go.Proofs.YthkkcelfgcholaaGreat
open Go.RowKit Go
set_option linter.unusedVariables false
section
variable {P : Program} {ops : Array Oper} {Q : Exit → Act → World → Prop} {md : Region.Mode}
/-- The slot t has its old value when operation j comes up. -/
def oldB (md : Region.Mode) (ops : Array Oper) (j t : Nat) : Bool :=
  (List.range ops.size).all fun k => match ops[k]? with
    | some p => p.dst != some t || k == j || p.after.toList.any (fun e => Region.binds md e && e.on == j)
    | none => true
/-- Later operations wait for earlier ones only; no slot is written twice; each slot is one of the frame's. -/
def laidB (md : Region.Mode) (ops : Array Oper) (n : Nat) : Bool :=
  (List.range ops.size).all fun k => match ops[k]? with
    | some p => p.after.toList.all (fun e => !Region.binds md e || decide (e.on < k)) &&
        (match p.dst with | some d => decide (d < n) && (List.range ops.size).all (fun j => j == k || ((ops[j]?).bind (·.dst)) != some d) | none => true)
    | none => true
theorem laidB_at {n : Nat} (h : laidB md ops n = true) {k : Nat} {p : Oper} (hp : ops[k]? = some p) :
    (∀ e ∈ p.after, Region.binds md e = true → e.on < k) ∧ ∀ d, p.dst = some d → d < n ∧ ∀ j q, ops[j]? = some q → q.dst = some d → j = k := by
  have hk : k < ops.size := (Array.getElem?_eq_some_iff.1 hp).1
  have h1 := List.all_eq_true.1 h k (List.mem_range.2 hk)
  simp only [hp, Bool.and_eq_true] at h1
  refine ⟨fun e he hb => ?_, fun d hd => ?_⟩
  · have := List.all_eq_true.1 h1.1 e (Array.mem_toList_iff.2 he)
    simpa [hb] using this
  · have h2 := h1.2
    simp only [hd, Bool.and_eq_true, decide_eq_true_eq] at h2
    refine ⟨h2.1, fun j q hq hqd => ?_⟩
    have hj : j < ops.size := (Array.getElem?_eq_some_iff.1 hq).1
    have := List.all_eq_true.1 h2.2 j (List.mem_range.2 hj)
    simp only [hq, Option.bind_some, hqd, Bool.or_eq_true, beq_iff_eq, bne_self_eq_false, Bool.false_eq_true, or_false] at this
    exact this
theorem oldB_at {j t : Nat} (h : oldB md ops j t = true) {k : Nat} {p : Oper} (hp : ops[k]? = some p) (hd : p.dst = some t) :
    k = j ∨ ∃ e ∈ p.after, Region.binds md e = true ∧ e.on = j := by
  have hk : k < ops.size := (Array.getElem?_eq_some_iff.1 hp).1
  have h1 := List.all_eq_true.1 h k (List.mem_range.2 hk)
  simp only [hp, hd, Bool.or_eq_true, beq_iff_eq, bne_self_eq_false, Bool.false_eq_true, false_or] at h1
  rcases h1 with h1 | h1
  · exact .inl h1
  · obtain ⟨e, he, h2⟩ := List.any_eq_true.1 h1
    simp only [Bool.and_eq_true, beq_iff_eq] at h2
    exact .inr ⟨e, Array.mem_toList_iff.1 he, h2.1, h2.2⟩
/-- What holds when the operations of 'listed' have come up. -/
structure Loose (md : Region.Mode) (ops : Array Oper) (S : World → World → Prop) (V : Nat → Value → World → Prop) (a0 : Act) (W0 : World) (listed : Array Bool) (a : Act) (w : World) : Prop where
  world : S W0 w
  size : a.tmps.size = a0.tmps.size
  defers : a.defers = a0.defers
  old : ∀ t, (∀ k p, ops[k]? = some p → p.dst = some t → listed.getD k false = false) → a.tmps.getD t undef = a0.tmps.getD t undef
  val : ∀ i o d, ops[i]? = some o → listed.getD i false = true → o.dst = some d → V i (a.tmps.getD d undef) w
  shut : ∀ k p, ops[k]? = some p → listed.getD k false = true → ∀ e ∈ p.after, Region.binds md e = true → listed.getD e.on false = true
theorem getD_set_same (l : Array Bool) (i : Nat) (h : i < l.size) (d : Bool) : (l.setIfInBounds i true).getD i d = true := by simp [h]
theorem getD_set_or (l : Array Bool) (i k : Nat) (h : (l.setIfInBounds i true).getD k false = true) : k = i ∨ l.getD k false = true := by
  by_cases hk : i = k
  · exact .inl hk.symm
  · rw [getD_set_ne false hk] at h; exact .inr h
/-- Operation j, whatever came up before it, yields a value of its property. -/
def StepOk (P : Program) (ops : Array Oper) (Q : Exit → Act → World → Prop) (md : Region.Mode) (S : World → World → Prop) (V : Nat → Value → World → Prop) (a0 : Act) (W0 : World) (j : Nat) (o : Oper) : Prop :=
  ∀ a w, S W0 w → a.tmps.size = a0.tmps.size → a.defers = a0.defers →
      (∀ t, oldB md ops j t = true → a.tmps.getD t undef = a0.tmps.getD t undef) →
      (∀ e ∈ o.after, Region.binds md e = true → ∀ p d, ops[e.on]? = some p → p.dst = some d → V e.on (a.tmps.getD d undef) w) →
      ∀ K : Act → World → Prop, (∀ v w', S w w' → V j v w' → K (a.put o.dst v) w') → wpOp P ops Q j K a w
/-- An operation in the order's midst: what it finds, by name. -/
theorem step_on {S : World → World → Prop} {V : Nat → Value → World → Prop} {a0 : Act} {W0 : World} {j : Nat} {o : Oper} (ho : ops[j]? = some o) (hg : o.guard = none)
    (h : ∀ ev : Operand → Value, ∀ w, S W0 w → (∀ v, ev (.const v) = v) → (∀ f, ev (.func f) = .func (.func f) #[] #[]) → (∀ t, oldB md ops j t = true → ev (.tmp t) = a0.eval (.tmp t)) →
      (∀ i d, o.after.toList.any (fun e => Region.binds md e && e.on == i) = true → ((ops[i]?).bind (·.dst)) = some d → V i (ev (.tmp d)) w) →
      ∀ a K, a.eval = ev → (∀ v w', S w w' → V j v w' → K (a.put o.dst v) w') → Oper.upon P o a K Q ((execOp ev o).run P w)) : StepOk P ops Q md S V a0 W0 j o := by
  intro a w hS hsz hdf hold hval K hK
  unfold wpOp
  simp only [ho]
  have hw : Region.wanted o (yielded ops a.tmps) = true := by unfold Region.wanted; rw [hg]
  rw [if_pos hw]
  refine .inl (h a.eval w hS (fun _ => rfl) (fun _ => rfl) (fun t ht => hold t ht) (fun i d hi hd => ?_) a K rfl hK)
  obtain ⟨e, he, h2⟩ := List.any_eq_true.1 hi
  simp only [Bool.and_eq_true, beq_iff_eq] at h2
  obtain ⟨h3, rfl⟩ := h2
  cases hp : ops[e.on]? with
  | none => rw [hp] at hd; cases hd
  | some p => rw [hp] at hd; exact hval e (Array.mem_toList_iff.1 he) h3 p d hp hd
theorem steps_nil {T : Nat → Oper → Prop} {k : Nat} : ∀ j p, ([] : List Oper)[j]? = some p → T (k + j) p := by intro j p h; simp at h
theorem steps_cons {T : Nat → Oper → Prop} {k : Nat} {o : Oper} {l : List Oper} (h : T k o) (hl : ∀ j p, l[j]? = some p → T (k + 1 + j) p) : ∀ j p, (o :: l)[j]? = some p → T (k + j) p := by
  intro j p hj
  cases j with
  | zero => simp at hj; subst hj; exact h
  | succ j => simp at hj; have := hl j p hj; rwa [show k + 1 + j = k + (j + 1) by omega] at this
theorem steps_of {T : Nat → Oper → Prop} {l : List Oper} (h : ∀ j p, l[j]? = some p → T (0 + j) p) : ∀ j p, l.toArray[j]? = some p → T j p := by
  intro j p hj
  have := h j p (by simpa using hj)
  rwa [Nat.zero_add] at this
/-- A value. -/
def is (c : Value) : Value → World → Prop := fun v _ => v = c
/-- A slice of so many elements, that holds these cells. -/
def row (sz n : Nat) (xs : List Value) : Value → World → Prop := fun v w => ∃ A c, v = .slice A n c ∧ Rd w w.heap.size sz A n xs ∧ n ≤ c ∧ c ≤ maxLen
def Grow (w w' : World) : Prop := Below w.heap.size w w'
theorem Grow.trans {w w1 w2 : World} (h : Grow w w1) (k : Grow w1 w2) : Grow w w2 := Below.trans h (Below.mono k (Below.size h))
def Stb (p : Value → World → Prop) : Prop := ∀ v w w', p v w → Grow w w' → p v w'
theorem stb_is (c : Value) : Stb (is c) := fun _ _ _ h _ => h
theorem stb_row (sz n : Nat) (xs : List Value) : Stb (row sz n xs) := fun _ _ _ ⟨A, c, h1, h2, h3⟩ hb => ⟨A, c, h1, (h2.below hb).mono (Below.size hb), h3⟩
/-- The properties of a list, by number. -/
def Vs (l : List (Value → World → Prop)) (i : Nat) : Value → World → Prop := l.getD i fun _ _ => True
theorem stb_all {l : List (Value → World → Prop)} (h : ∀ p ∈ l, Stb p) : ∀ i v w w', Vs l i v w → Grow w w' → Vs l i v w' := by
  intro i v w w' h1 h2
  unfold Vs at *
  rw [List.getD_eq_getElem?_getD] at *
  cases hp : l[i]? with
  | none => exact trivial
  | some p => rw [hp] at h1; exact h p (List.mem_of_getElem? hp) _ _ _ h1 h2
theorem wpAny_loose (S : World → World → Prop) (V : Nat → Value → World → Prop) (a0 : Act) (W0 : World)
    (hlaid : laidB md ops a0.tmps.size = true) (hrefl : S W0 W0) (htrans : ∀ w w', S W0 w → S w w' → S W0 w') (hstab : ∀ i v w w', V i v w → S w w' → V i v w')
    (hstep : ∀ j o, ops[j]? = some o → StepOk P ops Q md S V a0 W0 j o)
    (hend : ∀ a w, S W0 w → a.tmps.size = a0.tmps.size → a.defers = a0.defers →
      (∀ t, (∀ (k : Nat) (p : Oper), ops[k]? = some p → p.dst ≠ some t) → a.tmps.getD t undef = a0.tmps.getD t undef) →
      (∀ i o d, ops[i]? = some o → o.dst = some d → V i (a.tmps.getD d undef) w) → Q .normal a w) :
    wpAny P md ops Q ops.size (Array.replicate ops.size false) a0 W0 := by
  have done : ∀ listed a w, listed.size = ops.size → (∀ i, i < ops.size → listed.getD i false = true) → Loose md ops S V a0 W0 listed a w → Q .normal a w := by
    intro listed a w hl hall h
    refine hend a w h.world h.size h.defers (fun t ht => h.old t fun k p hp hd => absurd hd (ht k p hp)) fun i o d ho hd => h.val i o d ho (hall i (Array.getElem?_eq_some_iff.1 ho).1) hd
  have none_ready : ∀ listed : Array Bool, listed.size = ops.size → Region.ready md ops listed = [] → ∀ i, i < ops.size → listed.getD i false = true := by
    intro listed hl hr i
    induction i using Nat.strongRecOn with
    | _ i ih =>
      intro hi
      cases hc : listed.getD i false with
      | true => rfl
      | false =>
        exfalso
        have hm : i ∈ Region.ready md ops listed := by
          refine mem_ready.2 ⟨?_, ops[i], Array.getElem?_eq_getElem hi, fun e he hb => ?_⟩
          · have hi' : i < listed.size := by omega
            simp [hi'] at hc ⊢
            exact hc
          · have := (laidB_at hlaid (Array.getElem?_eq_getElem hi)).1 e he hb
            exact ih e.on this (by omega)
        rw [hr] at hm
        cases hm
  have main : ∀ fuel listed a w, listed.size = ops.size → listed.toList.count false ≤ fuel → Loose md ops S V a0 W0 listed a w → wpAny P md ops Q fuel listed a w := by
    intro fuel
    induction fuel with
    | zero =>
      intro listed a w hl hc h
      have hall : ∀ i, i < ops.size → listed.getD i false = true := by
        intro i hi
        have hi' : i < listed.size := by omega
        cases hv : listed.getD i false with
        | true => rfl
        | false =>
          exfalso
          have : false ∈ listed.toList := by
            simp [hi'] at hv
            exact hv ▸ (by simp)
          have := List.count_pos_iff.2 this
          omega
      refine ⟨?_, done listed a w hl hall h⟩
      cases hr : Region.ready md ops listed with
      | nil => rfl
      | cons i l =>
        exfalso
        have hi : i ∈ Region.ready md ops listed := by rw [hr]; exact List.mem_cons_self ..
        obtain ⟨h0, o, ho, _⟩ := mem_ready.1 hi
        have hlt : i < ops.size := (Array.getElem?_eq_some_iff.1 ho).1
        have h1 := hall i hlt
        have hi' : i < listed.size := by omega
        simp [hi'] at h0 h1
        rw [h0] at h1
        cases h1
    | succ fuel ih =>
      intro listed a w hl hc h
      refine ⟨fun hr => done listed a w hl (none_ready listed hl hr) h, fun j hj => ?_⟩
      obtain ⟨h0, o, ho, haft⟩ := mem_ready.1 hj
      have hlt : j < ops.size := (Array.getElem?_eq_some_iff.1 ho).1
      have hjl : j < listed.size := by omega
      have h0' : listed.getD j false = false := by simp [hjl] at h0 ⊢; exact h0
      refine hstep j o ho a w h.world h.size h.defers (fun t ht => h.old t fun k p hp hd => ?_) (fun e he hb p d hp hd => h.val e.on p d hp (haft e he hb) hd) _ fun v w' hS hV => ?_
      · rcases oldB_at ht hp hd with rfl | ⟨e, he, hb, heq⟩
        · exact h0'
        · cases hk : listed.getD k false with
          | false => rfl
          | true =>
            have := h.shut k p hp hk e he hb
            rw [heq, h0'] at this
            cases this
      · refine ih _ _ _ (by simpa using hl) ?_ ?_
        · have hv : listed.toList[j]'(by simpa using hjl) = false := by simp [hjl] at h0' ⊢; exact h0'
          rw [Array.toList_setIfInBounds, List.count_set (by simpa using hjl), hv]
          simp
          have hm : false ∈ listed.toList := hv ▸ List.getElem_mem _
          have := List.count_pos_iff.2 hm
          rw [← Array.count_toList]
          omega
        · have hsz : (a.put o.dst v).tmps.size = a0.tmps.size := by
            rw [← h.size]
            cases o.dst with
            | none => rfl
            | some d => simp [Act.put]
          refine ⟨htrans w w' h.world hS, hsz, ?_, fun t ht => ?_, fun i p d hp hi hd => ?_, fun k p hp hk e he hb => ?_⟩
          · rw [← h.defers]
            cases o.dst <;> rfl
          · have hne : o.dst ≠ some t := fun hd => by
              have := ht j o ho hd
              rw [getD_set_same _ _ hjl] at this
              cases this
            have hold := h.old t fun k p hp hd => by
              have := ht k p hp hd
              cases hk : listed.getD k false with
              | false => rfl
              | true =>
                by_cases hjk : j = k
                · subst hjk; rw [h0'] at hk; cases hk
                · rw [getD_set_ne false hjk, hk] at this; cases this
            rw [← hold]
            cases hod : o.dst with
            | none => rfl
            | some d =>
              have hdt : d ≠ t := fun h => hne (by rw [hod, h])
              simp [Act.put, Array.getD_eq_getD_getElem?, hdt]
          · rcases getD_set_or _ _ _ hi with rfl | hi1
            · rw [ho] at hp
              injection hp with hp
              subst hp
              have hdl := ((laidB_at hlaid ho).2 d hd).1
              have : (a.put o.dst v).tmps.getD d undef = v := by
                rw [hd]
                have : d < a.tmps.size := by rw [h.size]; exact hdl
                simp [Act.put, Array.getD_eq_getD_getElem?, this]
              rw [this]
              exact hV
            · by_cases hij : i = j
              · subst hij; rw [h0'] at hi1; cases hi1
              have : (a.put o.dst v).tmps.getD d undef = a.tmps.getD d undef := by
                cases hod : o.dst with
                | none => rfl
                | some d' =>
                  have hdt : d' ≠ d := fun h => hij (((laidB_at hlaid ho).2 d' hod).2 i p hp (h ▸ hd))
                  simp [Act.put, Array.getD_eq_getD_getElem?, hdt]
              rw [this]
              exact hstab _ _ _ _ (h.val i p d hp hi1 hd) hS
          · rcases getD_set_or _ _ _ hk with rfl | hk
            · rw [ho] at hp
              injection hp with hp
              subst hp
              have h1 := haft e he hb
              by_cases hje : k = e.on
              · rw [← hje]; exact getD_set_same _ _ hjl _
              · rw [getD_set_ne false hje]; exact h1
            · have h1 := h.shut k p hp hk e he hb
              by_cases hje : j = e.on
              · rw [← hje]; exact getD_set_same _ _ hjl _
              · rw [getD_set_ne false hje]; exact h1
  refine main _ _ _ _ (by simp) (by simp) ⟨hrefl, rfl, rfl, fun _ _ => rfl, fun i o d ho hi hd => ?_, fun k p hp hk => ?_⟩
  · have hlt : i < ops.size := (Array.getElem?_eq_some_iff.1 ho).1
    simp [hlt] at hi
  · have hlt : k < ops.size := (Array.getElem?_eq_some_iff.1 hp).1
    simp [hlt] at hk
end
end Go.Proofs.YthkkcelfgcholaaGreat
namespace Go.Proofs.YthkkcelfgcholaaGreat
open Go.RowKit Go
set_option linter.unusedVariables false
def putsOf (ev : Operand → Value) (ds : List Nat) (a0 : Act) : Act := ds.foldl (fun x d => x.put (some d) (ev (.tmp d))) a0
theorem puts_at (a : Act) (ds : List Nat) (a0 : Act) (hsz : a.tmps.size = a0.tmps.size) :
    (putsOf a.eval ds a0).tmps.size = a0.tmps.size ∧ (putsOf a.eval ds a0).defers = a0.defers ∧
    ∀ t, (putsOf a.eval ds a0).tmps.getD t undef = if t ∈ ds then a.tmps.getD t undef else a0.tmps.getD t undef := by
  induction ds generalizing a0 with
  | nil => exact ⟨rfl, rfl, fun t => by simp [putsOf]⟩
  | cons d ds ih =>
    have h1 : (a0.put (some d) (a.eval (.tmp d))).tmps.size = a0.tmps.size := by simp [Act.put]
    obtain ⟨i1, i2, i3⟩ := ih (a0.put (some d) (a.eval (.tmp d))) (by rw [h1]; exact hsz)
    refine ⟨i1.trans h1, i2, fun t => ?_⟩
    have h2 := i3 t
    change (putsOf a.eval ds (a0.put (some d) (a.eval (.tmp d)))).tmps.getD t undef = _
    rw [h2]
    by_cases ht : t ∈ ds
    · rw [if_pos ht, if_pos (List.mem_cons_of_mem _ ht)]
    · rw [if_neg ht]
      by_cases htd : t = d
      · subst htd
        rw [if_pos (List.mem_cons_self ..)]
        by_cases hlt : t < a0.tmps.size
        · simp [Act.put, Array.getD_eq_getD_getElem?, hlt, Act.eval]
        · have hlt2 : ¬ t < a.tmps.size := by omega
          simp [Act.put, Array.getD_eq_getD_getElem?, hlt, hlt2]
      · rw [if_neg (by simp [htd, ht])]
        have : d ≠ t := fun h => htd h.symm
        simp [Act.put, Array.getD_eq_getD_getElem?, this]
theorem act_puts (a a0 : Act) (ds : List Nat) (hsz : a.tmps.size = a0.tmps.size) (hdf : a.defers = a0.defers) (h : ∀ t, t ∉ ds → a.tmps.getD t undef = a0.tmps.getD t undef) : a = putsOf a.eval ds a0 := by
  obtain ⟨i1, i2, i3⟩ := puts_at a ds a0 hsz
  have key : a.tmps = (putsOf a.eval ds a0).tmps := by
    apply Array.ext
    · rw [i1, hsz]
    · intro i h1 h2
      have := i3 i
      have e1 : (putsOf a.eval ds a0).tmps.getD i undef = (putsOf a.eval ds a0).tmps[i] := by simp [Array.getD_eq_getD_getElem?, h2]
      have e2 : a.tmps.getD i undef = a.tmps[i] := by simp [Array.getD_eq_getD_getElem?, h1]
      rw [e1] at this
      rw [this]
      by_cases hi : i ∈ ds
      · rw [if_pos hi, e2]
      · rw [if_neg hi, ← h i hi, e2]
  cases ha : a with
  | mk t d =>
    cases hp : putsOf a.eval ds a0 with
    | mk t' d' =>
      rw [ha] at hp
      rw [hp]
      rw [ha, hp] at key
      rw [ha, hp] at i2
      rw [ha] at hdf
      simp only at key i2 hdf
      rw [key, hdf, i2]
section
variable {P : Program} {ops : Array Oper} {Q : Exit → Act → World → Prop} {md : Region.Mode}
theorem wpAny_loose2 (ds : List Nat) (S : World → World → Prop) (V : Nat → Value → World → Prop) (a0 : Act) (W0 : World)
    (hds : ops.toList.filterMap (·.dst) = ds)
    (hlaid : laidB md ops a0.tmps.size = true) (hrefl : S W0 W0) (htrans : ∀ w w', S W0 w → S w w' → S W0 w') (hstab : ∀ i v w w', V i v w → S w w' → V i v w')
    (hstep : ∀ j o, ops[j]? = some o → StepOk P ops Q md S V a0 W0 j o)
    (hend : ∀ (ev : Operand → Value) w, S W0 w → (∀ i d, ((ops[i]?).bind (·.dst)) = some d → V i (ev (.tmp d)) w) → Q .normal (putsOf ev ds a0) w) :
    wpAny P md ops Q ops.size (Array.replicate ops.size false) a0 W0 := by
  refine wpAny_loose S V a0 W0 hlaid hrefl htrans hstab hstep fun a w hS hsz hdf hold hval => ?_
  have h1 := hend a.eval w hS fun i d hd => by
    cases ho : ops[i]? with
    | none => rw [ho] at hd; cases hd
    | some o => rw [ho] at hd; exact hval i o d ho hd
  rw [← act_puts a a0 ds hsz hdf fun t ht => hold t fun k p hp hd => ht ?_] at h1
  · exact h1
  · rw [← hds]
    exact List.mem_filterMap.2 ⟨p, Array.mem_toList_iff.2 (Array.mem_of_getElem? hp), hd⟩
end
end Go.Proofs.YthkkcelfgcholaaGreat
namespace Go.Proofs.YthkkcelfgcholaaGreat
open Go.RowKit Go
set_option linter.unusedVariables false
section
variable {P : Program} {ops : Array Oper} {Q : Exit → Act → World → Prop} {md : Region.Mode}
/-- Operation i waits for operation j. -/
def aftB (md : Region.Mode) (ops : Array Oper) (i j : Nat) : Bool := match ops[i]? with
  | some o => o.after.toList.any (fun e => Region.binds md e && e.on == j)
  | none => false
/-- Operation j, whatever came up before it, yields a value of its property. -/
def StepOk3 (P : Program) (ops : Array Oper) (Q : Exit → Act → World → Prop) (md : Region.Mode) (C : World → Prop) (S : Nat → World → World → Prop) (U : Nat → World → Prop) (V : Nat → Value → World → Prop) (a0 : Act) (j : Nat) (o : Oper) : Prop :=
  ∀ a w, C w → U j w → a.tmps.size = a0.tmps.size → a.defers = a0.defers →
      (∀ t, oldB md ops j t = true → a.tmps.getD t undef = a0.tmps.getD t undef) →
      (∀ e ∈ o.after, Region.binds md e = true → ∀ p d, ops[e.on]? = some p → p.dst = some d → V e.on (a.tmps.getD d undef) w) →
      ∀ K : Act → World → Prop, (∀ v w', S j w w' → V j v w' → K (a.put o.dst v) w') → wpOp P ops Q j K a w
/-- An operation in the order's midst: what it finds, by name. -/
theorem step_on3 {C : World → Prop} {S : Nat → World → World → Prop} {U : Nat → World → Prop} {V : Nat → Value → World → Prop} {a0 : Act} {j : Nat} {o : Oper} (ho : ops[j]? = some o) (hg : o.guard = none)
    (h : ∀ ev : Operand → Value, ∀ w, C w → U j w → (∀ v, ev (.const v) = v) → (∀ f, ev (.func f) = .func (.func f) #[] #[]) → (∀ t, oldB md ops j t = true → ev (.tmp t) = a0.eval (.tmp t)) →
      (∀ i d, o.after.toList.any (fun e => Region.binds md e && e.on == i) = true → ((ops[i]?).bind (·.dst)) = some d → V i (ev (.tmp d)) w) →
      ∀ a K, a.eval = ev → (∀ v w', S j w w' → V j v w' → K (a.put o.dst v) w') → Oper.upon P o a K Q ((execOp ev o).run P w)) : StepOk3 P ops Q md C S U V a0 j o := by
  intro a w hS hU hsz hdf hold hval K hK
  unfold wpOp
  simp only [ho]
  have hw : Region.wanted o (yielded ops a.tmps) = true := by unfold Region.wanted; rw [hg]
  rw [if_pos hw]
  refine .inl (h a.eval w hS hU (fun _ => rfl) (fun _ => rfl) (fun t ht => hold t ht) (fun i d hi hd => ?_) a K rfl hK)
  obtain ⟨e, he, h2⟩ := List.any_eq_true.1 hi
  simp only [Bool.and_eq_true, beq_iff_eq] at h2
  obtain ⟨h3, rfl⟩ := h2
  cases hp : ops[e.on]? with
  | none => rw [hp] at hd; cases hd
  | some p => rw [hp] at hd; exact hval e (Array.mem_toList_iff.1 he) h3 p d hp hd
end
end Go.Proofs.YthkkcelfgcholaaGreat
namespace Go.Proofs.YthkkcelfgcholaaGreat
open Go.RowKit Go
set_option linter.unusedVariables false
section
variable {P : Program} {ops : Array Oper} {Q : Exit → Act → World → Prop} {md : Region.Mode}
/-- Operation j waits for operation i, through others too. -/
def upB (md : Region.Mode) (ops : Array Oper) : Nat → Nat → Nat → Bool
  | 0, _, _ => false
  | f + 1, j, i => match ops[j]? with
    | some o => o.after.toList.any fun e => Region.binds md e && (e.on == i || upB md ops f e.on i)
    | none => false
theorem upB_listed {listed : Array Bool} (hs : ∀ k p, ops[k]? = some p → listed.getD k false = true → ∀ e ∈ p.after, Region.binds md e = true → listed.getD e.on false = true) :
    ∀ f j i o, ops[j]? = some o → (∀ e ∈ o.after, Region.binds md e = true → listed.getD e.on false = true) → upB md ops f j i = true → listed.getD i false = true := by
  intro f
  induction f with
  | zero => intro j i o _ _ h; cases h
  | succ f ih =>
    intro j i o ho ha h
    unfold upB at h
    rw [ho] at h
    obtain ⟨e, he, h2⟩ := List.any_eq_true.1 h
    simp only [Bool.and_eq_true, Bool.or_eq_true, beq_iff_eq] at h2
    have hl := ha e (Array.mem_toList_iff.1 he) h2.1
    rcases h2.2 with h3 | h3
    · rw [← h3]; exact hl
    · cases hp : ops[e.on]? with
      | none =>
        exfalso
        cases f with
        | zero => cases h3
        | succ f => unfold upB at h3; rw [hp] at h3; cases h3
      | some p => exact ih e.on i p hp (hs e.on p hp hl) h3
/-- What holds when the operations of 'listed' have come up. -/
structure Loose7 (md : Region.Mode) (ops : Array Oper) (C : World → Prop) (U : Nat → World → Prop) (V : Nat → Value → World → Prop) (a0 : Act) (listed : Array Bool) (a : Act) (w : World) : Prop where
  world : C w
  pre : ∀ j o, ops[j]? = some o → listed.getD j false = false → U j w
  size : a.tmps.size = a0.tmps.size
  defers : a.defers = a0.defers
  old : ∀ t, (∀ k p, ops[k]? = some p → p.dst = some t → listed.getD k false = false) → a.tmps.getD t undef = a0.tmps.getD t undef
  val : ∀ i o, ops[i]? = some o → listed.getD i false = true → ∃ v, (∀ d, o.dst = some d → a.tmps.getD d undef = v) ∧ V i v w
  shut : ∀ k p, ops[k]? = some p → listed.getD k false = true → ∀ e ∈ p.after, Region.binds md e = true → listed.getD e.on false = true
theorem wpAny_loose7 (C : World → Prop) (S : Nat → World → World → Prop) (U : Nat → World → Prop) (V : Nat → Value → World → Prop) (a0 : Act)
    (W0 : World) (hlaid : laidB md ops a0.tmps.size = true) (hC0 : C W0) (hU0 : ∀ i, U i W0) (hC : ∀ j w w', C w → S j w w' → C w') (hU : ∀ i j w w', i ≠ j → upB md ops ops.size j i = false → U i w → C w → S j w w' → U i w')
    (hstab : ∀ i j v w w', i ≠ j → aftB md ops i j = false → V i v w → C w → S j w w' → V i v w')
    (hstep : ∀ j o, ops[j]? = some o → StepOk3 P ops Q md C S U V a0 j o)
    (hend : ∀ a w, C w → a.tmps.size = a0.tmps.size → a.defers = a0.defers →
      (∀ t, (∀ (k : Nat) (p : Oper), ops[k]? = some p → p.dst ≠ some t) → a.tmps.getD t undef = a0.tmps.getD t undef) →
      (∀ i o, ops[i]? = some o → ∃ v, (∀ d, o.dst = some d → a.tmps.getD d undef = v) ∧ V i v w) → Q .normal a w) :
    wpAny P md ops Q ops.size (Array.replicate ops.size false) a0 W0 := by
  have done : ∀ listed a w, listed.size = ops.size → (∀ i, i < ops.size → listed.getD i false = true) → Loose7 md ops C U V a0 listed a w → Q .normal a w := by
    intro listed a w hl hall h
    refine hend a w h.world h.size h.defers (fun t ht => h.old t fun k p hp hd => absurd hd (ht k p hp)) fun i o ho => h.val i o ho (hall i (Array.getElem?_eq_some_iff.1 ho).1)
  have none_ready : ∀ listed : Array Bool, listed.size = ops.size → Region.ready md ops listed = [] → ∀ i, i < ops.size → listed.getD i false = true := by
    intro listed hl hr i
    induction i using Nat.strongRecOn with
    | _ i ih =>
      intro hi
      cases hc : listed.getD i false with
      | true => rfl
      | false =>
        exfalso
        have hm : i ∈ Region.ready md ops listed := by
          refine mem_ready.2 ⟨?_, ops[i], Array.getElem?_eq_getElem hi, fun e he hb => ?_⟩
          · have hi' : i < listed.size := by omega
            simp [hi'] at hc ⊢
            exact hc
          · have := (laidB_at hlaid (Array.getElem?_eq_getElem hi)).1 e he hb
            exact ih e.on this (by omega)
        rw [hr] at hm
        cases hm
  have main : ∀ fuel listed a w, listed.size = ops.size → listed.toList.count false ≤ fuel → Loose7 md ops C U V a0 listed a w → wpAny P md ops Q fuel listed a w := by
    intro fuel
    induction fuel with
    | zero =>
      intro listed a w hl hc h
      have hall : ∀ i, i < ops.size → listed.getD i false = true := by
        intro i hi
        have hi' : i < listed.size := by omega
        cases hv : listed.getD i false with
        | true => rfl
        | false =>
          exfalso
          have : false ∈ listed.toList := by
            simp [hi'] at hv
            exact hv ▸ (by simp)
          have := List.count_pos_iff.2 this
          omega
      refine ⟨?_, done listed a w hl hall h⟩
      cases hr : Region.ready md ops listed with
      | nil => rfl
      | cons i l =>
        exfalso
        have hi : i ∈ Region.ready md ops listed := by rw [hr]; exact List.mem_cons_self ..
        obtain ⟨h0, o, ho, _⟩ := mem_ready.1 hi
        have hlt : i < ops.size := (Array.getElem?_eq_some_iff.1 ho).1
        have h1 := hall i hlt
        have hi' : i < listed.size := by omega
        simp [hi'] at h0 h1
        rw [h0] at h1
        cases h1
    | succ fuel ih =>
      intro listed a w hl hc h
      refine ⟨fun hr => done listed a w hl (none_ready listed hl hr) h, fun j hj => ?_⟩
      obtain ⟨h0, o, ho, haft⟩ := mem_ready.1 hj
      have hlt : j < ops.size := (Array.getElem?_eq_some_iff.1 ho).1
      have hjl : j < listed.size := by omega
      have h0' : listed.getD j false = false := by simp [hjl] at h0 ⊢; exact h0
      refine hstep j o ho a w h.world (h.pre j o ho h0') h.size h.defers (fun t ht => h.old t fun k p hp hd => ?_) (fun e he hb p d hp hd => by obtain ⟨v, h1, h2⟩ := h.val e.on p hp (haft e he hb); rw [h1 d hd]; exact h2) _ fun v w' hS hV => ?_
      · rcases oldB_at ht hp hd with rfl | ⟨e, he, hb, heq⟩
        · exact h0'
        · cases hk : listed.getD k false with
          | false => rfl
          | true =>
            have := h.shut k p hp hk e he hb
            rw [heq, h0'] at this
            cases this
      · refine ih _ _ _ (by simpa using hl) ?_ ?_
        · have hv : listed.toList[j]'(by simpa using hjl) = false := by simp [hjl] at h0' ⊢; exact h0'
          rw [Array.toList_setIfInBounds, List.count_set (by simpa using hjl), hv]
          simp
          have hm : false ∈ listed.toList := hv ▸ List.getElem_mem _
          have := List.count_pos_iff.2 hm
          rw [← Array.count_toList]
          omega
        · have hsz : (a.put o.dst v).tmps.size = a0.tmps.size := by
            rw [← h.size]
            cases o.dst with
            | none => rfl
            | some d => simp [Act.put]
          refine ⟨hC j w w' h.world hS, fun i p hp hi => ?_, hsz, ?_, fun t ht => ?_, fun i p hp hi => ?_, fun k p hp hk e he hb => ?_⟩
          · have hji : i ≠ j := fun e => by
              rw [e, getD_set_same _ _ hjl] at hi
              cases hi
            rw [getD_set_ne false hji.symm] at hi
            refine hU i j w w' hji ?_ (h.pre i p hp hi) h.world hS
            cases hup : upB md ops ops.size j i with
            | false => rfl
            | true =>
              have := upB_listed h.shut _ j i o ho haft hup
              rw [hi] at this
              cases this
          · rw [← h.defers]
            cases o.dst <;> rfl
          · have hne : o.dst ≠ some t := fun hd => by
              have := ht j o ho hd
              rw [getD_set_same _ _ hjl] at this
              cases this
            have hold := h.old t fun k p hp hd => by
              have := ht k p hp hd
              cases hk : listed.getD k false with
              | false => rfl
              | true =>
                by_cases hjk : j = k
                · subst hjk; rw [h0'] at hk; cases hk
                · rw [getD_set_ne false hjk, hk] at this; cases this
            rw [← hold]
            cases hod : o.dst with
            | none => rfl
            | some d =>
              have hdt : d ≠ t := fun h => hne (by rw [hod, h])
              simp [Act.put, Array.getD_eq_getD_getElem?, hdt]
          · rcases getD_set_or _ _ _ hi with rfl | hi1
            · rw [ho] at hp
              injection hp with hp
              subst hp
              refine ⟨v, fun d hd => ?_, hV⟩
              have hdl := ((laidB_at hlaid ho).2 d hd).1
              rw [hd]
              have : d < a.tmps.size := by rw [h.size]; exact hdl
              simp [Act.put, Array.getD_eq_getD_getElem?, this]
            · by_cases hij : i = j
              · subst hij; rw [h0'] at hi1; cases hi1
              obtain ⟨u, hu, hv⟩ := h.val i p hp hi1
              have haf : aftB md ops i j = false := by
                cases hc : aftB md ops i j with
                | false => rfl
                | true =>
                  exfalso
                  unfold aftB at hc
                  rw [hp] at hc
                  obtain ⟨e, he, h2⟩ := List.any_eq_true.1 hc
                  simp only [Bool.and_eq_true, beq_iff_eq] at h2
                  have := h.shut i p hp hi1 e (Array.mem_toList_iff.1 he) h2.1
                  rw [h2.2, h0'] at this
                  cases this
              refine ⟨u, fun d hd => ?_, hstab _ _ _ _ _ hij haf hv h.world hS⟩
              rw [← hu d hd]
              cases hod : o.dst with
              | none => rfl
              | some d' =>
                have hdt : d' ≠ d := fun h => hij (((laidB_at hlaid ho).2 d' hod).2 i p hp (h ▸ hd))
                simp [Act.put, Array.getD_eq_getD_getElem?, hdt]
          · rcases getD_set_or _ _ _ hk with rfl | hk
            · rw [ho] at hp
              injection hp with hp
              subst hp
              have h1 := haft e he hb
              by_cases hje : k = e.on
              · rw [← hje]; exact getD_set_same _ _ hjl _
              · rw [getD_set_ne false hje]; exact h1
            · have h1 := h.shut k p hp hk e he hb
              by_cases hje : j = e.on
              · rw [← hje]; exact getD_set_same _ _ hjl _
              · rw [getD_set_ne false hje]; exact h1
  refine main _ _ _ _ (by simp) (by simp) ⟨hC0, fun j _ _ _ => hU0 j, rfl, rfl, fun _ _ => rfl, fun i o ho hi => ?_, fun k p hp hk => ?_⟩
  · have hlt : i < ops.size := (Array.getElem?_eq_some_iff.1 ho).1
    simp [hlt] at hi
  · have hlt : k < ops.size := (Array.getElem?_eq_some_iff.1 hp).1
    simp [hlt] at hk
theorem wpAny_loose8 (ds : List Nat) (C : World → Prop) (S : Nat → World → World → Prop) (U : Nat → World → Prop) (V : Nat → Value → World → Prop) (a0 : Act) (W0 : World)
    (hds : ops.toList.filterMap (·.dst) = ds)
    (hlaid : laidB md ops a0.tmps.size = true) (hC0 : C W0) (hU0 : ∀ i, U i W0) (hC : ∀ j w w', C w → S j w w' → C w') (hU : ∀ i j w w', i ≠ j → upB md ops ops.size j i = false → U i w → C w → S j w w' → U i w')
    (hstab : ∀ i j v w w', i ≠ j → aftB md ops i j = false → V i v w → C w → S j w w' → V i v w')
    (hstep : ∀ j o, ops[j]? = some o → StepOk3 P ops Q md C S U V a0 j o)
    (hend : ∀ (ev : Operand → Value) w, C w → (∀ i d, ((ops[i]?).bind (·.dst)) = some d → V i (ev (.tmp d)) w) → (∀ i, i < ops.size → ∃ v, V i v w) → Q .normal (putsOf ev ds a0) w) :
    wpAny P md ops Q ops.size (Array.replicate ops.size false) a0 W0 := by
  refine wpAny_loose7 C S U V a0 W0 hlaid hC0 hU0 hC hU hstab hstep fun a w hS hsz hdf hold hval => ?_
  have h1 := hend a.eval w hS (fun i d hd => by
    cases ho : ops[i]? with
    | none => rw [ho] at hd; cases hd
    | some o =>
      rw [ho] at hd
      obtain ⟨v, h1, h2⟩ := hval i o ho
      have := h1 d hd
      change V i (a.tmps.getD d undef) w
      rw [this]
      exact h2) (fun i hi => by
    obtain ⟨v, _, h2⟩ := hval i _ (Array.getElem?_eq_getElem hi)
    exact ⟨v, h2⟩)
  rw [← act_puts a a0 ds hsz hdf fun t ht => hold t fun k p hp hd => ht ?_] at h1
  · exact h1
  · rw [← hds]
    exact List.mem_filterMap.2 ⟨p, Array.mem_toList_iff.2 (Array.mem_of_getElem? hp), hd⟩
end
/-- Blocks of F may be written by operation J, and by no other. -/
def KStep (F : Nat → Prop) (J j : Nat) (w w' : World) : Prop := (j = J → Keep F w w') ∧ (j ≠ J → Grow w w')
theorem kstep_any {F : Nat → Prop} {J j : Nat} {w w' : World} (h : KStep F J j w w') : Keep F w w' := by
  by_cases hj : j = J
  · exact h.1 hj
  · exact Keep.of_below (h.2 hj)
theorem kstep_grow {F : Nat → Prop} {J j : Nat} {w w' : World} (h : Grow w w') : KStep F J j w w' := ⟨fun _ => Keep.of_below h, fun _ => h⟩
theorem kstep_keep {F : Nat → Prop} {J : Nat} {w w' : World} (h : Keep F w w') : KStep F J J w w' := ⟨fun _ => h, fun e => absurd rfl e⟩
/-- A property of a value that stays though the blocks of F are written. -/
def StbK (F : Nat → Prop) (p : Value → World → Prop) : Prop := ∀ v w w', p v w → Keep F w w' → p v w'
theorem stbk_is (F : Nat → Prop) (c : Value) : StbK F (is c) := fun _ _ _ h _ => h
theorem stbk_all {F : Nat → Prop} {l : List (Value → World → Prop)} (h : ∀ p ∈ l, StbK F p) : ∀ i v w w', Vs l i v w → Keep F w w' → Vs l i v w' := by
  intro i v w w' hv hk
  unfold Vs at hv ⊢
  rw [List.getD_eq_getElem?_getD] at hv ⊢
  cases hl : l[i]? with
  | none => simp
  | some p => rw [hl] at hv; simp only [Option.getD_some] at hv ⊢; exact h p (List.mem_of_getElem? hl) v w w' hv hk
def VsJ (J : Nat) (pJ : Value → World → Prop) (l : List (Value → World → Prop)) (i : Nat) : Value → World → Prop := if i = J then pJ else Vs l i
/-- A region in which operation J writes the blocks of F, on which the operations of rd hang (they find pre). -/
theorem wpAny_keep {P : Program} {ops : Array Oper} {Q : Exit → Act → World → Prop} {md : Region.Mode} (ds : List Nat) (F : Nat → Prop) (J : Nat) (rd : List Nat) (pre : World → Prop) (pJ : Value → World → Prop) (l : List (Value → World → Prop)) (a0 : Act) (W0 : World)
    (hds : ops.toList.filterMap (·.dst) = ds) (hlaid : laidB md ops a0.tmps.size = true)
    (hrd : (rd.all fun i => i == J || upB md ops ops.size J i) = true)
    (hp0 : pre W0) (hp : ∀ w w', pre w → Keep F W0 w → Grow w w' → pre w') (hJ : Stb pJ) (hst : ∀ p ∈ l, StbK F p)
    (hstep : ∀ j o, ops[j]? = some o → StepOk3 P ops Q md (Keep F W0) (KStep F J) (fun i w => rd.contains i = true → pre w) (VsJ J pJ l) a0 j o)
    (hend : ∀ (ev : Operand → Value) w, Keep F W0 w → (∀ i d, ((ops[i]?).bind (·.dst)) = some d → VsJ J pJ l i (ev (.tmp d)) w) → (∀ i, i < ops.size → ∃ v, VsJ J pJ l i v w) → Q .normal (putsOf ev ds a0) w) :
    wpAny P md ops Q ops.size (Array.replicate ops.size false) a0 W0 := by
  refine wpAny_loose8 ds (Keep F W0) (KStep F J) (fun i w => rd.contains i = true → pre w) (VsJ J pJ l) a0 W0 hds hlaid (Keep.refl _ _) (fun _ _ => hp0) (fun j w w' h k => h.trans (kstep_any k)) (fun i j w w' hij hup hi hC k hir => ?_) (fun i j v w w' hij _ hv _ k => ?_) hstep hend
  · by_cases hj : j = J
    · exfalso
      subst hj
      have h2 := List.all_eq_true.1 hrd i (by simpa using hir)
      simp only [hup, Bool.or_false, beq_iff_eq] at h2
      exact hij h2
    · exact hp w w' (hi hir) hC (k.2 hj)
  · unfold VsJ at hv ⊢
    by_cases hi : i = J
    · rw [if_pos hi] at hv ⊢
      exact hJ v w w' hv (k.2 fun e => hij (hi.trans e.symm))
    · rw [if_neg hi] at hv ⊢
      exact stbk_all hst i v w w' hv (kstep_any k)
theorem own_keepF {F : Nat → Prop} {w w' : World} {base sz n : Nat} {e : TypeId} {v : Value} {xs : List Value} (h : w.ownsRow base e sz v n xs) (k : Keep F w w') (hf : ∀ b, F b → b < base) : w'.ownsRow base e sz v n xs := by
  refine ⟨h.1, ?_⟩
  rcases h.2 with h1 | ⟨g, cap, cur, h1, h2, h3, h4⟩
  · exact .inl h1
  · exact .inr ⟨g, cap, cur, h1, h2, (k.block g (lt_of_block h3) (fun f => by have := hf g f; omega)).trans h3, h4⟩
theorem Made.keepF {F : Nat → Prop} {w w' : World} {base sz n c : Nat} {e : TypeId} {A : Option Addr} {xs : List Value} (h : Made w base e sz A n c xs) (k : Keep F w w') (hf : ∀ b, F b → b < base) : Made w' base e sz A n c xs :=
  ⟨own_keepF h.own k hf, Rd.of_own (own_keepF h.own k hf), h.cap, h.max⟩
theorem Made.mono {w : World} {B B' sz n c : Nat} {e : TypeId} {A : Option Addr} {xs : List Value} (h : Made w B e sz A n c xs) (hB : B' ≤ B) : Made w B' e sz A n c xs := ⟨own_mono h.own hB, h.rd, h.cap, h.max⟩
/-- A slice made since B. -/
def madeV (B : Nat) (e : TypeId) (sz n : Nat) (xs : List Value) : Value → World → Prop := fun v w => ∃ A c, v = .slice A n c ∧ Made w B e sz A n c xs
theorem stbk_made {F : Nat → Prop} {B : Nat} (hf : ∀ b, F b → b < B) (e : TypeId) (sz n : Nat) (xs : List Value) : StbK F (madeV B e sz n xs) := fun _ _ _ ⟨A, c, h1, h2⟩ k => ⟨A, c, h1, h2.keepF k hf⟩
/-- The address of a new block that is known whole. -/
def newBk (F : Nat → Prop) (e : TypeId) (cs : Array Value) (mk : Nat → Value) : Value → World → Prop := fun v w => ∃ g, v = mk g ∧ Bk w g e cs ∧ ¬ F g
theorem stbk_newBk (F : Nat → Prop) (e : TypeId) (cs : Array Value) (mk : Nat → Value) : StbK F (newBk F e cs mk) := fun _ _ _ ⟨g, h1, h2, h3⟩ k => ⟨g, h1, k.bk h2 h3, h3⟩
def anyV : Value → World → Prop := fun _ _ => True
theorem stbk_any (F : Nat → Prop) : StbK F anyV := fun _ _ _ _ _ => trivial
end Go.Proofs.YthkkcelfgcholaaGreat
