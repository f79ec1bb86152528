/- Behind a region of 'wpAny_loose' the frame is the old one with the operations' slots put anew. No conditions. -/
import Derived.Test.YtdpknieiigibfaaLoose
namespace Go.Proofs.Ytdpknieiigibfaa
open Go.RowKit Go
set_option linter.unusedVariables false
def putsOf (ev : Operand → Value) (ds : List Nat) (a0 : Act) : Act := ds.foldl (fun x d => x.put (some d) (ev (.tmp d))) a0
theorem puts_at (a : Act) (ds : List Nat) (a0 : Act) (hsz : a.tmps.size = a0.tmps.size) :
    (putsOf a.eval ds a0).tmps.size = a0.tmps.size ∧ (putsOf a.eval ds a0).defers = a0.defers ∧
    ∀ t, (putsOf a.eval ds a0).tmps.getD t undef = if t ∈ ds then a.tmps.getD t undef else a0.tmps.getD t undef := by
  induction ds generalizing a0 with
  | nil => exact ⟨rfl, rfl, fun t => by simp [putsOf]⟩
  | cons d ds ih =>
    have h1 : (a0.put (some d) (a.eval (.tmp d))).tmps.size = a0.tmps.size := by simp [Act.put]
    obtain ⟨i1, i2, i3⟩ := ih (a0.put (some d) (a.eval (.tmp d))) (by rw [h1]; exact hsz)
    refine ⟨i1.trans h1, i2, fun t => ?_⟩
    have h2 := i3 t
    change (putsOf a.eval ds (a0.put (some d) (a.eval (.tmp d)))).tmps.getD t undef = _
    rw [h2]
    by_cases ht : t ∈ ds
    · rw [if_pos ht, if_pos (List.mem_cons_of_mem _ ht)]
    · rw [if_neg ht]
      by_cases htd : t = d
      · subst htd
        rw [if_pos (List.mem_cons_self ..)]
        by_cases hlt : t < a0.tmps.size
        · simp [Act.put, Array.getD_eq_getD_getElem?, hlt, Act.eval]
        · have hlt2 : ¬ t < a.tmps.size := by omega
          simp [Act.put, Array.getD_eq_getD_getElem?, hlt, hlt2]
      · rw [if_neg (by simp [htd, ht])]
        have : d ≠ t := fun h => htd h.symm
        simp [Act.put, Array.getD_eq_getD_getElem?, this]
theorem act_puts (a a0 : Act) (ds : List Nat) (hsz : a.tmps.size = a0.tmps.size) (hdf : a.defers = a0.defers) (h : ∀ t, t ∉ ds → a.tmps.getD t undef = a0.tmps.getD t undef) : a = putsOf a.eval ds a0 := by
  obtain ⟨i1, i2, i3⟩ := puts_at a ds a0 hsz
  have key : a.tmps = (putsOf a.eval ds a0).tmps := by
    apply Array.ext
    · rw [i1, hsz]
    · intro i h1 h2
      have := i3 i
      have e1 : (putsOf a.eval ds a0).tmps.getD i undef = (putsOf a.eval ds a0).tmps[i] := by simp [Array.getD_eq_getD_getElem?, h2]
      have e2 : a.tmps.getD i undef = a.tmps[i] := by simp [Array.getD_eq_getD_getElem?, h1]
      rw [e1] at this
      rw [this]
      by_cases hi : i ∈ ds
      · rw [if_pos hi, e2]
      · rw [if_neg hi, ← h i hi, e2]
  cases ha : a with
  | mk t d =>
    cases hp : putsOf a.eval ds a0 with
    | mk t' d' =>
      rw [ha] at hp
      rw [hp]
      rw [ha, hp] at key
      rw [ha, hp] at i2
      rw [ha] at hdf
      simp only at key i2 hdf
      rw [key, hdf, i2]
section
variable {P : Program} {ops : Array Oper} {Q : Exit → Act → World → Prop} {md : Region.Mode}
theorem wpAny_loose2 (ds : List Nat) (S : World → World → Prop) (V : Nat → Value → World → Prop) (a0 : Act) (W0 : World)
    (hds : ops.toList.filterMap (·.dst) = ds)
    (hlaid : laidB md ops a0.tmps.size = true) (hrefl : S W0 W0) (htrans : ∀ w w', S W0 w → S w w' → S W0 w') (hstab : ∀ i v w w', V i v w → S w w' → V i v w')
    (hstep : ∀ j o, ops[j]? = some o → StepOk P ops Q md S V a0 W0 j o)
    (hend : ∀ (ev : Operand → Value) w, S W0 w → (∀ i d, ((ops[i]?).bind (·.dst)) = some d → V i (ev (.tmp d)) w) → Q .normal (putsOf ev ds a0) w) :
    wpAny P md ops Q ops.size (Array.replicate ops.size false) a0 W0 := by
  refine wpAny_loose S V a0 W0 hlaid hrefl htrans hstab hstep fun a w hS hsz hdf hold hval => ?_
  have h1 := hend a.eval w hS fun i d hd => by
    cases ho : ops[i]? with
    | none => rw [ho] at hd; cases hd
    | some o => rw [ho] at hd; exact hval i o d ho hd
  rw [← act_puts a a0 ds hsz hdf fun t ht => hold t fun k p hp hd => ht ?_] at h1
  · exact h1
  · rw [← hds]
    exact List.mem_filterMap.2 ⟨p, Array.mem_toList_iff.2 (Array.mem_of_getElem? hp), hd⟩
end
end Go.Proofs.Ytdpknieiigibfaa
