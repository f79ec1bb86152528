/- As 'Loose7' (one writer), where the last operation waits for all the others. No conditions. -/
import Derived.Test.YtdpknieiigibfaaLoose9
namespace Go.Proofs.Ytdpknieiigibfaa
open Go.RowKit Go
set_option linter.unusedVariables false
theorem wpAny_keep_tail {P : Program} {ops : Array Oper} {Q : Exit → Act → World → Prop} {md : Region.Mode} (n : Nat) (ds : List Nat) (F : Nat → Prop) (J : Nat) (rd : List Nat) (pre : World → Prop) (pJ : Value → World → Prop) (l : List (Value → World → Prop)) (a0 : Act) (W0 : World)
    (hds : (ops.toList.take n).filterMap (·.dst) = ds) (hn : n ≤ ops.size) (hlaid : laidB md ops a0.tmps.size = true) (htail : ((List.range ops.size).all fun k => decide (k < n) || (List.range n).all fun i => upB md ops ops.size k i) = true)
    (hrd : (rd.all fun i => i == J || upB md ops ops.size J i) = true)
    (hp0 : pre W0) (hp : ∀ w w', pre w → Keep F W0 w → Grow w w' → pre w') (hJ : Stb pJ) (hst : ∀ p ∈ l, StbK F p)
    (hstep : ∀ j o, j < n → ops[j]? = some o → StepOk3 P ops Q md (Keep F W0) (KStep F J) (fun i w => rd.contains i = true → pre w) (VsJ J pJ l) a0 j o)
    (hend : ∀ (ev : Operand → Value) w f, Keep F W0 w → (∀ i d, i < n → ((ops[i]?).bind (·.dst)) = some d → VsJ J pJ l i (ev (.tmp d)) w) → wpAny P md ops Q (ops.size - n + f) (firstN n ops.size) (putsOf ev ds a0) w) :
    wpAny P md ops Q ops.size (Array.replicate ops.size false) a0 W0 := by
  refine wpAny_tail2 n ds (Keep F W0) (KStep F J) (fun i w => rd.contains i = true → pre w) (VsJ J pJ l) a0 W0 hds hn hlaid htail (Keep.refl _ _) (fun _ _ => hp0) (fun j w w' _ h k => h.trans (kstep_any k)) (fun i j w w' _ hij hup hi hC k hir => ?_) (fun i j v w w' _ hij _ hv _ k => ?_) hstep hend
  · by_cases hj : j = J
    · exfalso
      subst hj
      have h2 := List.all_eq_true.1 hrd i (by simpa using hir)
      simp only [hup, Bool.or_false, beq_iff_eq] at h2
      exact hij h2
    · exact hp w w' (hi hir) hC (k.2 hj)
  · unfold VsJ at hv ⊢
    by_cases hi : i = J
    · rw [if_pos hi] at hv ⊢
      exact hJ v w w' hv (k.2 fun e => hij (hi.trans e.symm))
    · rw [if_neg hi] at hv ⊢
      exact stbk_all hst i v w w' hv (kstep_any k)
/-- Steps of the first n operations, one by one. -/
theorem steps_of_n {n : Nat} {T : Nat → Oper → Prop} {l : List Oper} (h : ∀ j p, (l.take n)[j]? = some p → T (0 + j) p) : ∀ j p, j < n → l.toArray[j]? = some p → T j p := by
  intro j p hj hp
  have := h j p (by rw [List.getElem?_take, if_pos hj]; simpa using hp)
  rwa [Nat.zero_add] at this
end Go.Proofs.Ytdpknieiigibfaa
