/- Plain laws: a longer pattern; a letter written n times. No conditions. -/
import Derived.Test.YtdpknieiigibfaaFnOcc
namespace Go.Proofs.Ytdpknieiigibfaa
open Go.RowKit
set_option linter.unusedVariables false
set_option linter.unusedSimpArgs false
theorem countP_lt (N k : Nat) (f : Nat → Bool) (hf : ∀ p, p < N → (f p = true ↔ p < k)) : (List.range N).countP f = min N k := by
  induction N with
  | zero => simp
  | succ N ih =>
    rw [List.range_succ, List.countP_append, ih (fun p hp => hf p (by omega))]
    have := hf N (by omega)
    by_cases h : N < k
    · simp [List.countP_cons, this.2 h]; omega
    · have h2 : f N = false := by
        cases hh : f N
        · rfl
        · exact absurd (this.1 hh) h
      simp [List.countP_cons, h2]; omega
theorem occ_rep (a b : Nat) (c : UInt8) : occ (symL (List.replicate a c)) (symB (List.replicate b c)) = a + 1 - b := by
  unfold occ
  rw [symL_len, List.length_replicate, countP_lt (a + 1) (a + 1 - b)]
  · omega
  · intro p hp
    rw [preQ_bytes]
    constructor
    · intro h
      rcases b with _ | b
      · omega
      · have := h b c (by simp [List.getElem?_replicate])
        rw [List.getElem?_replicate] at this
        split at this
        · omega
        · simp at this
    · intro h i d hd
      rw [List.getElem?_replicate] at hd ⊢
      split at hd
      · rw [if_pos (by omega)]; exact hd
      · simp at hd
theorem preQ_snoc (l q : List Nat) (s : Nat) : ∀ p, preQ l (q ++ [s]) p = (preQ l q p && decide (aN l (p + q.length) = (s : Int))) := by
  induction q with
  | nil => intro p; show preQ l [s] p = _; rw [preQ_cons]; simp [preQ]
  | cons x q ih =>
    intro p
    rw [List.cons_append, preQ_cons, preQ_cons, ih, Bool.and_assoc, List.length_cons, show p + 1 + q.length = p + (q.length + 1) by omega]
/-- The sum of the counts of a pattern with one of the first k letters from 'a' behind it. -/
def sumP (t q : List UInt8) : Nat → Nat
  | 0 => 0
  | k + 1 => sumP t q k + occ (symL t) (symB q ++ [98 + k])
theorem sumP_eq (t q : List UInt8) (k : Nat) : sumP t q k = (List.range (symL t).length).countP (fun p => preQ (symL t) (symB q) p && decide (98 ≤ aN (symL t) (p + q.length) ∧ aN (symL t) (p + q.length) < 98 + k)) := by
  have hl : (symB q).length = q.length := by simp [symB]
  induction k with
  | zero =>
    show 0 = _
    rw [eq_comm, List.countP_eq_zero]
    intro p _
    simp only [Bool.and_eq_true, decide_eq_true_eq]
    omega
  | succ k ih =>
    show sumP t q k + occ (symL t) (symB q ++ [98 + k]) = _
    rw [ih, occ, ← countP_or]
    · refine List.countP_congr fun p _ => ?_
      rw [preQ_snoc, hl]
      simp only [Bool.or_eq_true, Bool.and_eq_true, decide_eq_true_eq]
      constructor
      · rintro (⟨h1, h2⟩ | ⟨h1, h2⟩)
        · exact ⟨h1, by omega⟩
        · exact ⟨h1, by omega⟩
      · rintro ⟨h1, h2⟩
        by_cases h3 : aN (symL t) (p + q.length) < 98 + k
        · exact .inl ⟨h1, by omega⟩
        · exact .inr ⟨h1, by omega⟩
    · intro p _
      rw [preQ_snoc, hl]
      simp only [Bool.and_eq_true, decide_eq_true_eq]
      omega
theorem occ_snoc_le (t q : List UInt8) (s : Nat) : occ (symL t) (symB q ++ [s]) ≤ occ (symL t) (symB q) := by
  unfold occ
  refine List.countP_mono_left fun p _ h => ?_
  rw [preQ_snoc, Bool.and_eq_true] at h
  exact h.1
theorem aN_end (t : List UInt8) : aN (symL t) t.length = 0 := by
  refine aN_some (x := 0) ?_
  unfold symL symB
  rw [List.getElem?_append_right (by simp)]
  simp
theorem countP_at (N x : Nat) (hx : x < N) (f : Nat → Bool) (hf : ∀ p, p < N → f p = true → p = x) : (List.range N).countP f = if f x = true then 1 else 0 := by
  induction N with
  | zero => omega
  | succ N ih =>
    rw [List.range_succ, List.countP_append]
    rcases Nat.lt_or_ge x N with h | h
    · rw [ih h (fun p hp => hf p (by omega))]
      have : f N = false := by
        cases hh : f N
        · rfl
        · have := hf N (by omega) hh; omega
      simp [List.countP_cons, this]
    · obtain rfl : x = N := by omega
      have : (List.range x).countP f = 0 := List.countP_eq_zero.2 fun p hp h => by
        have h1 : p < x := by simpa using hp
        have := hf p (by omega) h
        omega
      rw [this]
      simp [List.countP_cons]
/-- All patterns of one byte more, and where the pattern ends the text. -/
theorem sumP_all (t q : List UInt8) (hf : ∀ c ∈ t, 97 ≤ c.toNat ∧ c.toNat < 100) (hq : q.length ≤ t.length) : occ (symL t) (symB q) = sumP t q 3 + (if t.drop (t.length - q.length) = q then 1 else 0) := by
  rw [sumP_eq, occ]
  have hv : ∀ p, p < t.length + 1 → preQ (symL t) (symB q) p = true → (98 ≤ aN (symL t) (p + q.length) ∧ aN (symL t) (p + q.length) < 98 + 3) ∨ (p + q.length = t.length ∧ aN (symL t) (p + q.length) = 0) := by
    intro p hp h
    rcases Nat.lt_or_ge (p + q.length) t.length with h1 | h1
    · have hs : t[p + q.length]? = some t[p + q.length] := List.getElem?_eq_getElem h1
      have hb := hf _ (List.getElem_mem h1)
      rw [aN_symL t hs]
      exact .inl ⟨by omega, by omega⟩
    · have h2 : p + q.length = t.length := by
        rcases Nat.eq_zero_or_pos q.length with h3 | h3
        · omega
        · have h4 := (preQ_bytes t q p).1 h (q.length - 1) (q[q.length - 1]) (List.getElem?_eq_getElem (by omega))
          have := (List.getElem?_eq_some_iff.1 h4).1
          omega
      exact .inr ⟨h2, by rw [h2]; exact aN_end t⟩
  have hsplit : (List.range (symL t).length).countP (preQ (symL t) (symB q)) = (List.range (symL t).length).countP (fun p => (preQ (symL t) (symB q) p && decide (98 ≤ aN (symL t) (p + q.length) ∧ aN (symL t) (p + q.length) < 98 + (3 : Nat))) || (preQ (symL t) (symB q) p && decide (aN (symL t) (p + q.length) = 0))) := by
    refine List.countP_congr fun p hp => ?_
    have hp' : p < t.length + 1 := by simpa [symL_len] using hp
    simp only [Bool.or_eq_true, Bool.and_eq_true, decide_eq_true_eq]
    constructor
    · intro h
      rcases hv p hp' h with h1 | h1
      · exact .inl ⟨h, by omega⟩
      · exact .inr ⟨h, h1.2⟩
    · rintro (h | h)
      · exact h.1
      · exact h.1
  rw [hsplit, countP_or]
  · congr 1
    rw [symL_len, countP_at (t.length + 1) (t.length - q.length) (by omega)]
    · have he : aN (symL t) (t.length - q.length + q.length) = 0 := by rw [Nat.sub_add_cancel hq]; exact aN_end t
      have : (preQ (symL t) (symB q) (t.length - q.length) && decide (aN (symL t) (t.length - q.length + q.length) = 0)) = true ↔ t.drop (t.length - q.length) = q := by
        rw [he, Bool.and_eq_true, preQ_bytes]
        constructor
        · rintro ⟨h, _⟩
          apply List.ext_getElem?
          intro i
          rw [List.getElem?_drop]
          rcases Nat.lt_or_ge i q.length with h1 | h1
          · have h2 : q[i]? = some q[i] := List.getElem?_eq_getElem h1
            rw [h2, h i _ h2]
          · rw [List.getElem?_eq_none h1, List.getElem?_eq_none (by omega)]
        · intro h
          refine ⟨fun i c hc => ?_, by simp⟩
          rw [← List.getElem?_drop, h]
          exact hc
      by_cases h : t.drop (t.length - q.length) = q
      · rw [if_pos h, if_pos (this.2 h)]
      · rw [if_neg h, if_neg (fun h2 => h (this.1 h2))]
    · intro p hp h
      rw [Bool.and_eq_true, decide_eq_true_eq] at h
      rcases hv p hp h.1 with h1 | h1
      · omega
      · omega
  · intro p hp
    simp only [Bool.and_eq_true, decide_eq_true_eq]
    omega
/-- No letter of the text behind a pattern: none. -/
theorem occ_none (t q : List UInt8) (s : Nat) (hs : 0 < s) (h : ∀ c ∈ t, c.toNat + 1 ≠ s) : occ (symL t) (symB q ++ [s]) = 0 := by
  unfold occ
  rw [List.countP_eq_zero]
  intro p _ hp
  rw [preQ_snoc, Bool.and_eq_true, decide_eq_true_eq] at hp
  generalize p + (symB q).length = x at hp
  rcases Nat.lt_or_ge x t.length with h1 | h1
  · rw [aN_symL t (List.getElem?_eq_getElem h1)] at hp
    exact h _ (List.getElem_mem h1) (by omega)
  · rcases Nat.eq_or_lt_of_le h1 with h2 | h2
    · rw [← h2, aN_end] at hp
      omega
    · rw [aN_ge (by rw [symL_len]; omega)] at hp
      omega
theorem occ_cut {t : List UInt8} (k m : Nat) (hk : k ≤ t.length) : 1 ≤ occ (symL t) (symB ((t.drop k).take m)) := by
  refine occ_pos (p := k) hk (fun i c h => ?_)
  rw [List.getElem?_take] at h
  split at h
  · rw [List.getElem?_drop] at h; exact h
  · simp at h
end Go.Proofs.Ytdpknieiigibfaa
