/- Plain laws: the backward search over a transform counts where a pattern stands. No conditions. -/
import Derived.Test.YtdpknieiigibfaaFnFind
namespace Go.Proofs.Ytdpknieiigibfaa
set_option linter.unusedVariables false
set_option linter.unusedSimpArgs false
/-- The suffix from p on is less than the pattern, or (b) begins with it. -/
def Pq (l : List Nat) (b : Bool) : List Nat → Nat → Bool
  | [], _ => b
  | s :: q, p => decide (aN l p < (s : Int)) || (decide (aN l p = (s : Int)) && Pq l b q (p + 1))
/-- The suffix from p on begins with the pattern. -/
def preQ (l : List Nat) : List Nat → Nat → Bool
  | [], _ => true
  | s :: q, p => decide (aN l p = (s : Int)) && preQ l q (p + 1)
theorem Pq_cons (l : List Nat) (b : Bool) (s : Nat) (q : List Nat) (p : Nat) : Pq l b (s :: q) p = (decide (aN l p < (s : Int)) || (decide (aN l p = (s : Int)) && Pq l b q (p + 1))) := rfl
theorem preQ_cons (l : List Nat) (s : Nat) (q : List Nat) (p : Nat) : preQ l (s :: q) p = (decide (aN l p = (s : Int)) && preQ l q (p + 1)) := rfl
theorem sufLt_step (l : List Nat) (p q : Nat) : sufLt l p q ↔ aN l p < aN l q ∨ (aN l p = aN l q ∧ sufLt l (p + 1) (q + 1)) := by
  constructor
  · rintro ⟨w, k, hk, h1, h2⟩
    rcases k with _ | k
    · exact .inl h2
    · refine .inr ⟨h1 0 (by omega), w, k, by omega, fun m hm => ?_, ?_⟩
      · have := h1 (m + 1) (by omega)
        rwa [show p + (m + 1) = p + 1 + m by omega, show q + (m + 1) = q + 1 + m by omega] at this
      · rwa [show p + (k + 1) = p + 1 + k by omega, show q + (k + 1) = q + 1 + k by omega] at h2
  · rintro (h | ⟨h0, w, k, hk, h1, h2⟩)
    · exact ⟨1, 0, by omega, fun m hm => absurd hm (by omega), h⟩
    · refine ⟨w + 1, k + 1, by omega, fun m hm => ?_, ?_⟩
      · rcases m with _ | m
        · exact h0
        · have := h1 m (by omega)
          rwa [show p + (m + 1) = p + 1 + m by omega, show q + (m + 1) = q + 1 + m by omega]
      · rwa [show p + (k + 1) = p + 1 + k by omega, show q + (k + 1) = q + 1 + k by omega]
theorem Pq_down {l : List Nat} {b : Bool} (q : List Nat) : ∀ {p p' : Nat}, sufLt l p' p → Pq l b q p = true → Pq l b q p' = true := by
  induction q with
  | nil => intro p p' _ h; exact h
  | cons s q ih =>
    intro p p' hlt h
    unfold Pq at h ⊢
    simp only [Bool.or_eq_true, Bool.and_eq_true, decide_eq_true_eq] at h ⊢
    rcases (sufLt_step l p' p).1 hlt with h1 | ⟨h1, h2⟩
    · rcases h with h | ⟨h, _⟩
      · exact .inl (by omega)
      · exact .inl (by omega)
    · rcases h with h | ⟨h, h3⟩
      · exact .inl (by omega)
      · exact .inr ⟨by omega, ih h2 h3⟩
/-- A predicate that is downward closed holds of the first ones of a sorted list. -/
theorem take_down {R : Nat → Nat → Prop} {P : Nat → Bool} {rs : List Nat} (hs : rs.Pairwise R) (hd : ∀ x y, R x y → P y = true → P x = true) : rs.take (rs.countP P) = rs.filter P := by
  induction rs with
  | nil => rfl
  | cons x l ih =>
    obtain ⟨h1, h2⟩ := List.pairwise_cons.1 hs
    rw [List.countP_cons, List.filter_cons]
    by_cases hx : P x = true
    · simp only [hx, if_true]
      rw [List.take_succ_cons, ih h2]
    · have h0 : ∀ y ∈ l, ¬ P y = true := fun y hy hp => hx (hd x y (h1 y hy) hp)
      have hc : l.countP P = 0 := List.countP_eq_zero.2 h0
      have hf : l.filter P = [] := List.filter_eq_nil_iff.2 h0
      simp [hx, hc, hf]
/-- How many suffixes are less than the pattern (or begin with it). -/
def Nq (l : List Nat) (b : Bool) (q : List Nat) : Nat := (List.range l.length).countP (Pq l b q)
theorem IsSuf.count {l rs : List Nat} (h : IsSuf l rs) (P : Nat → Bool) : rs.countP P = (List.range l.length).countP P := h.perm.countP_eq P
theorem Nq_le (l : List Nat) (b : Bool) (q : List Nat) : Nq l b q ≤ l.length := by
  unfold Nq
  have := List.countP_le_length (p := Pq l b q) (l := List.range l.length)
  simpa using this
theorem take_count {l rs : List Nat} (h : IsSuf l rs) (b : Bool) (q : List Nat) (s : Nat) : ((lastL l rs).take (Nq l b q)).count s = (List.range l.length).countP (fun p => decide (prevL l p = s) && Pq l b q p) := by
  have e1 : Nq l b q = rs.countP (Pq l b q) := (h.count _).symm
  rw [e1, lastL, ← List.map_take, take_down h.sorted (fun x y hxy hy => Pq_down q hxy hy), ← h.count, List.count_eq_countP, List.countP_map, List.countP_filter]
  refine List.countP_congr fun p _ => ?_
  simp [Function.comp, and_comm]
theorem prevL_zero {l : List Nat} (h : 0 < l.length) : prevL l 0 = l.getD (l.length - 1) 0 := by
  unfold prevL
  rw [Nat.zero_add, Nat.mod_eq_of_lt (by omega)]
theorem prevL_succ {l : List Nat} {p : Nat} (h : p + 1 < l.length) : prevL l (p + 1) = l.getD p 0 := by
  unfold prevL
  rw [show p + 1 + l.length - 1 = p + l.length by omega, Nat.add_mod_right, Nat.mod_eq_of_lt (by omega)]
theorem aN_getD {l : List Nat} {p : Nat} (h : p < l.length) : aN l p = ((l.getD p 0 : Nat) : Int) := by
  rw [aN_lt h, List.getD_eq_getElem?_getD, List.getElem?_eq_getElem h]
  rfl
/-- Counting over the places ahead. -/
theorem count_prev {m : Nat} (f : Nat → Bool) (g : Nat → Bool) (h0 : f 0 = g m) (h1 : ∀ p, p < m → f (p + 1) = g p) : (List.range (m + 1)).countP f = (List.range (m + 1)).countP g := by
  rw [List.range_succ_eq_map, List.countP_cons, List.countP_map, ← List.range_succ_eq_map, List.range_succ, List.countP_append, List.countP_cons, List.countP_nil, Nat.zero_add, h0]
  congr 1
  refine List.countP_congr fun p hp => ?_
  have hp' : p < m := by simpa using hp
  simp [Function.comp, h1 p hp']
theorem countP_or {α : Type} (l : List α) (f g : α → Bool) (h : ∀ x ∈ l, ¬ (f x = true ∧ g x = true)) : l.countP (fun x => f x || g x) = l.countP f + l.countP g := by
  induction l with
  | nil => rfl
  | cons x l ih =>
    rw [List.countP_cons, List.countP_cons, List.countP_cons, ih (fun y hy => h y (by simp [hy]))]
    have := h x (by simp)
    cases hf : f x <;> cases hg : g x <;> simp_all <;> omega
/-- The text's end is the last symbol, and nowhere else. -/
structure EndOk (l : List Nat) (m : Nat) : Prop where
  len : l.length = m + 1
  last : l.getD m 0 = 0
  pos : ∀ p, p < m → 0 < l.getD p 0
theorem narL_Nq {l rs : List Nat} {m : Nat} (h : IsSuf l rs) (he : EndOk l m) (b : Bool) (q : List Nat) (s : Nat) (hs : 0 < s) : narL (lastL l rs) s (Nq l b q) = Nq l b (s :: q) := by
  have hlen := he.len
  unfold narL
  rw [take_count h]
  have e1 : (lastL l rs).countP (fun x => decide (x < s)) = (List.range (m + 1)).countP (fun p => decide (l.getD p 0 < s)) := by
    rw [lastL, List.countP_map, h.count, hlen]
    refine count_prev _ _ ?_ fun p hp => ?_
    · show decide (prevL l 0 < s) = _
      rw [prevL_zero (by omega), hlen, Nat.add_sub_cancel]
    · show decide (prevL l (p + 1) < s) = _
      rw [prevL_succ (by omega)]
  have e2 : (List.range l.length).countP (fun p => decide (prevL l p = s) && Pq l b q p) = (List.range (m + 1)).countP (fun p => decide (l.getD p 0 = s) && Pq l b q (p + 1)) := by
    rw [hlen]
    refine count_prev _ _ ?_ fun p hp => ?_
    · show (decide (prevL l 0 = s) && _) = (decide (l.getD m 0 = s) && _)
      rw [prevL_zero (by omega), hlen, Nat.add_sub_cancel, he.last]
      have : decide (0 = s) = false := by simp; omega
      rw [this]
      rfl
    · show (decide (prevL l (p + 1) = s) && _) = _
      rw [prevL_succ (by omega)]
  rw [e1, e2, ← countP_or]
  · unfold Nq
    rw [hlen]
    refine List.countP_congr fun p hp => ?_
    have hp' : p < m + 1 := by simpa using hp
    rw [Pq_cons, aN_getD (by omega)]
    have f1 : decide (((l.getD p 0 : Nat) : Int) < (s : Int)) = decide (l.getD p 0 < s) := by rw [decide_eq_decide]; omega
    have f2 : decide (((l.getD p 0 : Nat) : Int) = (s : Int)) = decide (l.getD p 0 = s) := by rw [decide_eq_decide]; omega
    rw [f1, f2]
  · intro p _
    simp only [Bool.and_eq_true, decide_eq_true_eq]
    rintro ⟨h1, h2, _⟩
    omega
theorem Nq_nil (l : List Nat) : Nq l false [] = 0 ∧ Nq l true [] = l.length := by
  constructor
  · unfold Nq
    exact List.countP_eq_zero.2 fun _ _ h => by simp [Pq] at h
  · unfold Nq
    have := (List.countP_eq_length (p := Pq l true []) (l := List.range l.length)).2 (fun _ _ => rfl)
    rw [this]
    simp
/-- A pattern's symbols. -/
theorem rowsN_Nq {l rs : List Nat} {m : Nat} (h : IsSuf l rs) (he : EndOk l m) (p : List UInt8) : rowsN (lastL l rs) p = (Nq l false (symB p), Nq l true (symB p)) := by
  have hL : (lastL l rs).length = l.length := by rw [lastL_len, h.len]
  unfold rowsN
  rw [hL]
  induction p with
  | nil =>
    obtain ⟨h1, h2⟩ := Nq_nil l
    show (0, l.length) = (Nq l false [], Nq l true [])
    rw [h1, h2]
  | cons c p ih =>
    rw [List.reverse_cons, List.foldl_append, ih]
    show (narL _ (c.toNat + 1) (Nq l false (symB p)), narL _ (c.toNat + 1) (Nq l true (symB p))) = _
    rw [narL_Nq h he _ _ _ (by omega), narL_Nq h he _ _ _ (by omega)]
    rfl
theorem symL_end (t : List UInt8) : EndOk (symL t) t.length := by
  refine ⟨symL_len t, ?_, fun p hp => ?_⟩
  · unfold symL symB
    rw [List.getD_eq_getElem?_getD, List.getElem?_append_right (by simp)]
    simp
  · unfold symL symB
    rw [List.getD_eq_getElem?_getD, List.getElem?_append_left (by simpa using hp), List.getElem?_map, List.getElem?_eq_getElem hp]
    simp
theorem Pq_or (l : List Nat) (q : List Nat) : ∀ p, Pq l true q p = (Pq l false q p || preQ l q p) ∧ ¬ (Pq l false q p = true ∧ preQ l q p = true) := by
  induction q with
  | nil => intro p; exact ⟨rfl, fun h => by simp [Pq] at h⟩
  | cons s q ih =>
    intro p
    obtain ⟨h1, h2⟩ := ih (p + 1)
    rw [Pq_cons, Pq_cons, preQ_cons, h1]
    by_cases h3 : aN l p < (s : Int)
    · have : ¬ aN l p = (s : Int) := by omega
      simp [h3, this]
    · by_cases h4 : aN l p = (s : Int)
      · have e3 : decide (aN l p < (s : Int)) = false := by simpa using h3
        have e4 : decide (aN l p = (s : Int)) = true := by simpa using h4
        rw [e3, e4, Bool.false_or, Bool.true_and, Bool.false_or, Bool.true_and, Bool.true_and]
        exact ⟨rfl, h2⟩
      · simp [h3, h4]
/-- How often a pattern stands. -/
def occ (l : List Nat) (q : List Nat) : Nat := (List.range l.length).countP (preQ l q)
theorem Nq_occ (l : List Nat) (q : List Nat) : Nq l true q = Nq l false q + occ l q := by
  unfold Nq occ
  rw [← countP_or _ _ _ fun p _ => (Pq_or l q p).2]
  exact List.countP_congr fun p _ => by rw [(Pq_or l q p).1]
/-- The count of a pattern in a text. -/
theorem count_occ {t : List UInt8} {rs : List Nat} (h : IsSuf (symL t) rs) (p : List UInt8) : (rowsN (lastL (symL t) rs) p).2 - (rowsN (lastL (symL t) rs) p).1 = occ (symL t) (symB p) := by
  rw [rowsN_Nq h (symL_end t), Nq_occ]
  omega
end Go.Proofs.Ytdpknieiigibfaa
