/- Bits in a word: the plain laws behind block. No program in sight. No conditions. -/
import Derived.Test.YtdpknieiigibfaaFnPop
namespace Go.Proofs.Ytdpknieiigibfaa
/-- The number whose first bits are these. -/
def encW : List Bool → Nat
  | [] => 0
  | b :: l => (if b then 1 else 0) + 2 * encW l
theorem encW_lt (l : List Bool) : encW l < 2 ^ l.length := by
  induction l with
  | nil => simp [encW]
  | cons b l ih =>
    simp only [encW, List.length_cons, Nat.pow_succ]
    cases b <;> simp <;> omega
theorem encW_bit (l : List Bool) (k : Nat) : (encW l).testBit k = l.getD k false := by
  induction l generalizing k with
  | nil => simp [encW]
  | cons b l ih =>
    cases k with
    | zero =>
      simp only [encW, List.getD_cons_zero, Nat.testBit_zero]
      cases b <;> simp <;> omega
    | succ k =>
      have h : ((if b then 1 else 0) + 2 * encW l) / 2 = encW l := by cases b <;> simp <;> omega
      simp only [encW, List.getD_cons_succ, Nat.testBit_succ, h]
      exact ih k
theorem encW_append (a b : List Bool) : encW (a ++ b) = encW a + 2 ^ a.length * encW b := by
  induction a with
  | nil => simp [encW]
  | cons x a ih =>
    simp only [List.cons_append, encW, ih, List.length_cons, Nat.pow_succ]
    cases x <;> simp <;> rw [Nat.mul_add, ← Nat.mul_assoc, Nat.mul_comm 2 (2 ^ a.length)] <;> omega
theorem encW_ones (l : List Bool) (n : Nat) : ones (encW l) n = (l.take n).count true := by
  induction n with
  | zero => simp [ones_zero]
  | succ n ih =>
    rw [ones_succ, ih, encW_bit, List.take_add_one, List.count_append]
    cases h : l[n]? with
    | none => simp [List.getD_eq_getElem?_getD, h]
    | some b => cases b <;> simp [List.getD_eq_getElem?_getD, h]
/-- One bit more. -/
theorem encW_snoc (l : List Bool) (b : Bool) : encW (l ++ [b]) = encW l + if b then 2 ^ l.length else 0 := by
  rw [encW_append]
  cases b <;> simp [encW]
theorem or_top (a k : Nat) (h : a < 2 ^ k) : a ||| 2 ^ k = a + 2 ^ k := by
  have := Nat.two_pow_add_eq_or_of_lt h 1
  rw [Nat.mul_one] at this
  rw [Nat.or_comm, ← this, Nat.add_comm]
/-- The words of up to 128 bits. -/
def w0 (l : List Bool) : Nat := encW (l.take 64)
def w1 (l : List Bool) : Nat := encW (l.drop 64)
theorem w0_lt (l : List Bool) : w0 l < 18446744073709551616 := by
  have h := encW_lt (l.take 64)
  have h2 : (l.take 64).length ≤ 64 := by rw [List.length_take]; omega
  have h3 := Nat.pow_le_pow_right (n := 2) (by decide) h2
  unfold w0
  omega
theorem w1_lt (l : List Bool) (hl : l.length ≤ 128) : w1 l < 18446744073709551616 := by
  have h := encW_lt (l.drop 64)
  have h2 : (l.drop 64).length ≤ 64 := by rw [List.length_drop]; omega
  have h3 := Nat.pow_le_pow_right (n := 2) (by decide) h2
  unfold w1
  omega
theorem w_ones (l : List Bool) (hl : l.length ≤ 128) : ones (w0 l) 64 + ones (w1 l) 64 = l.count true := by
  unfold w0 w1
  rw [encW_ones, encW_ones, List.take_take, Nat.min_self, List.take_of_length_le (l := l.drop 64) (by rw [List.length_drop]; omega), ← List.count_append, List.take_append_drop]
/-- How many of the first k bits are 1, by words. -/
theorem w_rank (l : List Bool) (k : Nat) (hl : l.length ≤ 128) (hk : k ≤ l.length) : ones (w0 l) (min k 64) + ones (w1 l) (min (k - 64) 64) = (l.take k).count true := by
  unfold w0 w1
  rw [encW_ones, encW_ones, List.take_take]
  rcases Nat.lt_or_ge k 64 with h | h
  · have e1 : min (min k 64) 64 = k := by omega
    have e2 : min (k - 64) 64 = 0 := by omega
    rw [e1, e2, List.take_zero, List.count_nil, Nat.add_zero]
  · have e1 : min (min k 64) 64 = 64 := by omega
    have e2 : min (k - 64) 64 = k - 64 := by omega
    rw [e1, e2, ← List.count_append]
    congr 1
    rw [← List.take_append_drop 64 (l.take k), List.take_take, List.drop_take]
    congr 2
    omega
/-- The words behind one bit more. -/
theorem w_snoc_lo (l : List Bool) (b : Bool) (h : l.length < 64) : w0 (l ++ [b]) = w0 l + (if b then 2 ^ l.length else 0) ∧ w1 (l ++ [b]) = w1 l := by
  unfold w0 w1
  rw [List.take_of_length_le (by simp; omega), List.take_of_length_le (by omega), List.drop_of_length_le (by simp; omega), List.drop_of_length_le (by omega)]
  exact ⟨encW_snoc l b, rfl⟩
theorem w_snoc_hi (l : List Bool) (b : Bool) (h : 64 ≤ l.length) : w0 (l ++ [b]) = w0 l ∧ w1 (l ++ [b]) = w1 l + (if b then 2 ^ (l.length - 64) else 0) := by
  unfold w0 w1
  rw [List.take_append_of_le_length h, List.drop_append_of_le_length h, encW_snoc, List.length_drop]
  exact ⟨rfl, rfl⟩
theorem w0_small (l : List Bool) (h : l.length < 64) : w0 l < 2 ^ l.length := by
  unfold w0
  rw [List.take_of_length_le (by omega)]
  exact encW_lt l
theorem w1_small (l : List Bool) : w1 l < 2 ^ (l.length - 64) := by
  unfold w1
  have := encW_lt (l.drop 64)
  rwa [List.length_drop] at this
end Go.Proofs.Ytdpknieiigibfaa
