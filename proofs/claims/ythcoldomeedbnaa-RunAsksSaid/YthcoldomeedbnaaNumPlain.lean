/- The plain laws of numbers as bytes: what num.Put and num.Get compute, on lists of bytes. No program in sight. -/
import Derived.Lib.Hide
namespace Go.Proofs.Ythcoldomeedbnaa

/-- The bytes ahead of the last one. -/
def preB : Nat → Nat → List UInt8
  | 0, _ => []
  | f + 1, n => if n = 0 then [] else preB f (n / 128) ++ [UInt8.ofNat (n % 128 + 128)]
/-- A number's bytes. -/
def encB (n : Nat) : List UInt8 := preB 10 (n / 128) ++ [UInt8.ofNat (n % 128)]
/-- Numbers' bytes. -/
def encAll (l : List Nat) : List UInt8 := l.flatMap encB

/-- The loop of num.Get over what is left of the bytes: is this the first byte, the number so far, the place. -/
def getGo : List UInt8 → Bool → Nat → Nat → Option (Nat × Nat)
  | [], _, _, _ => none
  | c :: r, first, acc, pos =>
    if (first && c.toNat == 128) || decide (144115188075855871 < acc) then none
    else if c.toNat < 128 then some (acc * 128 + c.toNat % 128, pos + 1) else getGo r false (acc * 128 + c.toNat % 128) (pos + 1)
/-- The number that begins at a place, where it ends, a code. -/
def getB (l : List UInt8) (at_ : Int) : Nat × Int × Int :=
  if at_ < 0 ∨ (l.length : Int) < at_ then (0, at_, 2)
  else match getGo (l.drop at_.toNat) true 0 at_.toNat with
    | some (n, p) => (n, p, 0)
    | none => (0, at_, 4)
/-- A number's first k of four bytes, the lowest first. -/
def fixN : Nat → Nat → List UInt8
  | 0, _ => []
  | k + 1, n => fixN k n ++ [UInt8.ofNat (n / 256 ^ k % 256)]
/-- A number's four bytes. -/
def fixB (n : Nat) : List UInt8 := fixN 4 n
/-- The number that the first k bytes from a place on make. -/
def ofN (l : List UInt8) (a : Nat) : Nat → Nat
  | 0 => 0
  | k + 1 => ofN l a k + (l[a + k]?.getD 0).toNat * 256 ^ k
/-- The number of four bytes, a code. -/
def ofB (l : List UInt8) (at_ : Int) : Nat × Int :=
  if at_ < 0 ∨ (l.length : Int) < at_ then (0, 2) else if (l.length : Int) - at_ < 4 then (0, 4) else (ofN l at_.toNat 4, 0)
theorem ofN_lt (l : List UInt8) (a : Nat) (k : Nat) : ofN l a k < 256 ^ k := by
  induction k with
  | zero => simp [ofN]
  | succ k ih =>
    have : (l[a + k]?.getD 0).toNat < 256 := UInt8.toNat_lt _
    simp only [ofN, Nat.pow_succ]
    have h2 : (l[a + k]?.getD 0).toNat * 256 ^ k ≤ 255 * 256 ^ k := Nat.mul_le_mul_right _ (by omega)
    omega
theorem getGo_cons (c : UInt8) (r : List UInt8) (first : Bool) (acc pos : Nat) : getGo (c :: r) first acc pos =
    if (first && c.toNat == 128) || decide (144115188075855871 < acc) then none
    else if c.toNat < 128 then some (acc * 128 + c.toNat % 128, pos + 1) else getGo r false (acc * 128 + c.toNat % 128) (pos + 1) := by conv => lhs; rw [getGo]
theorem preB_zero (f : Nat) : preB f 0 = [] := by cases f <;> simp [preB]
theorem preB_more (f : Nat) : ∀ n, n < 128 ^ f → preB (f + 1) n = preB f n := by
  induction f with
  | zero => intro n h; have : n = 0 := by simpa using h
            subst this; simp [preB]
  | succ f ih =>
    intro n h
    by_cases h0 : n = 0
    · subst h0; simp [preB_zero]
    · rw [preB, if_neg h0, ih (n / 128) (by rw [Nat.div_lt_iff_lt_mul (by omega)]; rw [Nat.pow_succ] at h; exact h)]
      conv => rhs; rw [preB, if_neg h0]
theorem preB_step (n : Nat) (h0 : n ≠ 0) (h : n < 128 ^ 10) : preB 10 n = preB 10 (n / 128) ++ [UInt8.ofNat (n % 128 + 128)] := by
  rw [preB_more 9 (n / 128) (by omega)]
  conv => lhs; rw [preB, if_neg h0]
theorem preB_len (f : Nat) : ∀ n, (preB f n).length ≤ f := by
  induction f with
  | zero => intro n; simp [preB]
  | succ f ih =>
    intro n
    unfold preB
    split
    · simp
    · have := ih (n / 128); simp; omega
theorem encB_len (n : Nat) : (encB n).length ≤ 11 := by
  have := preB_len 10 (n / 128)
  simp [encB]; omega
theorem encAll_len (l : List Nat) : (encAll l).length ≤ 11 * l.length := by
  induction l with
  | nil => simp [encAll]
  | cons a l ih =>
    have := encB_len a
    simp [encAll] at ih ⊢
    omega
theorem encAll_snoc (l : List Nat) (k : Nat) (n : Nat) (h : l[k]? = some n) : encAll (l.take (k + 1)) = encAll (l.take k) ++ encB n := by
  have hk : k < l.length := (List.getElem?_eq_some_iff.1 h).1
  rw [List.take_succ_eq_append_getElem hk]
  have : l[k] = n := (List.getElem?_eq_some_iff.1 h).2
  rw [this]
  simp [encAll, List.flatMap_append]
theorem mid_pos (n i j : Nat) (h : i + 1 ≤ j) (hg : j = 0 ∨ 1 ≤ n / 2 ^ (7 * j)) : n / 2 ^ (7 * (i + 1)) ≠ 0 := by
  have h1 : 1 ≤ n / 2 ^ (7 * j) := by rcases hg with h0 | h0 <;> omega
  have h2 : n / 2 ^ (7 * j) ≤ n / 2 ^ (7 * (i + 1)) := Nat.div_le_div_left (Nat.pow_le_pow_right (by omega) (by omega)) (Nat.pow_pos (by omega))
  omega
theorem mid_lt (n i : Nat) (h : n < 18446744073709551616) : n / 2 ^ (7 * (i + 1)) < 128 ^ 9 := by
  have h2 : n / 2 ^ (7 * (i + 1)) ≤ n / 2 ^ 7 := Nat.div_le_div_left (Nat.pow_le_pow_right (by omega) (by omega)) (Nat.pow_pos (by omega))
  omega
theorem pow7 (j : Nat) : 2 ^ (7 * j) = 128 ^ j := by rw [Nat.pow_mul]
theorem div7 (n j : Nat) : n / 2 ^ (7 * (j + 1)) = n / 2 ^ (7 * j) / 128 := by
  rw [Nat.div_div_eq_div_mul, show 7 * (j + 1) = 7 * j + 7 by omega, Nat.pow_add]
theorem shift_top (n j : Nat) (h : n < 18446744073709551616) (hj : j ≤ 9) (hg : 128 ≤ n / 2 ^ (7 * j)) : j + 1 ≤ 9 := by
  by_cases h9 : j = 9
  · subst h9
    rw [Nat.le_div_iff_mul_le (by decide)] at hg
    omega
  · omega
end Go.Proofs.Ythcoldomeedbnaa
