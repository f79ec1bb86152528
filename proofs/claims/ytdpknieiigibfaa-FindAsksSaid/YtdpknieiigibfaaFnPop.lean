/- How many bits of a word are 1: the plain law behind math/bits.OnesCount64. No program in sight. No conditions. -/
namespace Go.Proofs.Ytdpknieiigibfaa
/-- How many of the first n bits of x are 1. -/
def ones (x n : Nat) : Nat := (List.range n).countP (fun i => x.testBit i)
theorem ones_zero (x : Nat) : ones x 0 = 0 := rfl
theorem ones_succ (x n : Nat) : ones x (n + 1) = ones x n + if x.testBit n then 1 else 0 := by
  unfold ones
  rw [List.range_succ, List.countP_append, List.countP_singleton]
theorem ones_le (x n : Nat) : ones x n ≤ n := by
  induction n with
  | zero => exact Nat.le_refl _
  | succ n ih =>
    rw [ones_succ]
    split <;> omega
theorem ones_add (x n m : Nat) : ones x (n + m) = ones x n + ones (x >>> n) m := by
  induction m with
  | zero => simp [ones_zero]
  | succ m ih =>
    rw [← Nat.add_assoc, ones_succ, ih, ones_succ, Nat.testBit_shiftRight]
    omega
theorem ones_mod (x n : Nat) : ones (x % 2 ^ n) n = ones x n := by
  unfold ones
  apply List.countP_congr
  intro i hi
  have := List.mem_range.1 hi
  simp [Nat.testBit_mod_two_pow, this]
/-- A byte ahead of a number. -/
theorem lane_and (A a M m : Nat) (ha : a < 256) (hm : m < 256) : (256 * A + a) &&& (256 * M + m) = 256 * (A &&& M) + (a &&& m) := by
  apply Nat.eq_of_testBit_eq
  intro i
  have h1 : (a &&& m) < 256 := Nat.lt_of_le_of_lt Nat.and_le_left ha
  rw [Nat.testBit_and, show (256 : Nat) = 2 ^ 8 by decide, Nat.testBit_two_pow_mul_add _ (by simpa using ha), Nat.testBit_two_pow_mul_add _ (by simpa using hm), Nat.testBit_two_pow_mul_add _ (by simpa using h1)]
  by_cases hi : i < 8
  · simp [hi, Nat.testBit_and]
  · simp [hi, Nat.testBit_and]
theorem lane_shift (A a M m s : Nat) (ha : a < 256) (hs : s ≤ 8) (hm : m < 2 ^ (8 - s)) : ((256 * A + a) >>> s) &&& (256 * M + m) = 256 * ((A >>> s) &&& M) + ((a >>> s) &&& m) := by
  apply Nat.eq_of_testBit_eq
  intro i
  have hm8 : m < 2 ^ 8 := Nat.lt_of_lt_of_le hm (Nat.pow_le_pow_right (by decide) (by omega))
  have h1 : ((a >>> s) &&& m) < 2 ^ 8 := Nat.lt_of_le_of_lt Nat.and_le_right hm8
  rw [Nat.testBit_and, Nat.testBit_shiftRight, show (256 : Nat) = 2 ^ 8 by decide, Nat.testBit_two_pow_mul_add _ (by simpa using ha), Nat.testBit_two_pow_mul_add _ hm8, Nat.testBit_two_pow_mul_add _ h1]
  by_cases hi : i < 8
  · by_cases h2 : s + i < 8
    · simp [hi, h2, Nat.testBit_and]
    · have h3 : m.testBit i = false := Nat.testBit_lt_two_pow (Nat.lt_of_lt_of_le hm (Nat.pow_le_pow_right (by decide) (by omega)))
      simp [hi, h2, Nat.testBit_and, h3]
  · have h2 : ¬ (s + i < 8) := by omega
    have h3 : s + i - 8 = s + (i - 8) := by omega
    simp [hi, h2, h3, Nat.testBit_and]
/-- The three first steps of one byte. -/
def b1 (a : Nat) : Nat := (a >>> 1 &&& 85) + (a &&& 85)
def b2 (a : Nat) : Nat := (a >>> 2 &&& 51) + (a &&& 51)
theorem b_ok : ∀ a : Fin 256, b1 a.val < 256 ∧ b2 (b1 a.val) / 16 ≤ 4 ∧ b2 (b1 a.val) % 16 ≤ 4 ∧ b2 (b1 a.val) % 16 + b2 (b1 a.val) / 16 = ones a.val 8 := by decide +kernel
theorem b_at (a : Nat) (h : a < 256) : b1 a < 256 ∧ b2 (b1 a) / 16 ≤ 4 ∧ b2 (b1 a) % 16 ≤ 4 ∧ b2 (b1 a) % 16 + b2 (b1 a) / 16 = ones a 8 := b_ok ⟨a, h⟩
/-- Eight bytes. -/
def eight (a0 a1 a2 a3 a4 a5 a6 a7 : Nat) : Nat := 256 * (256 * (256 * (256 * (256 * (256 * (256 * (256 * 0 + a7) + a6) + a5) + a4) + a3) + a2) + a1) + a0
theorem eight_step (a0 a1 a2 a3 a4 a5 a6 a7 s m : Nat) (h0 : a0 < 256) (h1 : a1 < 256) (h2 : a2 < 256) (h3 : a3 < 256) (h4 : a4 < 256) (h5 : a5 < 256) (h6 : a6 < 256) (h7 : a7 < 256) (hs : s ≤ 8) (hm : m < 2 ^ (8 - s)) :
    (eight a0 a1 a2 a3 a4 a5 a6 a7 >>> s) &&& eight m m m m m m m m = eight (a0 >>> s &&& m) (a1 >>> s &&& m) (a2 >>> s &&& m) (a3 >>> s &&& m) (a4 >>> s &&& m) (a5 >>> s &&& m) (a6 >>> s &&& m) (a7 >>> s &&& m) := by
  unfold eight
  rw [lane_shift _ _ _ _ _ h0 hs hm, lane_shift _ _ _ _ _ h1 hs hm, lane_shift _ _ _ _ _ h2 hs hm, lane_shift _ _ _ _ _ h3 hs hm, lane_shift _ _ _ _ _ h4 hs hm, lane_shift _ _ _ _ _ h5 hs hm, lane_shift _ _ _ _ _ h6 hs hm, lane_shift _ _ _ _ _ h7 hs hm]
  simp
theorem eight_and (a0 a1 a2 a3 a4 a5 a6 a7 m : Nat) (h0 : a0 < 256) (h1 : a1 < 256) (h2 : a2 < 256) (h3 : a3 < 256) (h4 : a4 < 256) (h5 : a5 < 256) (h6 : a6 < 256) (h7 : a7 < 256) (hm : m < 256) :
    eight a0 a1 a2 a3 a4 a5 a6 a7 &&& eight m m m m m m m m = eight (a0 &&& m) (a1 &&& m) (a2 &&& m) (a3 &&& m) (a4 &&& m) (a5 &&& m) (a6 &&& m) (a7 &&& m) := by
  have := eight_step a0 a1 a2 a3 a4 a5 a6 a7 0 m h0 h1 h2 h3 h4 h5 h6 h7 (by omega) (by simpa using hm)
  simpa using this
theorem eight_add (a0 a1 a2 a3 a4 a5 a6 a7 c0 c1 c2 c3 c4 c5 c6 c7 : Nat) :
    eight a0 a1 a2 a3 a4 a5 a6 a7 + eight c0 c1 c2 c3 c4 c5 c6 c7 = eight (a0 + c0) (a1 + c1) (a2 + c2) (a3 + c3) (a4 + c4) (a5 + c5) (a6 + c6) (a7 + c7) := by
  unfold eight
  omega
/-- What OnesCount64 makes of a word, ahead of the last sums. -/
def swar3 (x : Nat) : Nat :=
  let y1 := (x >>> 1 &&& 6148914691236517205) + (x &&& 6148914691236517205)
  let y2 := (y1 >>> 2 &&& 3689348814741910323) + (y1 &&& 3689348814741910323)
  (y2 >>> 4 + y2) &&& 1085102592571150095
theorem eight_of (x : Nat) (h : x < 18446744073709551616) : x = eight (x % 256) (x / 256 % 256) (x / 65536 % 256) (x / 16777216 % 256) (x / 4294967296 % 256) (x / 1099511627776 % 256) (x / 281474976710656 % 256) (x / 72057594037927936 % 256) := by
  unfold eight
  omega
theorem swar_eight (a0 a1 a2 a3 a4 a5 a6 a7 : Nat) (h0 : a0 < 256) (h1 : a1 < 256) (h2 : a2 < 256) (h3 : a3 < 256) (h4 : a4 < 256) (h5 : a5 < 256) (h6 : a6 < 256) (h7 : a7 < 256) :
    swar3 (eight a0 a1 a2 a3 a4 a5 a6 a7) = eight (ones a0 8) (ones a1 8) (ones a2 8) (ones a3 8) (ones a4 8) (ones a5 8) (ones a6 8) (ones a7 8) := by
  have m1 : (6148914691236517205 : Nat) = eight 85 85 85 85 85 85 85 85 := by decide
  have m2 : (3689348814741910323 : Nat) = eight 51 51 51 51 51 51 51 51 := by decide
  have m3 : (1085102592571150095 : Nat) = eight 15 15 15 15 15 15 15 15 := by decide
  obtain ⟨p0, q0, u0, r0⟩ := b_at a0 h0
  obtain ⟨p1, q1, u1, r1⟩ := b_at a1 h1
  obtain ⟨p2, q2, u2, r2⟩ := b_at a2 h2
  obtain ⟨p3, q3, u3, r3⟩ := b_at a3 h3
  obtain ⟨p4, q4, u4, r4⟩ := b_at a4 h4
  obtain ⟨p5, q5, u5, r5⟩ := b_at a5 h5
  obtain ⟨p6, q6, u6, r6⟩ := b_at a6 h6
  obtain ⟨p7, q7, u7, r7⟩ := b_at a7 h7
  have e1 : (eight a0 a1 a2 a3 a4 a5 a6 a7 >>> 1 &&& 6148914691236517205) + (eight a0 a1 a2 a3 a4 a5 a6 a7 &&& 6148914691236517205) = eight (b1 a0) (b1 a1) (b1 a2) (b1 a3) (b1 a4) (b1 a5) (b1 a6) (b1 a7) := by
    rw [m1, eight_step _ _ _ _ _ _ _ _ 1 85 h0 h1 h2 h3 h4 h5 h6 h7 (by omega) (by decide), eight_and _ _ _ _ _ _ _ _ 85 h0 h1 h2 h3 h4 h5 h6 h7 (by omega), eight_add]
    rfl
  have e2 : (eight (b1 a0) (b1 a1) (b1 a2) (b1 a3) (b1 a4) (b1 a5) (b1 a6) (b1 a7) >>> 2 &&& 3689348814741910323) + (eight (b1 a0) (b1 a1) (b1 a2) (b1 a3) (b1 a4) (b1 a5) (b1 a6) (b1 a7) &&& 3689348814741910323) = eight (b2 (b1 a0)) (b2 (b1 a1)) (b2 (b1 a2)) (b2 (b1 a3)) (b2 (b1 a4)) (b2 (b1 a5)) (b2 (b1 a6)) (b2 (b1 a7)) := by
    rw [m2, eight_step _ _ _ _ _ _ _ _ 2 51 p0 p1 p2 p3 p4 p5 p6 p7 (by omega) (by decide), eight_and _ _ _ _ _ _ _ _ 51 p0 p1 p2 p3 p4 p5 p6 p7 (by omega), eight_add]
    rfl
  have e3 : ∀ c0 c1 c2 c3 c4 c5 c6 c7 : Nat, c0 / 16 ≤ 4 → c0 % 16 ≤ 4 → c1 / 16 ≤ 4 → c1 % 16 ≤ 4 → c2 / 16 ≤ 4 → c2 % 16 ≤ 4 → c3 / 16 ≤ 4 → c3 % 16 ≤ 4 → c4 / 16 ≤ 4 → c4 % 16 ≤ 4 → c5 / 16 ≤ 4 → c5 % 16 ≤ 4 → c6 / 16 ≤ 4 → c6 % 16 ≤ 4 → c7 / 16 ≤ 4 → c7 % 16 ≤ 4 →
      (eight c0 c1 c2 c3 c4 c5 c6 c7 >>> 4 + eight c0 c1 c2 c3 c4 c5 c6 c7) &&& 1085102592571150095 = eight (c0 % 16 + c0 / 16) (c1 % 16 + c1 / 16) (c2 % 16 + c2 / 16) (c3 % 16 + c3 / 16) (c4 % 16 + c4 / 16) (c5 % 16 + c5 / 16) (c6 % 16 + c6 / 16) (c7 % 16 + c7 / 16) := by
    intro c0 c1 c2 c3 c4 c5 c6 c7 x0 y0 x1 y1 x2 y2 x3 y3 x4 y4 x5 y5 x6 y6 x7 y7
    have d : eight c0 c1 c2 c3 c4 c5 c6 c7 >>> 4 = eight (c0 / 16 + 16 * (c1 % 16)) (c1 / 16 + 16 * (c2 % 16)) (c2 / 16 + 16 * (c3 % 16)) (c3 / 16 + 16 * (c4 % 16)) (c4 / 16 + 16 * (c5 % 16)) (c5 / 16 + 16 * (c6 % 16)) (c6 / 16 + 16 * (c7 % 16)) (c7 / 16) := by
      rw [Nat.shiftRight_eq_div_pow]
      unfold eight
      omega
    have m15 : ∀ z : Nat, z &&& 15 = z % 16 := fun z => Nat.and_two_pow_sub_one_eq_mod z 4
    rw [d, eight_add, m3, eight_and _ _ _ _ _ _ _ _ 15 (by omega) (by omega) (by omega) (by omega) (by omega) (by omega) (by omega) (by omega) (by omega)]
    simp only [m15]
    congr 1 <;> omega
  unfold swar3
  simp only
  rw [e1, e2, e3 _ _ _ _ _ _ _ _ q0 u0 q1 u1 q2 u2 q3 u3 q4 u4 q5 u5 q6 u6 q7 u7, r0, r1, r2, r3, r4, r5, r6, r7]
/-- The last sums. -/
theorem swar_sum (p0 p1 p2 p3 p4 p5 p6 p7 : Nat) (h0 : p0 ≤ 8) (h1 : p1 ≤ 8) (h2 : p2 ≤ 8) (h3 : p3 ≤ 8) (h4 : p4 ≤ 8) (h5 : p5 ≤ 8) (h6 : p6 ≤ 8) (h7 : p7 ≤ 8) (x y z : Nat) (hx : x = eight p0 p1 p2 p3 p4 p5 p6 p7 + eight p0 p1 p2 p3 p4 p5 p6 p7 / 256) (hy : y = x + x / 65536) (hz : z = y + y / 4294967296) :
    z % 128 = p0 + p1 + p2 + p3 + p4 + p5 + p6 + p7 ∧ z < 18446744073709551616 := by
  have d1 : eight p0 p1 p2 p3 p4 p5 p6 p7 / 256 = eight p1 p2 p3 p4 p5 p6 p7 0 := by unfold eight; omega
  rw [d1, eight_add] at hx
  have d2 : x / 65536 = eight (p2 + p3) (p3 + p4) (p4 + p5) (p5 + p6) (p6 + p7) (p7 + 0) 0 0 := by rw [hx]; unfold eight; omega
  rw [d2, hx, eight_add] at hy
  have d3 : y / 4294967296 = eight (p4 + p5 + (p6 + p7)) (p5 + p6 + (p7 + 0)) (p6 + p7 + 0) (p7 + 0 + 0) 0 0 0 0 := by rw [hy]; unfold eight; omega
  rw [d3, hy, eight_add] at hz
  unfold eight at hz
  omega
theorem ones_eight (x : Nat) : ones x 64 = ones (x % 256) 8 + ones (x / 256 % 256) 8 + ones (x / 65536 % 256) 8 + ones (x / 16777216 % 256) 8 + ones (x / 4294967296 % 256) 8 + ones (x / 1099511627776 % 256) 8 + ones (x / 281474976710656 % 256) 8 + ones (x / 72057594037927936 % 256) 8 := by
  have m := fun y => ones_mod y 8
  simp only [show (2 : Nat) ^ 8 = 256 by decide] at m
  simp only [m]
  rw [show (64 : Nat) = 8 + (8 + (8 + (8 + (8 + (8 + (8 + 8)))))) by decide]
  simp only [ones_add]
  simp only [Nat.shiftRight_eq_div_pow, Nat.div_div_eq_div_mul, show (2 : Nat) ^ 8 = 256 by decide, Nat.reduceMul]
  omega
theorem swar (x : Nat) (h : x < 18446744073709551616) (a b c : Nat) (ha : a = swar3 x + swar3 x / 256) (hb : b = a + a / 65536) (hc : c = b + b / 4294967296) : c % 128 = ones x 64 ∧ c < 18446744073709551616 := by
  have e := eight_of x h
  have s := swar_eight (x % 256) (x / 256 % 256) (x / 65536 % 256) (x / 16777216 % 256) (x / 4294967296 % 256) (x / 1099511627776 % 256) (x / 281474976710656 % 256) (x / 72057594037927936 % 256) (by omega) (by omega) (by omega) (by omega) (by omega) (by omega) (by omega) (by omega)
  rw [← e] at s
  rw [s] at ha
  have l := fun y => ones_le y 8
  rw [ones_eight x]
  exact swar_sum _ _ _ _ _ _ _ _ (l _) (l _) (l _) (l _) (l _) (l _) (l _) (l _) a b c ha hb hc
end Go.Proofs.Ytdpknieiigibfaa
