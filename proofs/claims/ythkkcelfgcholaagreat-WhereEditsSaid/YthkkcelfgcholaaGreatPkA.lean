/- How many bits of a word are 1: the plain law behind math/bits.OnesCount64. No program in sight. No conditions. The walks of math/bits.OnesCount64 and of bits.low, Count, Rank. No conditions. Bits in a word: the plain laws behind block. No program in sight. No conditions. -/
import Derived.Test.YthkkcelfgcholaaGreatQBase
import Derived.Laws.BitsLemmas
import Derived.Laws.Bits64
namespace Go.Proofs.YthkkcelfgcholaaGreat
/-- How many of the first n bits of x are 1. -/
def ones (x n : Nat) : Nat := (List.range n).countP (fun i => x.testBit i)
theorem ones_zero (x : Nat) : ones x 0 = 0 := rfl
theorem ones_succ (x n : Nat) : ones x (n + 1) = ones x n + if x.testBit n then 1 else 0 := by
  unfold ones
  rw [List.range_succ, List.countP_append, List.countP_singleton]
theorem ones_le (x n : Nat) : ones x n ≤ n := by
  induction n with
  | zero => exact Nat.le_refl _
  | succ n ih =>
    rw [ones_succ]
    split <;> omega
theorem ones_add (x n m : Nat) : ones x (n + m) = ones x n + ones (x >>> n) m := by
  induction m with
  | zero => simp [ones_zero]
  | succ m ih =>
    rw [← Nat.add_assoc, ones_succ, ih, ones_succ, Nat.testBit_shiftRight]
    omega
theorem ones_mod (x n : Nat) : ones (x % 2 ^ n) n = ones x n := by
  unfold ones
  apply List.countP_congr
  intro i hi
  have := List.mem_range.1 hi
  simp [Nat.testBit_mod_two_pow, this]
theorem lane_shift (A a M m s : Nat) (ha : a < 256) (hs : s ≤ 8) (hm : m < 2 ^ (8 - s)) : ((256 * A + a) >>> s) &&& (256 * M + m) = 256 * ((A >>> s) &&& M) + ((a >>> s) &&& m) := by
  apply Nat.eq_of_testBit_eq
  intro i
  have hm8 : m < 2 ^ 8 := Nat.lt_of_lt_of_le hm (Nat.pow_le_pow_right (by decide) (by omega))
  have h1 : ((a >>> s) &&& m) < 2 ^ 8 := Nat.lt_of_le_of_lt Nat.and_le_right hm8
  rw [Nat.testBit_and, Nat.testBit_shiftRight, show (256 : Nat) = 2 ^ 8 by decide, Nat.testBit_two_pow_mul_add _ (by simpa using ha), Nat.testBit_two_pow_mul_add _ hm8, Nat.testBit_two_pow_mul_add _ h1]
  by_cases hi : i < 8
  · by_cases h2 : s + i < 8
    · simp [hi, h2, Nat.testBit_and]
    · have h3 : m.testBit i = false := Nat.testBit_lt_two_pow (Nat.lt_of_lt_of_le hm (Nat.pow_le_pow_right (by decide) (by omega)))
      simp [hi, h2, Nat.testBit_and, h3]
  · have h2 : ¬ (s + i < 8) := by omega
    have h3 : s + i - 8 = s + (i - 8) := by omega
    simp [hi, h2, h3, Nat.testBit_and]
/-- The three first steps of one byte. -/
def b1 (a : Nat) : Nat := (a >>> 1 &&& 85) + (a &&& 85)
def b2 (a : Nat) : Nat := (a >>> 2 &&& 51) + (a &&& 51)
theorem b_ok : ∀ a : Fin 256, b1 a.val < 256 ∧ b2 (b1 a.val) / 16 ≤ 4 ∧ b2 (b1 a.val) % 16 ≤ 4 ∧ b2 (b1 a.val) % 16 + b2 (b1 a.val) / 16 = ones a.val 8 := by decide +kernel
theorem b_at (a : Nat) (h : a < 256) : b1 a < 256 ∧ b2 (b1 a) / 16 ≤ 4 ∧ b2 (b1 a) % 16 ≤ 4 ∧ b2 (b1 a) % 16 + b2 (b1 a) / 16 = ones a 8 := b_ok ⟨a, h⟩
/-- Eight bytes. -/
def eight (a0 a1 a2 a3 a4 a5 a6 a7 : Nat) : Nat := 256 * (256 * (256 * (256 * (256 * (256 * (256 * (256 * 0 + a7) + a6) + a5) + a4) + a3) + a2) + a1) + a0
theorem eight_step (a0 a1 a2 a3 a4 a5 a6 a7 s m : Nat) (h0 : a0 < 256) (h1 : a1 < 256) (h2 : a2 < 256) (h3 : a3 < 256) (h4 : a4 < 256) (h5 : a5 < 256) (h6 : a6 < 256) (h7 : a7 < 256) (hs : s ≤ 8) (hm : m < 2 ^ (8 - s)) :
    (eight a0 a1 a2 a3 a4 a5 a6 a7 >>> s) &&& eight m m m m m m m m = eight (a0 >>> s &&& m) (a1 >>> s &&& m) (a2 >>> s &&& m) (a3 >>> s &&& m) (a4 >>> s &&& m) (a5 >>> s &&& m) (a6 >>> s &&& m) (a7 >>> s &&& m) := by
  unfold eight
  rw [lane_shift _ _ _ _ _ h0 hs hm, lane_shift _ _ _ _ _ h1 hs hm, lane_shift _ _ _ _ _ h2 hs hm, lane_shift _ _ _ _ _ h3 hs hm, lane_shift _ _ _ _ _ h4 hs hm, lane_shift _ _ _ _ _ h5 hs hm, lane_shift _ _ _ _ _ h6 hs hm, lane_shift _ _ _ _ _ h7 hs hm]
  simp
theorem eight_and (a0 a1 a2 a3 a4 a5 a6 a7 m : Nat) (h0 : a0 < 256) (h1 : a1 < 256) (h2 : a2 < 256) (h3 : a3 < 256) (h4 : a4 < 256) (h5 : a5 < 256) (h6 : a6 < 256) (h7 : a7 < 256) (hm : m < 256) :
    eight a0 a1 a2 a3 a4 a5 a6 a7 &&& eight m m m m m m m m = eight (a0 &&& m) (a1 &&& m) (a2 &&& m) (a3 &&& m) (a4 &&& m) (a5 &&& m) (a6 &&& m) (a7 &&& m) := by
  have := eight_step a0 a1 a2 a3 a4 a5 a6 a7 0 m h0 h1 h2 h3 h4 h5 h6 h7 (by omega) (by simpa using hm)
  simpa using this
theorem eight_add (a0 a1 a2 a3 a4 a5 a6 a7 c0 c1 c2 c3 c4 c5 c6 c7 : Nat) :
    eight a0 a1 a2 a3 a4 a5 a6 a7 + eight c0 c1 c2 c3 c4 c5 c6 c7 = eight (a0 + c0) (a1 + c1) (a2 + c2) (a3 + c3) (a4 + c4) (a5 + c5) (a6 + c6) (a7 + c7) := by
  unfold eight
  omega
/-- What OnesCount64 makes of a word, ahead of the last sums. -/
def swar3 (x : Nat) : Nat :=
  let y1 := (x >>> 1 &&& 6148914691236517205) + (x &&& 6148914691236517205)
  let y2 := (y1 >>> 2 &&& 3689348814741910323) + (y1 &&& 3689348814741910323)
  (y2 >>> 4 + y2) &&& 1085102592571150095
theorem eight_of (x : Nat) (h : x < 18446744073709551616) : x = eight (x % 256) (x / 256 % 256) (x / 65536 % 256) (x / 16777216 % 256) (x / 4294967296 % 256) (x / 1099511627776 % 256) (x / 281474976710656 % 256) (x / 72057594037927936 % 256) := by
  unfold eight
  omega
theorem swar_eight (a0 a1 a2 a3 a4 a5 a6 a7 : Nat) (h0 : a0 < 256) (h1 : a1 < 256) (h2 : a2 < 256) (h3 : a3 < 256) (h4 : a4 < 256) (h5 : a5 < 256) (h6 : a6 < 256) (h7 : a7 < 256) :
    swar3 (eight a0 a1 a2 a3 a4 a5 a6 a7) = eight (ones a0 8) (ones a1 8) (ones a2 8) (ones a3 8) (ones a4 8) (ones a5 8) (ones a6 8) (ones a7 8) := by
  have m1 : (6148914691236517205 : Nat) = eight 85 85 85 85 85 85 85 85 := by decide
  have m2 : (3689348814741910323 : Nat) = eight 51 51 51 51 51 51 51 51 := by decide
  have m3 : (1085102592571150095 : Nat) = eight 15 15 15 15 15 15 15 15 := by decide
  obtain ⟨p0, q0, u0, r0⟩ := b_at a0 h0
  obtain ⟨p1, q1, u1, r1⟩ := b_at a1 h1
  obtain ⟨p2, q2, u2, r2⟩ := b_at a2 h2
  obtain ⟨p3, q3, u3, r3⟩ := b_at a3 h3
  obtain ⟨p4, q4, u4, r4⟩ := b_at a4 h4
  obtain ⟨p5, q5, u5, r5⟩ := b_at a5 h5
  obtain ⟨p6, q6, u6, r6⟩ := b_at a6 h6
  obtain ⟨p7, q7, u7, r7⟩ := b_at a7 h7
  have e1 : (eight a0 a1 a2 a3 a4 a5 a6 a7 >>> 1 &&& 6148914691236517205) + (eight a0 a1 a2 a3 a4 a5 a6 a7 &&& 6148914691236517205) = eight (b1 a0) (b1 a1) (b1 a2) (b1 a3) (b1 a4) (b1 a5) (b1 a6) (b1 a7) := by
    rw [m1, eight_step _ _ _ _ _ _ _ _ 1 85 h0 h1 h2 h3 h4 h5 h6 h7 (by omega) (by decide), eight_and _ _ _ _ _ _ _ _ 85 h0 h1 h2 h3 h4 h5 h6 h7 (by omega), eight_add]
    rfl
  have e2 : (eight (b1 a0) (b1 a1) (b1 a2) (b1 a3) (b1 a4) (b1 a5) (b1 a6) (b1 a7) >>> 2 &&& 3689348814741910323) + (eight (b1 a0) (b1 a1) (b1 a2) (b1 a3) (b1 a4) (b1 a5) (b1 a6) (b1 a7) &&& 3689348814741910323) = eight (b2 (b1 a0)) (b2 (b1 a1)) (b2 (b1 a2)) (b2 (b1 a3)) (b2 (b1 a4)) (b2 (b1 a5)) (b2 (b1 a6)) (b2 (b1 a7)) := by
    rw [m2, eight_step _ _ _ _ _ _ _ _ 2 51 p0 p1 p2 p3 p4 p5 p6 p7 (by omega) (by decide), eight_and _ _ _ _ _ _ _ _ 51 p0 p1 p2 p3 p4 p5 p6 p7 (by omega), eight_add]
    rfl
  have e3 : ∀ c0 c1 c2 c3 c4 c5 c6 c7 : Nat, c0 / 16 ≤ 4 → c0 % 16 ≤ 4 → c1 / 16 ≤ 4 → c1 % 16 ≤ 4 → c2 / 16 ≤ 4 → c2 % 16 ≤ 4 → c3 / 16 ≤ 4 → c3 % 16 ≤ 4 → c4 / 16 ≤ 4 → c4 % 16 ≤ 4 → c5 / 16 ≤ 4 → c5 % 16 ≤ 4 → c6 / 16 ≤ 4 → c6 % 16 ≤ 4 → c7 / 16 ≤ 4 → c7 % 16 ≤ 4 →
      (eight c0 c1 c2 c3 c4 c5 c6 c7 >>> 4 + eight c0 c1 c2 c3 c4 c5 c6 c7) &&& 1085102592571150095 = eight (c0 % 16 + c0 / 16) (c1 % 16 + c1 / 16) (c2 % 16 + c2 / 16) (c3 % 16 + c3 / 16) (c4 % 16 + c4 / 16) (c5 % 16 + c5 / 16) (c6 % 16 + c6 / 16) (c7 % 16 + c7 / 16) := by
    intro c0 c1 c2 c3 c4 c5 c6 c7 x0 y0 x1 y1 x2 y2 x3 y3 x4 y4 x5 y5 x6 y6 x7 y7
    have d : eight c0 c1 c2 c3 c4 c5 c6 c7 >>> 4 = eight (c0 / 16 + 16 * (c1 % 16)) (c1 / 16 + 16 * (c2 % 16)) (c2 / 16 + 16 * (c3 % 16)) (c3 / 16 + 16 * (c4 % 16)) (c4 / 16 + 16 * (c5 % 16)) (c5 / 16 + 16 * (c6 % 16)) (c6 / 16 + 16 * (c7 % 16)) (c7 / 16) := by
      rw [Nat.shiftRight_eq_div_pow]
      unfold eight
      omega
    have m15 : ∀ z : Nat, z &&& 15 = z % 16 := fun z => Nat.and_two_pow_sub_one_eq_mod z 4
    rw [d, eight_add, m3, eight_and _ _ _ _ _ _ _ _ 15 (by omega) (by omega) (by omega) (by omega) (by omega) (by omega) (by omega) (by omega) (by omega)]
    simp only [m15]
    congr 1 <;> omega
  unfold swar3
  simp only
  rw [e1, e2, e3 _ _ _ _ _ _ _ _ q0 u0 q1 u1 q2 u2 q3 u3 q4 u4 q5 u5 q6 u6 q7 u7, r0, r1, r2, r3, r4, r5, r6, r7]
/-- The last sums. -/
theorem swar_sum (p0 p1 p2 p3 p4 p5 p6 p7 : Nat) (h0 : p0 ≤ 8) (h1 : p1 ≤ 8) (h2 : p2 ≤ 8) (h3 : p3 ≤ 8) (h4 : p4 ≤ 8) (h5 : p5 ≤ 8) (h6 : p6 ≤ 8) (h7 : p7 ≤ 8) (x y z : Nat) (hx : x = eight p0 p1 p2 p3 p4 p5 p6 p7 + eight p0 p1 p2 p3 p4 p5 p6 p7 / 256) (hy : y = x + x / 65536) (hz : z = y + y / 4294967296) :
    z % 128 = p0 + p1 + p2 + p3 + p4 + p5 + p6 + p7 ∧ z < 18446744073709551616 := by
  have d1 : eight p0 p1 p2 p3 p4 p5 p6 p7 / 256 = eight p1 p2 p3 p4 p5 p6 p7 0 := by unfold eight; omega
  rw [d1, eight_add] at hx
  have d2 : x / 65536 = eight (p2 + p3) (p3 + p4) (p4 + p5) (p5 + p6) (p6 + p7) (p7 + 0) 0 0 := by rw [hx]; unfold eight; omega
  rw [d2, hx, eight_add] at hy
  have d3 : y / 4294967296 = eight (p4 + p5 + (p6 + p7)) (p5 + p6 + (p7 + 0)) (p6 + p7 + 0) (p7 + 0 + 0) 0 0 0 0 := by rw [hy]; unfold eight; omega
  rw [d3, hy, eight_add] at hz
  unfold eight at hz
  omega
theorem ones_eight (x : Nat) : ones x 64 = ones (x % 256) 8 + ones (x / 256 % 256) 8 + ones (x / 65536 % 256) 8 + ones (x / 16777216 % 256) 8 + ones (x / 4294967296 % 256) 8 + ones (x / 1099511627776 % 256) 8 + ones (x / 281474976710656 % 256) 8 + ones (x / 72057594037927936 % 256) 8 := by
  have m := fun y => ones_mod y 8
  simp only [show (2 : Nat) ^ 8 = 256 by decide] at m
  simp only [m]
  rw [show (64 : Nat) = 8 + (8 + (8 + (8 + (8 + (8 + (8 + 8)))))) by decide]
  simp only [ones_add]
  simp only [Nat.shiftRight_eq_div_pow, Nat.div_div_eq_div_mul, show (2 : Nat) ^ 8 = 256 by decide, Nat.reduceMul]
  omega
theorem swar (x : Nat) (h : x < 18446744073709551616) (a b c : Nat) (ha : a = swar3 x + swar3 x / 256) (hb : b = a + a / 65536) (hc : c = b + b / 4294967296) : c % 128 = ones x 64 ∧ c < 18446744073709551616 := by
  have e := eight_of x h
  have s := swar_eight (x % 256) (x / 256 % 256) (x / 65536 % 256) (x / 16777216 % 256) (x / 4294967296 % 256) (x / 1099511627776 % 256) (x / 281474976710656 % 256) (x / 72057594037927936 % 256) (by omega) (by omega) (by omega) (by omega) (by omega) (by omega) (by omega) (by omega)
  rw [← e] at s
  rw [s] at ha
  have l := fun y => ones_le y 8
  rw [ones_eight x]
  exact swar_sum _ _ _ _ _ _ _ _ (l _) (l _) (l _) (l _) (l _) (l _) (l _) (l _) a b c ha hb hc
end Go.Proofs.YthkkcelfgcholaaGreat
namespace Go.Proofs.YthkkcelfgcholaaGreat
open Go.RowKit
set_option linter.unusedVariables false
set_option linter.unusedSimpArgs false
theorem and64 (a b : Nat) (ha : a < 18446744073709551616) (hb : b < 18446744073709551616) : bits .and .u64 (a : Int) (b : Int) = ((a &&& b : Nat) : Int) :=
  (bits_nat .u64 64 (by decide) (fun n h0 h1 => by rw [IntKind.wrap_u64]; omega) a b (by omega) (by omega)).1
/-- x >> k & m, as the model has it. -/
theorem shr_and (x k m d : Nat) (hx : x < 18446744073709551616) (hm : m < 18446744073709551616) (hd : 2 ^ k = d) : bits .and .u64 ((x : Int) / (d : Int)) (m : Int) = ((x >>> k &&& m : Nat) : Int) := by
  have h1 : ((x : Int) / (d : Int)) = ((x >>> k : Nat) : Int) := by
    rw [Nat.shiftRight_eq_div_pow, hd]
    push_cast
    rfl
  have h2 : x >>> k < 18446744073709551616 := by
    rw [Nat.shiftRight_eq_div_pow]
    exact Nat.lt_of_le_of_lt (Nat.div_le_self _ _) hx
  rw [h1, and64 _ _ h2 hm]
set_option maxRecDepth 100000 in
set_option maxHeartbeats 1000000 in
theorem OnesCount_any (x : Nat) (hx : x < 18446744073709551616) (w : World) :
    Calls Tryz.prog 171 #[.int .u64 (x : Int)] w fun e w' => e = .returned (.int .i64 ((ones x 64 : Nat) : Int)) ∧ w = w' := by
  obtain ⟨p1, hp1⟩ : ∃ p, p = x >>> 1 &&& 6148914691236517205 := ⟨_, rfl⟩
  obtain ⟨p2, hp2⟩ : ∃ p, p = x &&& 6148914691236517205 := ⟨_, rfl⟩
  have b1 : p1 ≤ 6148914691236517205 := by rw [hp1]; exact Nat.and_le_right
  have b2 : p2 ≤ 6148914691236517205 := by rw [hp2]; exact Nat.and_le_right
  obtain ⟨y1, hy1⟩ : ∃ y, y = p1 + p2 := ⟨_, rfl⟩
  obtain ⟨q1, hq1⟩ : ∃ p, p = y1 >>> 2 &&& 3689348814741910323 := ⟨_, rfl⟩
  obtain ⟨q2, hq2⟩ : ∃ p, p = y1 &&& 3689348814741910323 := ⟨_, rfl⟩
  have b3 : q1 ≤ 3689348814741910323 := by rw [hq1]; exact Nat.and_le_right
  have b4 : q2 ≤ 3689348814741910323 := by rw [hq2]; exact Nat.and_le_right
  obtain ⟨y2, hy2⟩ : ∃ y, y = q1 + q2 := ⟨_, rfl⟩
  obtain ⟨r1, hr1⟩ : ∃ r, r = y2 >>> 4 + y2 := ⟨_, rfl⟩
  have hr1' : r1 = y2 / 16 + y2 := by rw [hr1, Nat.shiftRight_eq_div_pow]
  obtain ⟨y3, hy3⟩ : ∃ y, y = r1 &&& 1085102592571150095 := ⟨_, rfl⟩
  have b5 : y3 ≤ 1085102592571150095 := by rw [hy3]; exact Nat.and_le_right
  obtain ⟨y4, hy4⟩ : ∃ y, y = y3 + y3 / 256 := ⟨_, rfl⟩
  obtain ⟨y5, hy5⟩ : ∃ y, y = y4 + y4 / 65536 := ⟨_, rfl⟩
  obtain ⟨y6, hy6⟩ : ∃ y, y = y5 + y5 / 4294967296 := ⟨_, rfl⟩
  have hs : y3 = swar3 x := by rw [hy3, hr1, hy2, hq1, hq2, hy1, hp1, hp2]; rfl
  obtain ⟨hfin, hlt⟩ := swar x hx y4 y5 y6 (by rw [← hs]; exact hy4) hy5 hy6
  have k1 : bits .and .u64 ((x : Int) / 2) 6148914691236517205 = (p1 : Int) := by rw [hp1]; exact shr_and x 1 6148914691236517205 2 hx (by omega) (by decide)
  have k2 : bits .and .u64 (x : Int) 6148914691236517205 = (p2 : Int) := by rw [hp2]; exact and64 x 6148914691236517205 hx (by omega)
  have k3 : IntKind.u64.wrap ((p1 : Int) + (p2 : Int)) = (y1 : Int) := by rw [IntKind.wrap_u64]; omega
  have k4 : bits .and .u64 ((y1 : Int) / 4) 3689348814741910323 = (q1 : Int) := by rw [hq1]; exact shr_and y1 2 3689348814741910323 4 (by omega) (by omega) (by decide)
  have k5 : bits .and .u64 (y1 : Int) 3689348814741910323 = (q2 : Int) := by rw [hq2]; exact and64 y1 3689348814741910323 (by omega) (by omega)
  have k6 : IntKind.u64.wrap ((q1 : Int) + (q2 : Int)) = (y2 : Int) := by rw [IntKind.wrap_u64]; omega
  have k7 : IntKind.u64.wrap ((y2 : Int) / 16 + (y2 : Int)) = (r1 : Int) := by rw [IntKind.wrap_u64]; omega
  have k8 : bits .and .u64 (r1 : Int) 1085102592571150095 = (y3 : Int) := by rw [hy3]; exact and64 r1 1085102592571150095 (by omega) (by omega)
  have k9 : IntKind.u64.wrap ((y3 : Int) + (y3 : Int) / 256) = (y4 : Int) := by rw [IntKind.wrap_u64]; omega
  have k10 : IntKind.u64.wrap ((y4 : Int) + (y4 : Int) / 65536) = (y5 : Int) := by rw [IntKind.wrap_u64]; omega
  have k11 : IntKind.u64.wrap ((y5 : Int) + (y5 : Int) / 4294967296) = (y6 : Int) := by rw [IntKind.wrap_u64]; omega
  have hy6b : y6 < 9223372036854775808 := by omega
  have k12 : bits .and .i64 (y6 : Int) 127 = ((ones x 64 : Nat) : Int) := by
    have := bits_mask .i64 63 (by decide) (fun n h0 h1 => by rw [IntKind.wrap_i64]; omega) 7 (by decide) (y6 : Int) (by omega) (by omega)
    rw [show ((2 : Int) ^ 7 - 1) = 127 by decide, show ((2 : Int) ^ 7) = 128 by decide] at this
    rw [this, ← hfin]
    omega
  clear hp1 hp2 hy1 hq1 hq2 hy2 hr1 hr1' hy3 hy4 hy5 hy6 hs hfin b1 b2 b3 b4 b5
  go_enter Tryz.func171, Tryz.ntmps171
  go_wp2
  go_ret
  exact ⟨ret_i64 (by first | exact k12 | simp [k12]), rfl⟩
theorem ones_low (x m n : Nat) (h : m ≤ n) : ones (x % 2 ^ m) n = ones x m := by
  obtain ⟨d, rfl⟩ : ∃ d, n = m + d := ⟨n - m, by omega⟩
  rw [ones_add, ones_mod]
  have : (x % 2 ^ m) >>> m = 0 := by
    rw [Nat.shiftRight_eq_div_pow]
    exact Nat.div_eq_of_lt (Nat.mod_lt _ (Nat.two_pow_pos m))
  rw [this]
  have z : ∀ d, ones 0 d = 0 := fun d => by
    unfold ones
    simp
  rw [z]
  rfl
/-- The first bits alone. -/
def lowN (x : Nat) (k : Int) : Nat := x % 2 ^ (min k.toNat 64)
def uvn (n : Nat) : Value := .int .u64 (n : Int)
set_option maxRecDepth 100000 in
set_option maxHeartbeats 1000000 in
theorem low_any (x : Nat) (k : Int) (hx : x < 18446744073709551616) (hk : -9223372036854775808 ≤ k ∧ k ≤ 9223372036854775807) (w : World) :
    Calls Tryz.prog 160 #[.int .u64 (x : Int), .int .i64 k] w fun e w' => e = .returned (.int .u64 ((lowN x k : Nat) : Int)) ∧ w = w' := by
  unfold lowN
  by_cases h0 : k ≤ 0
  · have e0 : x % 2 ^ (min k.toNat 64) = 0 := by
      rw [show k.toNat = 0 by omega]
      simp [Nat.mod_one]
    rw [e0]
    go_enter Tryz.func160, Tryz.ntmps160
    go_wp2
    go_ret
    exact ⟨rfl, rfl⟩
  · by_cases h1 : k ≥ 64
    · have e1 : x % 2 ^ (min k.toNat 64) = x := by
        rw [show min k.toNat 64 = 64 by omega]
        exact Nat.mod_eq_of_lt (by omega)
      rw [e1]
      have h2 : ¬ (k ≤ 0) := h0
      go_enter Tryz.func160, Tryz.ntmps160
      go_wp2
      go_ret
      exact ⟨rfl, rfl⟩
    · obtain ⟨m, rfl⟩ : ∃ m : Nat, k = (m : Int) := ⟨k.toNat, by omega⟩
      have hm : m < 64 := by omega
      have d0 : decide ((m : Int) ≤ 0) = false := by simp; omega
      have d1 : decide ((m : Int) ≥ 64) = false := by simp; omega
      have e2 : min (m : Int).toNat 64 = m := by omega
      rw [e2]
      have hp : 2 ^ m < 18446744073709551616 := by
        have := Nat.pow_lt_pow_right (a := 2) (by decide) hm
        omega
      have hpi : ((2 : Int) ^ m) = ((2 ^ m : Nat) : Int) := by push_cast; rfl
      have hpos := Nat.two_pow_pos m
      have h1' : IntKind.u64.wrap ((2 : Int) ^ m) = (2 : Int) ^ m := by rw [hpi, IntKind.wrap_u64]; omega
      have h2' : IntKind.u64.wrap ((2 : Int) ^ m - 1) = (2 : Int) ^ m - 1 := by rw [hpi, IntKind.wrap_u64]; omega
      have h3 : bits .and .u64 (x : Int) ((2 : Int) ^ m - 1) = (x : Int) % 2 ^ m := bits_mask .u64 64 (by decide) (fun n h0 h1 => by rw [IntKind.wrap_u64]; omega) m (by omega) (x : Int) (by omega) (by omega)
      clear hpi
      go_enter Tryz.func160, Tryz.ntmps160
      go_wp2
      go_ret
      exact ⟨by first | rfl | simp, rfl⟩
set_option maxRecDepth 100000 in
set_option maxHeartbeats 1000000 in
theorem Count_any (A : Option Addr) (m c B : Nat) (l : List Nat) (w : World) (hr : Rd w B 1 A m (l.map uvn)) (hl : ∀ n ∈ l, n < 18446744073709551616) (hm : m ≤ 1048576) :
    Calls Tryz.prog 159 #[.slice A m c] w fun e w' => e = .returned (.int .i64 (((l.map fun x => ones x 64).sum : Nat) : Int)) ∧ w = w' := by
  have hll : l.length = m := by simpa using hr.1
  have Hr := Lib.hid hr
  have Hl := Lib.hid hl
  have Hll := Lib.hid hll
  have hb : ∀ k, ((l.take k).map fun x => ones x 64).sum ≤ k * 64 := fun k => by
    induction k with
    | zero => simp
    | succ k ih =>
      by_cases hk : k < l.length
      · rw [List.take_succ_eq_append_getElem hk, List.map_append, List.sum_append]
        have := ones_le l[k] 64
        simp only [List.map_cons, List.map_nil, List.sum_cons, List.sum_nil]
        omega
      · rw [List.take_of_length_le (by omega)]
        rw [List.take_of_length_le (by omega)] at ih
        omega
  have Hb := Lib.hid hb
  clear hr hl hll hb
  go_enter Tryz.func159, Tryz.ntmps159
  go_wp2
  go_loopw [3, 8] (fun v i wr => ∃ k : Nat, k ≤ m ∧ i = .int .i64 k ∧ v = .int .i64 ((((l.take k).map fun x => ones x 64).sum : Nat) : Int) ∧ w = wr) (fun _ i _ => m - (intOf i).toNat)
  case atStart => exact ⟨0, Nat.zero_le _, rfl, by simp, rfl⟩
  case round =>
    obtain ⟨k, hk, rfl, rfl, rfl⟩ := hrel
    by_cases hlt : k < m
    · have hkl : k < l.length := by rw [Hll.out]; exact hlt
      obtain ⟨x, hx⟩ : ∃ x, l[k]? = some x := ⟨l[k], List.getElem?_eq_getElem hkl⟩
      obtain ⟨b, off, u, rfl, hbl, hu, hc⟩ := Hr.out.get hlt
      rw [List.getElem?_map, hx] at hu
      simp at hu
      subst hu
      unfold uvn at hc
      have hx64 := Hl.out x (List.mem_of_getElem? hx)
      have hnx : ((l.take (k + 1)).map fun x => ones x 64).sum = ((l.take k).map fun x => ones x 64).sum + ones x 64 := by
        rw [List.take_add_one, hx]
        simp
      have hbd := Hb.out k
      have h64 := ones_le x 64
      generalize ((l.take k).map fun x => ones x 64).sum = q at *
      have Hnx := Lib.hid hnx
      clear hnx hx
      go_wp2_with fail
      refine (OnesCount_any x hx64 _).mono ?_
      rintro e w' ⟨rfl, rfl⟩
      go_wp2
      go_roundw
      case rel => exact ⟨k + 1, by omega, by go_num, by rw [Hnx.out]; go_num, trivial⟩
      case measure => simp [intOf]; omega
    · have hge : m ≤ k := by omega
      have htk : l.take k = l := List.take_of_length_le (by have := Hll.out; omega)
      rw [htk]
      clear htk
      go_wp2
      go_ret
      exact ⟨rfl, rfl⟩
/-- How many of the first bits of a word are 1. -/
def rankN (x : Nat) (k : Int) : Nat := ones x (min k.toNat 64)
set_option maxRecDepth 100000 in
set_option maxHeartbeats 1000000 in
theorem BitsRank_any (x : Nat) (k : Int) (hx : x < 18446744073709551616) (hk : -9223372036854775808 ≤ k ∧ k ≤ 9223372036854775807) (w : World) :
    Calls Tryz.prog 147 #[.int .u64 (x : Int), .int .i64 k] w fun e w' => e = .returned (.int .i64 ((rankN x k : Nat) : Int)) ∧ Below w.heap.size w w' := by
  have hlow : lowN x k < 18446744073709551616 := by
    unfold lowN
    exact Nat.lt_of_le_of_lt (Nat.mod_le _ _) hx
  have hfin : ones (lowN x k) 64 = rankN x k := ones_low x _ 64 (Nat.min_le_right _ _)
  go_enter Tryz.func147, Tryz.ntmps147
  go_wp2_with fail
  refine (low_any x k hx hk _).mono ?_
  rintro e w' ⟨rfl, rfl⟩
  go_wp2_with fail
  refine (Count_any _ 1 1 _ [lowN x k] _ (Rd.made _ _ 1 1 _ rfl) (by simpa using hlow) (by omega)).mono ?_
  rintro e w' ⟨rfl, rfl⟩
  have hsum : (([lowN x k].map fun x => ones x 64).sum) = rankN x k := by simp [hfin]
  rw [hsum]
  go_wp2_with fail
  go_ret
  exact ⟨rfl, (Below.refl _ _).alloc (Nat.le_refl _) _⟩
end Go.Proofs.YthkkcelfgcholaaGreat
namespace Go.Proofs.YthkkcelfgcholaaGreat
/-- The number whose first bits are these. -/
def encW : List Bool → Nat
  | [] => 0
  | b :: l => (if b then 1 else 0) + 2 * encW l
theorem encW_lt (l : List Bool) : encW l < 2 ^ l.length := by
  induction l with
  | nil => simp [encW]
  | cons b l ih =>
    simp only [encW, List.length_cons, Nat.pow_succ]
    cases b <;> simp <;> omega
theorem encW_bit (l : List Bool) (k : Nat) : (encW l).testBit k = l.getD k false := by
  induction l generalizing k with
  | nil => simp [encW]
  | cons b l ih =>
    cases k with
    | zero =>
      simp only [encW, List.getD_cons_zero, Nat.testBit_zero]
      cases b <;> simp <;> omega
    | succ k =>
      have h : ((if b then 1 else 0) + 2 * encW l) / 2 = encW l := by cases b <;> simp <;> omega
      simp only [encW, List.getD_cons_succ, Nat.testBit_succ, h]
      exact ih k
theorem encW_append (a b : List Bool) : encW (a ++ b) = encW a + 2 ^ a.length * encW b := by
  induction a with
  | nil => simp [encW]
  | cons x a ih =>
    simp only [List.cons_append, encW, ih, List.length_cons, Nat.pow_succ]
    cases x <;> simp <;> rw [Nat.mul_add, ← Nat.mul_assoc, Nat.mul_comm 2 (2 ^ a.length)] <;> omega
theorem encW_ones (l : List Bool) (n : Nat) : ones (encW l) n = (l.take n).count true := by
  induction n with
  | zero => simp [ones_zero]
  | succ n ih =>
    rw [ones_succ, ih, encW_bit, List.take_add_one, List.count_append]
    cases h : l[n]? with
    | none => simp [List.getD_eq_getElem?_getD, h]
    | some b => cases b <;> simp [List.getD_eq_getElem?_getD, h]
/-- One bit more. -/
theorem encW_snoc (l : List Bool) (b : Bool) : encW (l ++ [b]) = encW l + if b then 2 ^ l.length else 0 := by
  rw [encW_append]
  cases b <;> simp [encW]
theorem or_top (a k : Nat) (h : a < 2 ^ k) : a ||| 2 ^ k = a + 2 ^ k := by
  have := Nat.two_pow_add_eq_or_of_lt h 1
  rw [Nat.mul_one] at this
  rw [Nat.or_comm, ← this, Nat.add_comm]
/-- The words of up to 128 bits. -/
def w0 (l : List Bool) : Nat := encW (l.take 64)
def w1 (l : List Bool) : Nat := encW (l.drop 64)
theorem w0_lt (l : List Bool) : w0 l < 18446744073709551616 := by
  have h := encW_lt (l.take 64)
  have h2 : (l.take 64).length ≤ 64 := by rw [List.length_take]; omega
  have h3 := Nat.pow_le_pow_right (n := 2) (by decide) h2
  unfold w0
  omega
theorem w1_lt (l : List Bool) (hl : l.length ≤ 128) : w1 l < 18446744073709551616 := by
  have h := encW_lt (l.drop 64)
  have h2 : (l.drop 64).length ≤ 64 := by rw [List.length_drop]; omega
  have h3 := Nat.pow_le_pow_right (n := 2) (by decide) h2
  unfold w1
  omega
theorem w_ones (l : List Bool) (hl : l.length ≤ 128) : ones (w0 l) 64 + ones (w1 l) 64 = l.count true := by
  unfold w0 w1
  rw [encW_ones, encW_ones, List.take_take, Nat.min_self, List.take_of_length_le (l := l.drop 64) (by rw [List.length_drop]; omega), ← List.count_append, List.take_append_drop]
/-- How many of the first k bits are 1, by words. -/
theorem w_rank (l : List Bool) (k : Nat) (hl : l.length ≤ 128) (hk : k ≤ l.length) : ones (w0 l) (min k 64) + ones (w1 l) (min (k - 64) 64) = (l.take k).count true := by
  unfold w0 w1
  rw [encW_ones, encW_ones, List.take_take]
  rcases Nat.lt_or_ge k 64 with h | h
  · have e1 : min (min k 64) 64 = k := by omega
    have e2 : min (k - 64) 64 = 0 := by omega
    rw [e1, e2, List.take_zero, List.count_nil, Nat.add_zero]
  · have e1 : min (min k 64) 64 = 64 := by omega
    have e2 : min (k - 64) 64 = k - 64 := by omega
    rw [e1, e2, ← List.count_append]
    congr 1
    rw [← List.take_append_drop 64 (l.take k), List.take_take, List.drop_take]
    congr 2
    omega
/-- The words behind one bit more. -/
theorem w_snoc_lo (l : List Bool) (b : Bool) (h : l.length < 64) : w0 (l ++ [b]) = w0 l + (if b then 2 ^ l.length else 0) ∧ w1 (l ++ [b]) = w1 l := by
  unfold w0 w1
  rw [List.take_of_length_le (by simp; omega), List.take_of_length_le (by omega), List.drop_of_length_le (by simp; omega), List.drop_of_length_le (by omega)]
  exact ⟨encW_snoc l b, rfl⟩
theorem w_snoc_hi (l : List Bool) (b : Bool) (h : 64 ≤ l.length) : w0 (l ++ [b]) = w0 l ∧ w1 (l ++ [b]) = w1 l + (if b then 2 ^ (l.length - 64) else 0) := by
  unfold w0 w1
  rw [List.take_append_of_le_length h, List.drop_append_of_le_length h, encW_snoc, List.length_drop]
  exact ⟨rfl, rfl⟩
theorem w0_small (l : List Bool) (h : l.length < 64) : w0 l < 2 ^ l.length := by
  unfold w0
  rw [List.take_of_length_le (by omega)]
  exact encW_lt l
theorem w1_small (l : List Bool) : w1 l < 2 ^ (l.length - 64) := by
  unfold w1
  have := encW_lt (l.drop 64)
  rwa [List.length_drop] at this
end Go.Proofs.YthkkcelfgcholaaGreat
