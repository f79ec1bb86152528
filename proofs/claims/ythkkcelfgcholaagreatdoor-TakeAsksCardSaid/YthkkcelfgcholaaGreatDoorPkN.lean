/- Clearing the lowest ones of a word, and where a one stands (plain Lean). No conditions. The walks of bits.Select and block.Select: where a bit with so many like it ahead stands. Conditions: there is such a bit; the table of math/bits stands in its variable. The walks of the tree's Ones and Select. Conditions: at most 128 bits; there is such a bit; the table of math/bits stands in its variable. The walk of the tally's Which. Conditions: a row that is there; at most 1000 symbols. -/
import Derived.Test.YthkkcelfgcholaaGreatDoorPkA
import Derived.Lib.TrailingZeros
import Derived.Test.YthkkcelfgcholaaGreatDoorPkD
import Derived.Test.YthkkcelfgcholaaGreatDoorSht
import Derived.Laws.Bits64
import Derived.Test.YthkkcelfgcholaaGreatDoorPkF
import Derived.Laws.Rows
namespace Go.Proofs.YthkkcelfgcholaaGreatDoor
set_option linter.unusedVariables false
set_option linter.unusedSimpArgs false
theorem ones_mono (x : Nat) {n m : Nat} (h : n ≤ m) : ones x n ≤ ones x m := by
  induction m with
  | zero => obtain rfl : n = 0 := by omega
            exact Nat.le_refl _
  | succ m ih =>
    rw [ones_succ]
    by_cases hn : n ≤ m
    · have := ih hn; omega
    · obtain rfl : n = m + 1 := by omega
      rw [ones_succ]
      exact Nat.le_refl _
theorem ones_ex (x : Nat) {i : Nat} : ∀ {n : Nat}, i < ones x n → ∃ q, q < n ∧ x.testBit q = true ∧ ones x q = i
  | 0, h => by rw [ones_zero] at h; omega
  | n + 1, h => by
    by_cases h1 : i < ones x n
    · obtain ⟨q, h2, h3, h4⟩ := ones_ex x h1
      exact ⟨q, by omega, h3, h4⟩
    · rw [ones_succ] at h
      cases hb : x.testBit n with
      | false => rw [hb] at h; simp at h; omega
      | true =>
        rw [hb] at h
        simp at h
        exact ⟨n, by omega, hb, by omega⟩
theorem ones_inj (x : Nat) {p q : Nat} (hp : x.testBit p = true) (hq : x.testBit q = true) (h : ones x p = ones x q) : p = q := by
  rcases Nat.lt_trichotomy p q with h1 | h1 | h1
  · have := ones_mono x (show p + 1 ≤ q from h1)
    rw [ones_succ, hp] at this
    simp at this
    omega
  · exact h1
  · have := ones_mono x (show q + 1 ≤ p from h1)
    rw [ones_succ, hq] at this
    simp at this
    omega
/-- The lowest one of a number. -/
theorem low_one {y : Nat} (h0 : 0 < y) (h : y < 2 ^ 64) : ∃ m, y = 2 ^ Lib.ctz 64 y * (2 * m + 1) ∧ Lib.ctz 64 y < 64 := by
  obtain ⟨m, h1, h2⟩ := Lib.ctzFrom_spec 64 y h0 h
  have e : Lib.ctz 64 y = Lib.ctzFrom 64 y := by unfold Lib.ctz; rw [if_neg (by omega)]
  exact ⟨m, by rw [e]; exact h1, by rw [e]; exact h2⟩
theorem low_bit (k m q : Nat) : (2 ^ k * (2 * m + 1)).testBit q = if q < k then false else if q = k then true else m.testBit (q - k - 1) := by
  rw [Nat.mul_comm, Nat.testBit_mul_two_pow]
  by_cases h1 : q < k
  · rw [if_pos h1, decide_eq_false (by omega)]
    rfl
  · rw [if_neg h1, decide_eq_true (by omega), Bool.true_and]
    by_cases h2 : q = k
    · rw [if_pos h2]
      subst h2
      rw [Nat.sub_self]
      simp [Nat.testBit_zero]
    · rw [if_neg h2]
      obtain ⟨d, hd⟩ : ∃ d, q - k = d + 1 := ⟨q - k - 1, by omega⟩
      rw [hd, Nat.testBit_succ]
      have : (2 * m + 1) / 2 = m := by omega
      rw [this]
      congr 1
theorem pred_bit (k m q : Nat) : (2 ^ k * (2 * m + 1) - 1).testBit q = if q < k then true else if q = k then false else m.testBit (q - k - 1) := by
  have hp : 0 < 2 ^ k := Nat.two_pow_pos k
  have e : 2 ^ k * (2 * m + 1) - 1 = 2 ^ k * (2 * m) + (2 ^ k - 1) := by
    rw [Nat.mul_add, Nat.mul_one]
    omega
  rw [e, Nat.testBit_two_pow_mul_add _ (by omega)]
  by_cases h1 : q < k
  · rw [if_pos h1, if_pos h1, Nat.testBit_two_pow_sub_one, decide_eq_true h1]
  · rw [if_neg h1, if_neg h1]
    by_cases h2 : q = k
    · rw [if_pos h2]
      subst h2
      rw [Nat.sub_self]
      simp [Nat.testBit_zero]
    · rw [if_neg h2]
      obtain ⟨d, hd⟩ : ∃ d, q - k = d + 1 := ⟨q - k - 1, by omega⟩
      rw [hd, Nat.testBit_succ]
      have : 2 * m / 2 = m := by omega
      rw [this]
      congr 1
/-- The lowest one is cleared. -/
theorem clear_low {y : Nat} (h0 : 0 < y) (h : y < 2 ^ 64) (q : Nat) : (y &&& (y - 1)).testBit q = (y.testBit q && decide (q ≠ Lib.ctz 64 y)) := by
  obtain ⟨m, h1, h2⟩ := low_one h0 h
  generalize Lib.ctz 64 y = k at h1 h2
  subst h1
  rw [Nat.testBit_and, low_bit, pred_bit]
  by_cases a1 : q < k
  · simp [a1]
  · by_cases a2 : q = k
    · simp [a2]
    · simp [a1, a2]
theorem ctz_bit {y : Nat} (h0 : 0 < y) (h : y < 2 ^ 64) : y.testBit (Lib.ctz 64 y) = true ∧ ∀ q, q < Lib.ctz 64 y → y.testBit q = false := by
  obtain ⟨m, h1, h2⟩ := low_one h0 h
  generalize Lib.ctz 64 y = k at h1 h2 ⊢
  subst h1
  refine ⟨?_, fun q hq => ?_⟩
  · rw [low_bit, if_neg (by omega), if_pos rfl]
  · rw [low_bit, if_pos hq]
/-- A word without its lowest i ones. -/
def clr (x : Nat) : Nat → Nat
  | 0 => x
  | i + 1 => clr x i &&& (clr x i - 1)
theorem clr_le (x i : Nat) : clr x i ≤ x := by
  induction i with
  | zero => exact Nat.le_refl _
  | succ i ih => exact Nat.le_trans Nat.and_le_left ih
theorem clr_bit {x : Nat} (hx : x < 2 ^ 64) {p : Nat} (hp : x.testBit p = true) : ∀ i, i ≤ ones x p → ∀ q, (clr x i).testBit q = (x.testBit q && decide (i ≤ ones x q))
  | 0, _, q => by simp [clr]
  | i + 1, hi, q => by
    have ih := clr_bit hx hp i (by omega)
    have hs : (clr x i).testBit p = true := by rw [ih, hp, decide_eq_true (by omega)]; rfl
    have h0 : 0 < clr x i := by
      rcases Nat.eq_zero_or_pos (clr x i) with h | h
      · rw [h] at hs; simp at hs
      · exact h
    have hlt : clr x i < 2 ^ 64 := Nat.lt_of_le_of_lt (clr_le x i) hx
    obtain ⟨k1, k2⟩ := ctz_bit h0 hlt
    show (clr x i &&& (clr x i - 1)).testBit q = _
    rw [clear_low h0 hlt]
    generalize Lib.ctz 64 (clr x i) = k at k1 k2
    rw [ih, Bool.and_eq_true, decide_eq_true_eq] at k1
    obtain ⟨k1, k3⟩ := k1
    have hk : ones x k = i := by
      by_cases h1 : i < ones x k
      · obtain ⟨q', a1, a2, a3⟩ := ones_ex x h1
        have := k2 q' a1
        rw [ih, a2, a3] at this
        simp at this
      · omega
    rw [ih]
    cases hb : x.testBit q with
    | false => rfl
    | true =>
      rw [Bool.true_and, Bool.true_and, Bool.eq_iff_iff, Bool.and_eq_true, decide_eq_true_eq, decide_eq_true_eq, decide_eq_true_eq]
      constructor
      · rintro ⟨h1, h2⟩
        by_cases h3 : ones x q = i
        · exact absurd (ones_inj x hb k1 (by omega)) h2
        · omega
      · intro h1
        refine ⟨by omega, ?_⟩
        rintro rfl
        omega
theorem clr_pos {x : Nat} (hx : x < 2 ^ 64) {p i : Nat} (hp : x.testBit p = true) (hi : i ≤ ones x p) : 0 < clr x i := by
  have := clr_bit hx hp i hi p
  rw [hp, decide_eq_true hi] at this
  rcases Nat.eq_zero_or_pos (clr x i) with h | h
  · rw [h] at this; simp at this
  · exact h
/-- Where the one with so many ahead stands. -/
theorem clr_ctz {x : Nat} (hx : x < 2 ^ 64) {p j : Nat} (hp : x.testBit p = true) (hj : ones x p = j) : Lib.ctz 64 (clr x j) = p := by
  have h0 := clr_pos hx hp (i := j) (by omega)
  have hlt : clr x j < 2 ^ 64 := Nat.lt_of_le_of_lt (clr_le x j) hx
  obtain ⟨k1, k2⟩ := ctz_bit h0 hlt
  have hb := clr_bit hx hp j (by omega)
  rcases Nat.lt_trichotomy (Lib.ctz 64 (clr x j)) p with h | h | h
  · rw [hb, Bool.and_eq_true, decide_eq_true_eq] at k1
    have := ones_mono x (show Lib.ctz 64 (clr x j) + 1 ≤ p from h)
    rw [ones_succ, k1.1] at this
    simp at this
    omega
  · exact h
  · have := k2 p h
    rw [hb, hp, decide_eq_true (by omega)] at this
    simp at this
/-- A word's bits, or what they are not. -/
def wordB (x : Nat) (b : Bool) : Nat := if b then x else 18446744073709551615 - x
theorem wordB_lt (x : Nat) (b : Bool) (h : x < 18446744073709551616) : wordB x b < 18446744073709551616 := by
  unfold wordB
  split <;> omega
theorem wordB_bit (x : Nat) (b : Bool) (h : x < 18446744073709551616) {q : Nat} (hq : q < 64) : (wordB x b).testBit q = (x.testBit q == b) := by
  unfold wordB
  cases b with
  | true => simp
  | false =>
    have e : 18446744073709551615 - x = 2 ^ 64 - (x + 1) := by omega
    simp only [Bool.false_eq_true, if_false]
    rw [e, Nat.testBit_two_pow_sub_succ (by omega), decide_eq_true hq]
    cases x.testBit q <;> rfl
theorem ones_count (x : Nat) (l : List Bool) (b : Bool) : ∀ n, n ≤ l.length → (∀ q, q < n → ∀ c, l[q]? = some c → x.testBit q = (c == b)) → ones x n = (l.take n).count b
  | 0, _, _ => by simp [ones_zero]
  | n + 1, hn, h => by
    have hc : l[n]? = some (l[n]'(by omega)) := List.getElem?_eq_getElem (by omega)
    rw [ones_succ, ones_count x l b n (by omega) (fun q hq => h q (by omega)), List.take_add_one, hc, List.count_append, h n (by omega) _ hc]
    simp [List.count_cons]
theorem w0_bit (l : List Bool) {q : Nat} (hq : q < 64) {c : Bool} (h : l[q]? = some c) : (w0 l).testBit q = c := by
  unfold w0
  rw [encW_bit, List.getD_eq_getElem?_getD, List.getElem?_take, if_pos hq, h]
  rfl
theorem w1_bit (l : List Bool) {q : Nat} {c : Bool} (h : l[64 + q]? = some c) : (w1 l).testBit q = c := by
  unfold w1
  rw [encW_bit, List.getD_eq_getElem?_getD, List.getElem?_drop, h]
  rfl
/-- The word's part of a list's count. -/
theorem sel_lo {l : List Bool} {b : Bool} {p j : Nat} (hl : l.length ≤ 128) (hp : l[p]? = some b) (hj : (l.take p).count b = j) (h : p < 64) :
    (wordB (w0 l) b).testBit p = true ∧ ones (wordB (w0 l) b) p = j ∧ j < ones (wordB (w0 l) b) 64 := by
  have hlt := w0_lt l
  have hpl := (List.getElem?_eq_some_iff.1 hp).1
  have h1 : (wordB (w0 l) b).testBit p = true := by rw [wordB_bit _ _ hlt h, w0_bit l h hp]; simp
  have h2 : ones (wordB (w0 l) b) p = j := by
    rw [← hj]
    exact ones_count _ l b p (by omega) fun q hq c hc => by rw [wordB_bit _ _ hlt (by omega), w0_bit l (by omega) hc]
  refine ⟨h1, h2, ?_⟩
  have := ones_mono (wordB (w0 l) b) (show p + 1 ≤ 64 by omega)
  rw [ones_succ, h1, h2] at this
  simp at this
  omega
theorem sel_hi {l : List Bool} {b : Bool} {p j : Nat} (hl : l.length ≤ 128) (hp : l[p]? = some b) (hj : (l.take p).count b = j) (h : 64 ≤ p) :
    ∃ n k, ones (wordB (w0 l) b) 64 = n ∧ n ≤ j ∧ j - n = k ∧ (wordB (w1 l) b).testBit (p - 64) = true ∧ ones (wordB (w1 l) b) (p - 64) = k ∧ k < ones (wordB (w1 l) b) 64 := by
  have hlt := w0_lt l
  have hlt1 := w1_lt l hl
  have hpl := (List.getElem?_eq_some_iff.1 hp).1
  have e0 : ones (wordB (w0 l) b) 64 = (l.take 64).count b := ones_count _ l b 64 (by omega) fun q hq c hc => by rw [wordB_bit _ _ hlt hq, w0_bit l hq hc]
  have hsplit : (l.take p).count b = (l.take 64).count b + ((l.drop 64).take (p - 64)).count b := by
    have : l.take p = l.take 64 ++ (l.drop 64).take (p - 64) := by
      rw [← List.take_add]
      congr 1
      omega
    rw [this, List.count_append]
  have h1 : (wordB (w1 l) b).testBit (p - 64) = true := by
    rw [wordB_bit _ _ hlt1 (by omega), w1_bit l (q := p - 64) (by rw [show 64 + (p - 64) = p by omega]; exact hp)]
    simp
  have h2 : ones (wordB (w1 l) b) (p - 64) = ((l.drop 64).take (p - 64)).count b :=
    ones_count _ (l.drop 64) b (p - 64) (by rw [List.length_drop]; omega) fun q hq c hc => by
      rw [List.getElem?_drop] at hc
      rw [wordB_bit _ _ hlt1 (by omega), w1_bit l hc]
  refine ⟨_, _, e0, by omega, rfl, h1, by rw [h2]; omega, ?_⟩
  have := ones_mono (wordB (w1 l) b) (show p - 64 + 1 ≤ 64 by omega)
  rw [ones_succ, h1, h2] at this
  simp at this
  omega
end Go.Proofs.YthkkcelfgcholaaGreatDoor
namespace Go.Proofs.YthkkcelfgcholaaGreatDoor
open Go.RowKit
set_option linter.unusedVariables false
set_option linter.unusedSimpArgs false
/-- The table of math/bits in its variable. -/
def TabW (w : World) : Prop := TabAt 0 Lib.deBruijn64tab w
theorem TabW.below {B : Nat} {w w' : World} (h : TabW w) (k : Below B w w') (hB : 0 < B) : TabW w' := fun j hj => (k.cell (p := ⟨0, j, none⟩) hB).trans (h j hj)
theorem TabW.pos {w : World} (h : TabW w) : 0 < w.heap.size := by
  have h0 := h 0 (by decide)
  rcases Nat.lt_or_ge 0 w.heap.size with e | e
  · exact e
  · exfalso
    have : w.heap[0]? = none := Array.getElem?_eq_none e
    simp [World.cell?, this] at h0
theorem Tz_any (x p : Nat) (hx : x < 18446744073709551616) (hp : Lib.ctz 64 x = p) (w : World) (hT : TabW w) :
    Calls Tryz.prog 172 #[.int .u64 (x : Int)] w fun e w' => e = .returned (.int .i64 (p : Int)) ∧ w' = w := by
  have := Any7.bits_TrailingZeros64 shTz x hx w (fun _ => hT)
  rw [hp] at this
  exact this
set_option maxRecDepth 100000 in
set_option maxHeartbeats 1000000 in
theorem BitsSelect_any (x p j : Nat) (hx : x < 18446744073709551616) (hp : x.testBit p = true) (hj : ones x p = j) (hj64 : j < ones x 64) (w : World) (hT : TabW w) (hw : 0 < w.heap.size) :
    Calls Tryz.prog 159 #[.int .u64 (x : Int), .int .i64 (j : Int)] w fun e w' => e = .returned (.int .i64 (p : Int)) ∧ Below w.heap.size w w' := by
  have hctz := clr_ctz (x := x) hx hp hj
  have hpos := fun i hi => clr_pos (x := x) hx hp (i := i) hi
  rw [hj] at hpos
  have hle := clr_le x
  have h64 := ones_le x 64
  have Hctz := Lib.hid hctz
  have Hpos := Lib.hid hpos
  have Hle := Lib.hid hle
  have Hj64 := Lib.hid hj64
  have HT := Lib.hid hT
  clear hctz hpos hle hp hj hT
  have g0 : decide ((j : Int) < 0) = false := by simp
  go_enter Tryz.func159, Tryz.ntmps159
  go_wp2_with fail
  refine (Count_any _ 1 1 _ [x] _ (Rd.made _ _ 1 1 _ rfl) (by simpa using hx) (by omega)).mono ?_
  rintro e W ⟨rfl, hW⟩
  have hbW : Below w.heap.size w W := by first | (rw [hW]; exact (Below.refl _ _).alloc (Nat.le_refl _) _) | (rw [← hW]; exact (Below.refl _ _).alloc (Nat.le_refl _) _)
  have hsum : (([x].map fun x => ones x 64).sum) = ones x 64 := by simp
  rw [hsum]
  obtain ⟨o, ho⟩ : ∃ o, ones x 64 = o := ⟨_, rfl⟩
  rw [ho] at hj64 h64 ⊢
  have g1 : decide ((j : Int) ≥ (o : Int)) = false := by simp; omega
  clear hsum ho
  have HbW := Lib.hid hbW
  clear hW hbW
  go_wp2_with fail
  go_loopw [0, 15] (fun v i wr => ∃ q : Nat, q ≤ j ∧ i = .int .i64 (q : Int) ∧ v = .int .u64 ((clr x q : Nat) : Int) ∧ wr = W) (fun _ i _ => j - (intOf i).toNat)
  case atStart => exact ⟨0, Nat.zero_le _, rfl, rfl, rfl⟩
  case round =>
    obtain ⟨q, hq, rfl, rfl, rfl⟩ := hrel
    by_cases hlt : q < j
    · have h0 := Hpos.out q (by omega)
      have hl := Hle.out q
      have hs : clr x (q + 1) = clr x q &&& (clr x q - 1) := rfl
      obtain ⟨y, hy⟩ : ∃ y, clr x q = y := ⟨_, rfl⟩
      rw [hy] at h0 hl hs ⊢
      obtain ⟨y1, hy1⟩ : ∃ y1, y - 1 = y1 := ⟨_, rfl⟩
      rw [hy1] at hs
      have e1 : IntKind.u64.wrap ((y : Int) - 1) = (y1 : Int) := by rw [IntKind.wrap_u64]; omega
      have e2 := and64 y y1 (by omega) (by omega)
      have Hs := Lib.hid hs
      clear hy hy1 hs h0 hl
      go_wp2_with fail
      go_roundw
      case rel => exact ⟨q + 1, by omega, by go_num, by rw [Hs.out], by first | rfl | trivial⟩
      case measure => simp [intOf]; omega
    · obtain rfl : q = j := by omega
      have hl := Hle.out q
      have hc := Hctz.out
      obtain ⟨y, hy⟩ : ∃ y, clr x q = y := ⟨_, rfl⟩
      rw [hy] at hl hc ⊢
      have hT := HT.out.below HbW.out hw
      clear hy
      go_wp2_with fail
      refine (Tz_any y p (by omega) hc _ hT).mono ?_
      rintro e w2 ⟨rfl, rfl⟩
      go_wp2_with fail
      go_ret
      exact ⟨rfl, HbW.out⟩
theorem xor_all (y : Nat) (h : y < 18446744073709551616) : 18446744073709551615 ^^^ y = 18446744073709551615 - y := by
  have e1 : 18446744073709551615 = 2 ^ 64 - 1 := by decide
  have e2 : 18446744073709551615 - y = 2 ^ 64 - (y + 1) := by omega
  rw [e2, e1]
  apply Nat.eq_of_testBit_eq
  intro i
  rw [Nat.testBit_xor, Nat.testBit_two_pow_sub_one, Nat.testBit_two_pow_sub_succ h]
  by_cases hi : i < 64
  · simp [hi]
  · have : y.testBit i = false := Nat.testBit_lt_two_pow (Nat.lt_of_lt_of_le (show y < 2 ^ 64 from h) (Nat.pow_le_pow_right (by decide) (show 64 ≤ i by omega)))
    simp [hi, this]
theorem xor64 (y : Nat) (h : y < 18446744073709551616) : bits .xor .u64 IntKind.u64.max (y : Int) = ((wordB y false : Nat) : Int) := by
  have e : IntKind.u64.max = ((18446744073709551615 : Nat) : Int) := by decide
  rw [e, bits_xor_u64_nat _ _ (by omega) h]
  congr 1
  unfold wordB
  simp only [Bool.false_eq_true, if_false]
  exact xor_all y h
set_option maxRecDepth 100000 in
set_option maxHeartbeats 2000000 in
theorem BlockSelect_any (gb : Nat) (l : List Bool) (b : Bool) (p j : Nat) (w : World) (hb : Bk w gb 144 (blkC l)) (hl : l.length ≤ 128) (hp : l[p]? = some b) (hj : (l.take p).count b = j) (hT : TabW w) :
    Calls Tryz.prog 139 #[.pointer (some ⟨gb, 0, none⟩), .int .i64 (j : Int), .bool b] w fun e w' => e = .returned (.int .i64 (p : Int)) ∧ Below w.heap.size w w' := by
  have hpl := (List.getElem?_eq_some_iff.1 hp).1
  have hw : 0 < w.heap.size := hT.pos
  have hx0 := wordB_lt _ b (w0_lt l)
  have hx1 := wordB_lt _ b (w1_lt l hl)
  have hw0 := w0_lt l
  have hw1 := w1_lt l hl
  have c0 := hb.cell 0
  have c1 := hb.cell 1
  have c2 := hb.cell 2
  have g0 : decide ((j : Int) < 0) = false := by simp
  have hlen : p < l.length := hpl
  have hsum : ∀ x : Nat, (([x].map fun x => ones x 64).sum) = ones x 64 := fun x => by simp
  obtain ⟨x0, ex0⟩ : ∃ x, wordB (w0 l) b = x := ⟨_, rfl⟩
  obtain ⟨x1, ex1⟩ : ∃ x, wordB (w1 l) b = x := ⟨_, rfl⟩
  unfold blkC at c0 c1 c2
  obtain ⟨y0, ey0⟩ : ∃ x, w0 l = x := ⟨_, rfl⟩
  obtain ⟨y1, ey1⟩ : ∃ x, w1 l = x := ⟨_, rfl⟩
  obtain ⟨N, hN⟩ : ∃ n, l.length = n := ⟨_, rfl⟩
  have i0 := ix0 (y0 : Int) (y1 : Int)
  have i1 := ix1 (y0 : Int) (y1 : Int)
  rw [ex0] at hx0
  rw [ex1] at hx1
  rw [ey0] at hw0 ex0
  rw [ey1] at hw1 ex1
  rw [hN, ey0, ey1] at c0 c1 c2
  rw [hN] at hlen
  have HT := Lib.hid hT
  replace c0 : w.cell? ⟨gb, 0, none⟩ = some (.int .i64 (N : Int)) := c0.trans rfl
  have hlt := hb.lt
  have C0 := Lib.hid c0
  have HN128 := Lib.hid hl
  have hjp : j ≤ p := by rw [← hj]; exact Nat.le_trans List.count_le_length (by rw [List.length_take]; omega)
  have Hjp := Lib.hid hjp
  clear hjp
  have hlo := fun h => sel_lo (b := b) hl hp hj h
  have hhi := fun h => sel_hi (b := b) hl hp hj h
  rw [ey0, ex0] at hlo hhi
  rw [ey1, ex1] at hhi
  obtain ⟨o0, ho0⟩ : ∃ o, ones x0 64 = o := ⟨_, rfl⟩
  obtain ⟨o1, ho1⟩ : ∃ o, ones x1 64 = o := ⟨_, rfl⟩
  obtain ⟨kk, hkk⟩ : ∃ k, j - o0 = k := ⟨_, rfl⟩
  have hhi' : 64 ≤ p → o0 ≤ j ∧ x1.testBit (p - 64) = true ∧ ones x1 (p - 64) = kk ∧ kk < o1 := fun h => by
    obtain ⟨n, k, h1, h2, h3, h4, h5, h6⟩ := hhi h
    rw [ho0] at h1
    rw [ho1] at h6
    subst h1
    rw [hkk] at h3
    subst h3
    exact ⟨h2, h4, h5, h6⟩
  have hxx : b = false → bits .xor .u64 IntKind.u64.max (y0 : Int) = (x0 : Int) ∧ bits .xor .u64 IntKind.u64.max (y1 : Int) = (x1 : Int) := fun hf => by
    rw [← ex0, ← ex1, hf]
    exact ⟨xor64 y0 hw0, xor64 y1 hw1⟩
  have htt : b = true → x0 = y0 ∧ x1 = y1 := fun hf => by
    rw [← ex0, ← ex1, hf]
    simp [wordB]
  have Hlo := Lib.hid hlo
  have Hhi := Lib.hid hhi'
  have Ho0 := Lib.hid ho0
  have Ho1 := Lib.hid ho1
  have Hkk := Lib.hid hkk
  have HN := Lib.hid hN
  have Hp := Lib.hid hpl
  clear hlo hhi hhi' ho0 ho1 hkk hN hp hj hb hl hT ex0 ex1 ey0 ey1 hpl
  have Hxx := Lib.hid hxx
  have Htt := Lib.hid htt
  clear hxx htt
  cases b with
  | true =>
    replace Htt := Htt.out rfl
    clear Hxx
    go_enter Tryz.func139, Tryz.ntmps139
    go_wp2_with fail
    go_loopw [1, 21] (fun v i wr => ∃ q : Nat, i = .int .i64 (q : Int) ∧ ((q = 0 ∧ v = .int .i64 (j : Int)) ∨ (q = 1 ∧ 64 ≤ p ∧ v = .int .i64 (kk : Int))) ∧ Below w.heap.size w wr) (fun _ i _ => 2 - (intOf i).toNat)
    case atStart => exact ⟨0, rfl, .inl ⟨rfl, rfl⟩, Below.refl _ _⟩
    case round =>
      obtain ⟨q, rfl, (⟨rfl, rfl⟩ | ⟨rfl, h64, rfl⟩), hbw⟩ := hrel
      all_goals
        obtain ⟨z0, z1⟩ := Htt
        subst z0
        subst z1
      · clear c1 c2 i1
        have hsz := hbw.size
        have d0 := (hbw.cell (p := ⟨gb, 0, none⟩) hlt).trans c0
        clear c0
        go_wp2_with fail
        refine (Count_any _ 1 1 _ [x0] _ (Rd.made _ _ 1 1 _ rfl) (by simpa using hx0) (by omega)).mono ?_
        rintro e W ⟨rfl, hW⟩
        have hbW : Below w.heap.size w W := by first | (rw [hW]; exact hbw.alloc hsz _) | (rw [← hW]; exact hbw.alloc hsz _)
        rw [hsum, Ho0.out]
        have d1 := (hbW.cell (p := ⟨gb, 0, none⟩) hlt).trans C0.out
        clear hW d0
        by_cases h : p < 64
        · obtain ⟨s1, s2, s3⟩ := Hlo.out h
          have s4 := s3
          rw [Ho0.out] at s4
          have g1 : j < o0 := s4
          have e5 : IntKind.i64.wrap (p : Int) = (p : Int) := by rw [IntKind.wrap_i64]; omega
          have S1 := Lib.hid s1
          have S2 := Lib.hid s2
          have S3 := Lib.hid s3
          clear s1 s2 s3 s4
          go_wp2_with fail
          refine (BitsSelect_any x0 p j hx0 S1.out S2.out S3.out _ (HT.out.below hbW hw) (Nat.lt_of_lt_of_le hw hbW.size)).mono ?_
          rintro e W2 ⟨rfl, hb2⟩
          have hbW2 := hbW.trans (hb2.mono hbW.size)
          have d2 := (hbW2.cell (p := ⟨gb, 0, none⟩) hlt).trans C0.out
          clear d1
          go_wp2_with fail
          go_ret
          exact ⟨rfl, hbW2⟩
        · obtain ⟨s0, s1, s2, s3⟩ := Hhi.out (by omega)
          have g1 : ¬ j < o0 := by omega
          have g2 : decide (j < o0) = false := decide_eq_false g1
          have e5 : IntKind.i64.wrap ((j : Int) - (o0 : Int)) = (kk : Int) := by have := Hkk.out; have h3 := HN128.out; have h4 := Hjp.out; have h5 := Hp.out; rw [IntKind.wrap_i64]; omega
          clear s0 s1 s2 s3
          go_wp2_with fail
          go_roundw
          case rel => exact ⟨1, by go_num, .inr ⟨by first | rfl | trivial, by omega, by go_num⟩, hbW⟩
          case measure => simp [intOf]
      · clear c1 c2 i0
        have hsz := hbw.size
        have d0 := (hbw.cell (p := ⟨gb, 0, none⟩) hlt).trans c0
        clear c0
        go_wp2_with fail
        refine (Count_any _ 1 1 _ [x1] _ (Rd.made _ _ 1 1 _ rfl) (by simpa using hx1) (by omega)).mono ?_
        rintro e W ⟨rfl, hW⟩
        have hbW : Below w.heap.size w W := by first | (rw [hW]; exact hbw.alloc hsz _) | (rw [← hW]; exact hbw.alloc hsz _)
        rw [hsum, Ho1.out]
        have d1 := (hbW.cell (p := ⟨gb, 0, none⟩) hlt).trans C0.out
        clear hW d0
        obtain ⟨s0, s1, s2, s3⟩ := Hhi.out h64
        have s4 := s3
        rw [← Ho1.out] at s3
        have g1 : kk < o1 := s4
        have e5 : IntKind.i64.wrap (64 + ((p - 64 : Nat) : Int)) = (p : Int) := by have h3 := HN128.out; have h4 := Hp.out; rw [IntKind.wrap_i64]; omega
        obtain ⟨pp, hpp⟩ : ∃ x, p - 64 = x := ⟨_, rfl⟩
        rw [hpp] at e5 s1 s2
        have S1 := Lib.hid s1
        have S2 := Lib.hid s2
        have S3 := Lib.hid s3
        clear s0 s1 s2 s3 s4 hpp h64
        go_wp2_with fail
        refine (BitsSelect_any x1 pp kk hx1 S1.out S2.out S3.out _ (HT.out.below hbW hw) (Nat.lt_of_lt_of_le hw hbW.size)).mono ?_
        rintro e W2 ⟨rfl, hb2⟩
        have hbW2 := hbW.trans (hb2.mono hbW.size)
        have d2 := (hbW2.cell (p := ⟨gb, 0, none⟩) hlt).trans C0.out
        clear d1
        go_wp2_with fail
        go_ret
        exact ⟨rfl, hbW2⟩
  | false =>
    replace Hxx := Hxx.out rfl
    clear Htt
    go_enter Tryz.func139, Tryz.ntmps139
    go_wp2_with fail
    go_loopw [1, 21] (fun v i wr => ∃ q : Nat, i = .int .i64 (q : Int) ∧ ((q = 0 ∧ v = .int .i64 (j : Int)) ∨ (q = 1 ∧ 64 ≤ p ∧ v = .int .i64 (kk : Int))) ∧ Below w.heap.size w wr) (fun _ i _ => 2 - (intOf i).toNat)
    case atStart => exact ⟨0, rfl, .inl ⟨rfl, rfl⟩, Below.refl _ _⟩
    case round =>
      obtain ⟨q, rfl, (⟨rfl, rfl⟩ | ⟨rfl, h64, rfl⟩), hbw⟩ := hrel
      all_goals
        obtain ⟨z0, z1⟩ := Hxx
      · clear c1 c2 i1
        have hsz := hbw.size
        have d0 := (hbw.cell (p := ⟨gb, 0, none⟩) hlt).trans c0
        clear c0
        go_wp2_with fail
        refine (Count_any _ 1 1 _ [x0] _ (Rd.made _ _ 1 1 _ rfl) (by simpa using hx0) (by omega)).mono ?_
        rintro e W ⟨rfl, hW⟩
        have hbW : Below w.heap.size w W := by first | (rw [hW]; exact hbw.alloc hsz _) | (rw [← hW]; exact hbw.alloc hsz _)
        rw [hsum, Ho0.out]
        have d1 := (hbW.cell (p := ⟨gb, 0, none⟩) hlt).trans C0.out
        clear hW d0
        by_cases h : p < 64
        · obtain ⟨s1, s2, s3⟩ := Hlo.out h
          have s4 := s3
          rw [Ho0.out] at s4
          have g1 : j < o0 := s4
          have e5 : IntKind.i64.wrap (p : Int) = (p : Int) := by rw [IntKind.wrap_i64]; omega
          have S1 := Lib.hid s1
          have S2 := Lib.hid s2
          have S3 := Lib.hid s3
          clear s1 s2 s3 s4
          go_wp2_with fail
          refine (BitsSelect_any x0 p j hx0 S1.out S2.out S3.out _ (HT.out.below hbW hw) (Nat.lt_of_lt_of_le hw hbW.size)).mono ?_
          rintro e W2 ⟨rfl, hb2⟩
          have hbW2 := hbW.trans (hb2.mono hbW.size)
          have d2 := (hbW2.cell (p := ⟨gb, 0, none⟩) hlt).trans C0.out
          clear d1
          go_wp2_with fail
          go_ret
          exact ⟨rfl, hbW2⟩
        · obtain ⟨s0, s1, s2, s3⟩ := Hhi.out (by omega)
          have g1 : ¬ j < o0 := by omega
          have g2 : decide (j < o0) = false := decide_eq_false g1
          have e5 : IntKind.i64.wrap ((j : Int) - (o0 : Int)) = (kk : Int) := by have := Hkk.out; have h3 := HN128.out; have h4 := Hjp.out; have h5 := Hp.out; rw [IntKind.wrap_i64]; omega
          clear s0 s1 s2 s3
          go_wp2_with fail
          go_roundw
          case rel => exact ⟨1, by go_num, .inr ⟨by first | rfl | trivial, by omega, by go_num⟩, hbW⟩
          case measure => simp [intOf]
      · clear c1 c2 i0
        have hsz := hbw.size
        have d0 := (hbw.cell (p := ⟨gb, 0, none⟩) hlt).trans c0
        clear c0
        go_wp2_with fail
        refine (Count_any _ 1 1 _ [x1] _ (Rd.made _ _ 1 1 _ rfl) (by simpa using hx1) (by omega)).mono ?_
        rintro e W ⟨rfl, hW⟩
        have hbW : Below w.heap.size w W := by first | (rw [hW]; exact hbw.alloc hsz _) | (rw [← hW]; exact hbw.alloc hsz _)
        rw [hsum, Ho1.out]
        have d1 := (hbW.cell (p := ⟨gb, 0, none⟩) hlt).trans C0.out
        clear hW d0
        obtain ⟨s0, s1, s2, s3⟩ := Hhi.out h64
        have s4 := s3
        rw [← Ho1.out] at s3
        have g1 : kk < o1 := s4
        have e5 : IntKind.i64.wrap (64 + ((p - 64 : Nat) : Int)) = (p : Int) := by have h3 := HN128.out; have h4 := Hp.out; rw [IntKind.wrap_i64]; omega
        obtain ⟨pp, hpp⟩ : ∃ x, p - 64 = x := ⟨_, rfl⟩
        rw [hpp] at e5 s1 s2
        have S1 := Lib.hid s1
        have S2 := Lib.hid s2
        have S3 := Lib.hid s3
        clear s0 s1 s2 s3 s4 hpp h64
        go_wp2_with fail
        refine (BitsSelect_any x1 pp kk hx1 S1.out S2.out S3.out _ (HT.out.below hbW hw) (Nat.lt_of_lt_of_le hw hbW.size)).mono ?_
        rintro e W2 ⟨rfl, hb2⟩
        have hbW2 := hbW.trans (hb2.mono hbW.size)
        have d2 := (hbW2.cell (p := ⟨gb, 0, none⟩) hlt).trans C0.out
        clear d1
        go_wp2_with fail
        go_ret
        exact ⟨rfl, hbW2⟩
end Go.Proofs.YthkkcelfgcholaaGreatDoor
namespace Go.Proofs.YthkkcelfgcholaaGreatDoor
open Go.RowKit
set_option linter.unusedVariables false
set_option linter.unusedSimpArgs false
set_option maxRecDepth 100000 in
theorem TreeOnes_any (gt : Nat) (bs : List Bool) (w : World) (h : TreeAt w gt bs) :
    Calls Tryz.prog 138 #[.pointer (some ⟨gt, 0, none⟩)] w fun e w' => e = .returned (.int .i64 ((bs.count true : Nat) : Int)) ∧ Below w.heap.size w w' := by
  obtain ⟨ga, v, ⟨rfl, vl, h2⟩ | ⟨h1, h2, gl, cl, gb, h3⟩⟩ := h
  · have c2 : w.cell? ⟨gt, 2, none⟩ = some (.int .i64 (-1)) := (h2.cell 2).trans rfl
    clear h2
    go_enter Tryz.func138, Tryz.ntmps138
    go_wp2
    go_ret
    exact ⟨rfl, Below.refl _ _⟩
  · obtain ⟨c0, c1, c2, c3, d0, d1, d2, d3, d4, d5, d6, d7⟩ := h3.cells
    clear h3
    go_enter Tryz.func138, Tryz.ntmps138
    go_wp2
    go_quiet (fail)
    go_wp2
    go_ret
    exact ⟨rfl, ⟨rfl, rfl, rfl, Nat.le_refl _, fun _ _ => rfl⟩⟩
/-- The table stands under what a lookup writes. -/
theorem TabW.visk {g : Nat} {w w' : World} (h : TabW w) (k : VisK (fun b => b = g) w w') (hg : 0 < g) (hw : 0 < w.heap.size) : TabW w' :=
  fun j hj => (k.2.cell (p := ⟨0, j, none⟩) hw (by show ¬ (0 = g); omega)).trans (h j hj)
theorem count_lt {l : List Bool} {b : Bool} {p : Nat} (hp : l[p]? = some b) : (l.take p).count b < l.count b := by
  have hpl := (List.getElem?_eq_some_iff.1 hp).1
  have e : l = l.take (p + 1) ++ l.drop (p + 1) := (List.take_append_drop _ _).symm
  have h1 : l.count b = (l.take (p + 1)).count b + (l.drop (p + 1)).count b := by rw [← List.count_append, List.take_append_drop]
  have h2 : (l.take (p + 1)).count b = (l.take p).count b + 1 := by
    rw [List.take_add_one, hp, List.count_append]
    simp
  omega
set_option maxRecDepth 100000 in
set_option maxHeartbeats 1000000 in
theorem TreeSelect_any (gt : Nat) (bs : List Bool) (p j : Nat) (b : Bool) (w : World) (h : TreeAt w gt bs) (hp : bs[p]? = some b) (hj : (bs.take p).count b = j) (hT : TabW w) (hg0 : 0 < gt) :
    Calls Tryz.prog 111 #[.pointer (some ⟨gt, 0, none⟩), .int .i64 (j : Int), .bool b] w fun e w' => e = .returned (.int .i64 (p : Int)) ∧ VisK (fun b => b = gt) w w' := by
  have hbl : bs.length ≤ 128 := by
    obtain ⟨ga, v, ⟨rfl, vl, h2⟩ | ⟨h1, h2, h3⟩⟩ := h
    · simp
    · exact h2
  have hpl := (List.getElem?_eq_some_iff.1 hp).1
  have hclt := count_lt hp
  rw [hj] at hclt
  have hcb := count_both bs
  have hv0 : ∃ cs, Bk w gt 117 cs ∧ 3 < cs.size := by
    obtain ⟨ga, v, ⟨rfl, vl, h2⟩ | ⟨h1, h2, gl, cl, gb, h3⟩⟩ := h
    · exact ⟨_, h2, by simp⟩
    · exact ⟨_, h3.tree, by simp⟩
  obtain ⟨cs, hcs, hc3⟩ := hv0
  have hw0 : 0 < w.heap.size := hT.pos
  have hv1 := VisK.set_tree hcs 0
  have ht1 := h.vis hv1.1
  have hgl := hcs.lt
  have c3 : w.cell? ⟨gt, 3, none⟩ = some cs[3] := by rw [hcs.cell 3]; simp [hc3]
  have f3 := hcs.frozen 3
  obtain ⟨N, hN⟩ : ∃ N, bs.length = N := ⟨_, rfl⟩
  obtain ⟨o, ho⟩ : ∃ o, bs.count true = o := ⟨_, rfl⟩
  rw [hN, ho] at hcb
  have hlike : j < (if b then o else N - o) := by
    cases b
    · simp; omega
    · simp; omega
  have hN128 : N ≤ 128 := by omega
  have hoN : o ≤ N := by omega
  have hj128 : j ≤ 128 := by rw [← hj]; exact Nat.le_trans List.count_le_length (by rw [List.length_take]; omega)
  have hp128 : p ≤ 128 := by omega
  obtain ⟨r, hr⟩ : ∃ r, (if b then o else N - o) = r := ⟨_, rfl⟩
  rw [hr] at hlike
  have HV := Lib.hid hv1
  have Hh := Lib.hid h
  have Hbl := Lib.hid hbl
  have Ht := Lib.hid ht1
  have HN := Lib.hid hN
  have Hp := Lib.hid hp
  have Hj := Lib.hid hj
  have Ho := Lib.hid ho
  have Hr := Lib.hid hr
  have HT := Lib.hid hT
  have Hlike := Lib.hid hlike
  clear h hbl hv1 ht1 hcs hN hpl hclt hcb hp hj ho hr hT
  go_enter Tryz.func111, Tryz.ntmps111
  go_wp2_with fail
  clear c3 f3
  refine (TreeLen_any gt bs _ Ht.out).mono ?_
  rintro e w2 ⟨rfl, hb2⟩
  rw [HN.out]
  have hv2 := HV.out.below hb2
  have ht2 := Hh.out.vis hv2.1
  have HV2 := Lib.hid hv2
  have Ht2 := Lib.hid ht2
  clear hv2 ht2 HV Ht hb2
  go_wp2_with fail
  refine (TreeOnes_any gt bs _ Ht2.out).mono ?_
  rintro e w3 ⟨rfl, hb3⟩
  rw [Ho.out]
  have hv3 := HV2.out.below hb3
  have ht3 := Hh.out.vis hv3.1
  have HV3 := Lib.hid hv3
  have Ht3 := Lib.hid ht3
  clear hv3 ht3 HV2 Ht2 hb3
  go_wp2_with fail
  refine (like_any N o b _ hN128 hoN).mono ?_
  rintro e w4 ⟨rfl, hb4⟩
  rw [Hr.out]
  have hv4 := HV3.out.below hb4
  have ht4 := Hh.out.vis hv4.1
  have hn1 : ¬ r ≤ j := by omega
  have hn2 : decide (r ≤ j) = false := decide_eq_false hn1
  obtain ⟨ga, v, ⟨hbe, _, _⟩ | ⟨hbe, hb2, gl, cl, gb, hl⟩⟩ := ht4
  · have h1 := Hp.out
    rw [hbe] at h1
    simp at h1
  obtain ⟨c0, c1, c2, c3, d0, d1, d2, d3, d4, d5, d6, d7⟩ := hl.cells
  have hl2 := hl.row.lt
  have hgl2 := hl.tree.lt
  have hgt_gl : gt ≠ gl := hl.row.bk_ne hl.tree (by decide)
  have f3 := hl.tree.frozen 3
  have Hl := Lib.hid hl
  have H2 := Lib.hid hb2
  have HV4 := Lib.hid hv4
  clear hl hb2 hbe hv4 hb4 HV3 Ht3
  go_wp2_with fail
  go_loopw [1, 7, 8] (fun x y z wr => x = .int .i64 (j : Int) ∧ y = .int .i64 0 ∧ z = .int .i64 0 ∧ wr = w4) (fun _ _ _ _ => 0)
  case atStart => exact ⟨rfl, rfl, rfl, rfl⟩
  case round =>
    obtain ⟨rfl, rfl, rfl, rfl⟩ := hrel
    go_wp2_with fail
    refine (like_any 0 0 b _ (by omega) (Nat.le_refl _)).mono ?_
    rintro e w5 ⟨rfl, hb5⟩
    have e0 : (if b = true then 0 else 0 - 0 : Nat) = 0 := by cases b <;> rfl
    rw [e0]
    have hgb := Bk.ne Hl.out.blk Hl.out.tree (by decide)
    have hv5 := (VisK.set_tree Hl.out.tree (wrap64 (v + 1))).alloc (.cells #[.int .i64 (-1), .int .i64 (-1), .int .i64 0, .int .i64 (bs.length : Int), .int .i64 ((bs.count true : Nat) : Int), .int .i64 0, .int .i64 0, .pointer (some ⟨gb, 0, none⟩)] 120)
    have hw5 := hv5.below hb5
    have hblk := (Hl.out.blk.far (p := ⟨gt, 3, none⟩) hgb (.int .i64 (wrap64 (v + 1)))).alloc (.cells #[.int .i64 (-1), .int .i64 (-1), .int .i64 0, .int .i64 (bs.length : Int), .int .i64 ((bs.count true : Nat) : Int), .int .i64 0, .int .i64 0, .pointer (some ⟨gb, 0, none⟩)] 120)
    have hblk5 := hblk.below hb5 hblk.lt
    have hx7 := hb5.cell (p := ⟨wr.heap.size, 7, none⟩) (by simp [World.setCell])
    have hTw := ((HV4.out.trans hv5).below hb5)
    have HT5 := Lib.hid (HT.out.visk hTw hg0 hw0)
    have HV5 := Lib.hid hTw
    have Hblk5 := Lib.hid hblk5
    clear hw5 hblk hblk5 hv5 hTw hb5
    go_wp2_with fail
    refine (BlockSelect_any gb bs b p j _ Hblk5.out H2.out Hp.out Hj.out HT5.out).mono ?_
    rintro e w6 ⟨rfl, hb6⟩
    have hv6 := HV5.out.below hb6
    have e5 : IntKind.i64.wrap (p : Int) = (p : Int) := by rw [IntKind.wrap_i64]; omega
    go_wp2_with fail
    go_ret
    exact ⟨ret_i64 (by omega), hv6⟩
end Go.Proofs.YthkkcelfgcholaaGreatDoor
namespace Go.Proofs.YthkkcelfgcholaaGreatDoor
open Go.RowKit
set_option linter.unusedVariables false
set_option linter.unusedSimpArgs false
/-- How often each symbol stands. -/
@[irreducible] def cntL (L : List Nat) : List Value := (List.range 257).map fun s => .int .i64 ((L.count s : Nat) : Int)
theorem cntL_at (L : List Nat) {s : Nat} (h : s < 257) : (cntL L)[s]? = some (.int .i64 ((L.count s : Nat) : Int)) := by
  unfold cntL
  rw [List.getElem?_map, List.getElem?_range h]
  rfl
theorem cntL_len (L : List Nat) : (cntL L).length = 257 := by unfold cntL; simp
theorem load_cnt {w : World} {gt : Nat} {L : List Nat} (h : Bk w gt 125 (tcells L)) : (loadCells ⟨gt, 0, none⟩ 257).run Tryz.prog w = .ok (cntL L).toArray w := by
  have := run_loadCells_list (P := Tryz.prog) w ⟨gt, 0, none⟩ (cntL L) (fun j v hv => by
    have hadd : (⟨gt, 0, none⟩ : Addr).add j = ⟨gt, j, none⟩ := by unfold Addr.add; split <;> simp_all
    have hj : j < 257 := by rw [← cntL_len L]; exact (List.getElem?_eq_some_iff.1 hv).1
    rw [hadd, h.cell j, tcells_of L hj, ← cntL_at L hj, hv])
  rw [cntL_len] at this
  exact this
theorem wp_load_cells {o : Oper} {a : Act} {w : World} {K : Act → World → Prop} {Q : Exit → Act → World → Prop} (ty : TypeId) (x : Operand) (ho : o.op = .load ty x)
    (ad : Addr) (hx : a.eval x = .pointer (some ad)) (cs : Array Value) (n : Nat) (d : TypeDesc)
    (hu : Tryz.prog.underlying ty = some d) (hd : (match d with | .struct _ | .array _ _ => true | _ => false) = true) (hi : (Tryz.prog.info? ty).map (·.size) = some n)
    (hl : (loadCells ad n).run Tryz.prog w = .ok cs w) (h : K (a.put o.dst (.agg cs)) w) : o.wp Tryz.prog a w K Q := by
  have hv : (loadVar ty ad).run Tryz.prog w = .ok (.agg cs) w := by
    cases hq : Tryz.prog.info? ty with
    | none => simp [hq] at hi
    | some i =>
      have hs : i.size = n := by simpa [hq] using hi
      have hagg : (isAgg ty).run Tryz.prog w = .ok true w := by
        unfold isAgg
        rw [Sem.run_bind, run_underlying hu w]
        cases d <;> simp_all
      simp [loadVar, Sem.run_bind, hagg, sizeOf, typeInfo, hq, hs, hl]
  unfold Oper.wp execOp
  simp only [ho, hx, Instr.loadAt, Instr.sureAddr, Sem.run_bind, Sem.run_pure, Result.andThen_ok, hv]
  exact h
theorem ix_cnt (L : List Nat) (x : Nat) (h : x < 257) (w : World) : (Instr.index 123 (.agg (cntL L).toArray) (.int .i64 (x : Int))).run Tryz.prog w = .ok (.int .i64 ((L.count x : Nat) : Int)) w := by
  have hc : (cntL L).toArray[x]? = some (.int .i64 ((L.count x : Nat) : Int)) := by rw [List.getElem?_toArray]; exact cntL_at L h
  have h0 : (0 : Int) ≤ (x : Int) ∧ (x : Int) < ((257 : Nat) : Int) := by omega
  have hu := Tryz.underlying123
  have hu2 := Tryz.underlying3
  have hc2 := cntL_at L h
  have ha : (isAgg 3).run Tryz.prog w = .ok false w := by
    unfold isAgg
    rw [Sem.run_bind, run_underlying hu2 w]
    rfl
  simp [Instr.index, asIntOf, Sem.run_bind, run_underlying hu w, h0, Tryz.sizeOf3, h, part, ha, hc2]
set_option maxRecDepth 100000 in
set_option maxHeartbeats 1000000 in
theorem TallyWhich_any (gt : Nat) (L : List Nat) (k s : Nat) (w : World) (h : Bk w gt 125 (tcells L)) (hs : s < 257) (h1 : L.countP (fun x => decide (x < s)) ≤ k) (h2 : k < L.countP (fun x => decide (x < s)) + L.count s) (hl : L.length ≤ 1000) :
    Calls Tryz.prog 74 #[.pointer (some ⟨gt, 0, none⟩), .int .i64 (k : Int)] w fun e w' => e = .returned (.int .i64 (s : Int)) ∧ Below w.heap.size w w' := by
  have hld := load_cnt h
  have H := Lib.hid h
  clear h
  have g0 : decide ((k : Int) < 0) = false := by simp
  go_enter Tryz.func74, Tryz.ntmps74
  go_wp2_with fail
  refine wp_load_cells 123 (.tmp 15) rfl ⟨gt, 0, none⟩ rfl (cntL L).toArray 257 _ Tryz.underlying123 rfl (by kernel_rfl) hld ?_
  have hcs := fun x => countP_step L x
  have hcx : ∀ x, x < s → L.countP (fun y => decide (y < x)) + L.count x ≤ L.countP (fun y => decide (y < s)) := fun x hx => by
    rw [← hcs x]
    exact List.countP_mono_left fun y _ h => by simp at h ⊢; omega
  have Hcs := Lib.hid hcs
  have Hcx := Lib.hid hcx
  have H1 := Lib.hid h1
  have H2 := Lib.hid h2
  clear hcs hcx h1 h2 hld
  have hk : k ≤ 1000 := by
    have h2 := H2.out
    have h3 : L.countP (fun x => decide (x < s)) + L.count s ≤ L.length := by rw [← Hcs.out s]; exact List.countP_le_length
    omega
  simp only [Act.put, List.setIfInBounds_toArray, List.set_cons_zero, List.set_cons_succ]
  go_wp2_with fail
  go_loopw [1, 17] (fun v i wr => ∃ x : Nat, x ≤ s ∧ i = .int .i64 (x : Int) ∧ v = .int .i64 ((k - L.countP (fun y => decide (y < x)) : Nat) : Int) ∧ wr = w) (fun _ i _ => 257 - (intOf i).toNat)
  case atStart => exact ⟨0, by omega, rfl, by simp, rfl⟩
  case round =>
    obtain ⟨x, hx, rfl, rfl, rfl⟩ := hrel
    have hix := ix_cnt L x (by omega)
    have h1 := H1.out
    have h2 := H2.out
    have h3 := Hcs.out x
    have h4 := Hcx.out x
    obtain ⟨u, hu⟩ : ∃ u, L.countP (fun y => decide (y < s)) = u := ⟨_, rfl⟩
    obtain ⟨v, hv⟩ : ∃ u, L.countP (fun y => decide (y < x)) = u := ⟨_, rfl⟩
    obtain ⟨v', hv'⟩ : ∃ u, L.countP (fun y => decide (y < x + 1)) = u := ⟨_, rfl⟩
    obtain ⟨c, hc⟩ : ∃ u, L.count x = u := ⟨_, rfl⟩
    rw [hu] at h1 h2 h4
    rw [hv] at h3 h4
    rw [hv', hc] at h3
    rw [hc] at h4 hix
    by_cases hxs : x < s
    · have h5 := h4 hxs
      have e1 : ¬ k - v < c := by omega
      have e2 : decide (k - v < c) = false := decide_eq_false e1
      have e3 : IntKind.i64.wrap (((k - v : Nat) : Int) - (c : Int)) = ((k - v' : Nat) : Int) := by rw [IntKind.wrap_i64]; omega
      have e4 : x < 257 := by omega
      have e5 : (x : Int) < 257 := by omega
      rw [hv]
      obtain ⟨d, hd⟩ : ∃ d, k - v = d := ⟨_, rfl⟩
      obtain ⟨d', hd'⟩ : ∃ d, k - v' = d := ⟨_, rfl⟩
      rw [hd] at e1 e2 e3 ⊢
      rw [hd'] at e3
      have Hd' := Lib.hid hd'
      have Hv' := Lib.hid hv'
      clear h1 h2 h3 h4 h5 hu hv hv' hc hd hd'
      go_wp2_with fail
      go_roundw
      case rel => exact ⟨x + 1, by omega, by go_num, by rw [Hv'.out, Hd'.out], by first | rfl | trivial⟩
      case measure => simp [intOf]; omega
    · obtain rfl : x = s := by omega
      rw [hv]
      obtain rfl : u = v := by rw [← hu, ← hv]
      rw [hc] at h2
      have e1 : k - u < c := by omega
      have e4 : x < 257 := by omega
      have e5 : (x : Int) < 257 := by omega
      obtain ⟨d, hd⟩ : ∃ d, k - u = d := ⟨_, rfl⟩
      rw [hd] at e1 ⊢
      clear h1 h2 h3 h4 hu hv hv' hc hd
      go_wp2_with fail
      go_ret
      exact ⟨rfl, Below.refl _ _⟩
end Go.Proofs.YthkkcelfgcholaaGreatDoor
