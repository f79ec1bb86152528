/- Bits that are turned within 32 that follow one another turn the sum (plain Lean). No conditions. -/
import Derived.Test.YtngmnkekhlclpaaGreatDoorPkS
namespace Go.Proofs.YtngmnkekhlclpaaGreatDoor
set_option linter.unusedVariables false
set_option linter.unusedSimpArgs false
theorem bu_add {c x : Nat} (h : c < 256) : c + 256 * x = c ^^^ (256 * x) := by
  apply Nat.eq_of_testBit_eq
  intro j
  have e : c + 256 * x = 2 ^ 8 * x + c := by omega
  rw [e, Nat.testBit_two_pow_mul_add x (show c < 2 ^ 8 from h), Nat.testBit_xor, show 256 * x = 2 ^ 8 * x from rfl, Nat.testBit_two_pow_mul]
  by_cases hj : j < 8
  · rw [if_pos hj, decide_eq_false (by omega)]
    simp
  · rw [if_neg hj, decide_eq_true (by omega), Nat.testBit_lt_two_pow (Nat.lt_of_lt_of_le (show c < 2 ^ 8 from h) (Nat.pow_le_pow_right (by omega) (by omega)))]
    simp
theorem bu_mul (i a b : Nat) : 2 ^ i * (a ^^^ b) = (2 ^ i * a) ^^^ (2 ^ i * b) := by
  apply Nat.eq_of_testBit_eq
  intro j
  rw [Nat.testBit_xor, Nat.testBit_two_pow_mul, Nat.testBit_two_pow_mul, Nat.testBit_two_pow_mul, Nat.testBit_xor]
  cases decide (j ≥ i) <;> simp
theorem bu_half (a b : Nat) : (a ^^^ b) / 2 = (a / 2) ^^^ (b / 2) := by
  apply Nat.eq_of_testBit_eq
  intro j
  rw [Nat.testBit_xor, ← Nat.testBit_succ, ← Nat.testBit_succ, ← Nat.testBit_succ, Nat.testBit_xor]
theorem bu_par (a b : Nat) : (a ^^^ b) % 2 = (a % 2 + b % 2) % 2 := by
  have h0 := Nat.testBit_xor a b 0
  rw [Nat.testBit_zero, Nat.testBit_zero, Nat.testBit_zero] at h0
  rcases Nat.mod_two_eq_zero_or_one a with ha | ha <;> rcases Nat.mod_two_eq_zero_or_one b with hb | hb <;> rcases Nat.mod_two_eq_zero_or_one (a ^^^ b) with hc | hc <;> rw [ha, hb, hc] at h0 <;> rw [ha, hb, hc] <;> first | rfl | (exact absurd h0 (by decide))
theorem crcStep_xor (a b : Nat) : crcStep (a ^^^ b) = crcStep a ^^^ crcStep b := by
  unfold crcStep
  rw [bu_par, bu_half]
  rcases Nat.mod_two_eq_zero_or_one a with ha | ha <;> rcases Nat.mod_two_eq_zero_or_one b with hb | hb <;> rw [ha, hb]
  · rw [if_neg (by decide), if_neg (by decide), if_neg (by decide)]
  · rw [if_pos (by decide), if_neg (by decide), if_pos (by decide), Nat.xor_assoc]
  · rw [if_pos (by decide), if_pos (by decide), if_neg (by decide), Nat.xor_assoc, Nat.xor_assoc, Nat.xor_comm (b / 2)]
  · rw [if_neg (by decide), if_pos (by decide), if_pos (by decide), Nat.xor_assoc, ← Nat.xor_assoc 3988292384, Nat.xor_comm 3988292384, Nat.xor_assoc (b / 2), Nat.xor_self, Nat.xor_zero]
theorem crcIt_xor (a b : Nat) : ∀ k, crcIt k (a ^^^ b) = crcIt k a ^^^ crcIt k b
  | 0 => rfl
  | k + 1 => by
    show crcStep (crcIt k (a ^^^ b)) = crcStep (crcIt k a) ^^^ crcStep (crcIt k b)
    rw [crcIt_xor a b k, crcStep_xor]
theorem crcIt_add (s : Nat) (k : Nat) : ∀ j, crcIt (j + k) s = crcIt j (crcIt k s)
  | 0 => by rw [Nat.zero_add]; rfl
  | j + 1 => by
    rw [Nat.add_right_comm]
    show crcStep (crcIt (j + k) s) = crcStep (crcIt j (crcIt k s))
    rw [crcIt_add s k j]
theorem crcIt_up (x : Nat) : ∀ k, crcIt k (2 ^ k * x) = x
  | 0 => by simp [crcIt]
  | k + 1 => by
    rw [crcIt_add _ 1 k]
    have e : crcIt 1 (2 ^ (k + 1) * x) = 2 ^ k * x := by
      show crcStep (2 ^ (k + 1) * x) = _
      have e1 : 2 ^ (k + 1) * x = 2 * (2 ^ k * x) := by rw [Nat.pow_succ, Nat.mul_comm (2 ^ k) 2, Nat.mul_assoc]
      rw [e1]
      unfold crcStep
      rw [if_neg (by omega)]
      omega
    rw [e, crcIt_up x k]
theorem crcStep_zero {s : Nat} (h : s < 4294967296) (h0 : crcStep s = 0) : s = 0 := by
  unfold crcStep at h0
  split at h0
  · have h1 : s / 2 = (s / 2 ^^^ 3988292384) ^^^ 3988292384 := by rw [Nat.xor_assoc, Nat.xor_self, Nat.xor_zero]
    rw [h0, Nat.zero_xor] at h1
    omega
  · omega
theorem crcIt_zero {s : Nat} (h : s < 4294967296) : ∀ k, crcIt k s = 0 → s = 0
  | 0, h0 => h0
  | k + 1, h0 => crcIt_zero h k (crcStep_zero (crcIt_lt h k) h0)
/-- Bytes as one number, the lowest first. -/
def leN : List UInt8 → Nat
  | [] => 0
  | c :: r => c.toNat + 256 * leN r
theorem crc_byte (s : Nat) (c : UInt8) : crcTab ((s % 256) ^^^ c.toNat) ^^^ (s / 256) = crcIt 8 (s ^^^ c.toNat) := by
  have e : s = (s % 256) ^^^ (256 * (s / 256)) := by rw [← bu_add (by omega)]; omega
  have e2 : s ^^^ c.toNat = ((s % 256) ^^^ c.toNat) ^^^ (2 ^ 8 * (s / 256)) := by
    conv => lhs; rw [e]
    rw [Nat.xor_assoc, Nat.xor_assoc, Nat.xor_comm (256 * (s / 256))]
  rw [e2, crcIt_xor, crcIt_up]
  rfl
theorem crcGo_it : ∀ (b : List UInt8) (s : Nat), crcGo b s = crcIt (8 * b.length) (s ^^^ leN b)
  | [], s => by
    show s = s ^^^ 0
    rw [Nat.xor_zero]
  | c :: r, s => by
    show crcGo r (crcTab ((s % 256) ^^^ c.toNat) ^^^ (s / 256)) = crcIt (8 * (r.length + 1)) (s ^^^ (c.toNat + 256 * leN r))
    have e : s ^^^ (c.toNat + 256 * leN r) = (s ^^^ c.toNat) ^^^ (2 ^ 8 * leN r) := by rw [bu_add c.toNat_lt, ← Nat.xor_assoc]
    rw [e, crc_byte, crcGo_it r, show 8 * (r.length + 1) = 8 * r.length + 8 by omega, crcIt_add ((s ^^^ c.toNat) ^^^ (2 ^ 8 * leN r)) 8 (8 * r.length), crcIt_xor (s ^^^ c.toNat) _ 8, crcIt_up]
theorem leN_app : ∀ (a b : List UInt8), leN (a ++ b) = leN a + 256 ^ a.length * leN b
  | [], b => by simp [leN]
  | c :: r, b => by
    show c.toNat + 256 * leN (r ++ b) = c.toNat + 256 * leN r + 256 ^ (r.length + 1) * leN b
    rw [leN_app r b, Nat.pow_succ, Nat.mul_add, Nat.mul_comm (256 ^ r.length) 256, Nat.mul_assoc, Nat.add_assoc]
theorem crcGo_app (a b : List UInt8) (s : Nat) : crcGo (a ++ b) s = crcGo b (crcGo a s) := by
  induction a generalizing s with
  | nil => rfl
  | cons c r ih => exact ih _
theorem bu_not {z : Nat} (h : z < 4294967296) : 4294967295 - z = z ^^^ 4294967295 := by
  apply Nat.eq_of_testBit_eq
  intro j
  have e : 4294967295 - z = 2 ^ 32 - (z + 1) := by omega
  rw [e, Nat.testBit_two_pow_sub_succ (show z < 2 ^ 32 from h), Nat.testBit_xor, show (4294967295 : Nat) = 2 ^ 32 - 1 from rfl, Nat.testBit_two_pow_sub_one]
  by_cases hj : j < 32
  · rw [decide_eq_true hj]; simp
  · rw [decide_eq_false hj, Nat.testBit_lt_two_pow (Nat.lt_of_lt_of_le (show z < 2 ^ 32 from h) (Nat.pow_le_pow_right (by omega) (by omega)))]
    rfl
/-- The sum fits bytes and the four behind them if, and only if, all together leave what is left of all ones. -/
theorem crc_fits (b : List UInt8) (t : List UInt8) (ht : t.length = 4) (x : Nat) (hx : x < 4294967296) (hN : leN t = x) (h : crcB b = x) : crcGo (b ++ t) 4294967295 = crcIt 32 4294967295 := by
  have hz := crcGo_lt b 4294967295 (by omega)
  unfold crcB crcMore at h
  rw [Nat.sub_zero, bu_not hz] at h
  rw [crcGo_app, crcGo_it, ht, hN, ← h, ← Nat.xor_assoc, Nat.xor_self, Nat.zero_xor]
theorem crc_burst (b c : List UInt8) (p k : Nat) (hl : b.length = c.length) (hc : leN c = leN b ^^^ (2 ^ k * p)) (hk : k + 32 ≤ 8 * b.length) (hp : p < 4294967296) (h : crcGo b 4294967295 = crcGo c 4294967295) : p = 0 := by
  rw [crcGo_it, crcGo_it, ← hl, hc] at h
  have h2 : crcIt (8 * b.length) (2 ^ k * p) = 0 := by
    have h3 := crcIt_xor (4294967295 ^^^ leN b) (2 ^ k * p) (8 * b.length)
    rw [Nat.xor_assoc, ← h] at h3
    have h4 : crcIt (8 * b.length) (4294967295 ^^^ leN b) ^^^ crcIt (8 * b.length) (4294967295 ^^^ leN b) = crcIt (8 * b.length) (4294967295 ^^^ leN b) ^^^ (crcIt (8 * b.length) (4294967295 ^^^ leN b) ^^^ crcIt (8 * b.length) (2 ^ k * p)) := by rw [← h3]
    rw [Nat.xor_self, ← Nat.xor_assoc, Nat.xor_self, Nat.zero_xor] at h4
    exact h4.symm
  have e : 8 * b.length = (8 * b.length - k) + k := by omega
  rw [e, crcIt_add, crcIt_up] at h2
  exact crcIt_zero hp _ h2
theorem leN_set : ∀ (l : List UInt8) (j r : Nat) (x : UInt8), l[j]? = some x → r < 8 → leN (l.set j (UInt8.ofNat (x.toNat ^^^ 2 ^ r))) = leN l ^^^ 2 ^ (8 * j + r)
  | [], j, r, x, h, _ => by cases h
  | c :: t, 0, r, x, h, hr => by
    injection h with h
    subst h
    have hx := c.toNat_lt
    have h2 : 2 ^ r < 2 ^ 8 := Nat.pow_lt_pow_right (by omega) hr
    have h3 : c.toNat ^^^ 2 ^ r < 256 := Nat.xor_lt_two_pow (n := 8) hx h2
    show (UInt8.ofNat (c.toNat ^^^ 2 ^ r)).toNat + 256 * leN t = (c.toNat + 256 * leN t) ^^^ 2 ^ (8 * 0 + r)
    rw [UInt8.toNat_ofNat', Nat.mod_eq_of_lt (show c.toNat ^^^ 2 ^ r < 2 ^ 8 from h3), bu_add h3, bu_add hx, Nat.mul_zero, Nat.zero_add, Nat.xor_assoc, Nat.xor_assoc, Nat.xor_comm (2 ^ r)]
  | c :: t, j + 1, r, x, h, hr => by
    have ih := leN_set t j r x h hr
    have hx := c.toNat_lt
    show c.toNat + 256 * leN (t.set j (UInt8.ofNat (x.toNat ^^^ 2 ^ r))) = (c.toNat + 256 * leN t) ^^^ 2 ^ (8 * (j + 1) + r)
    rw [ih, bu_add hx, bu_add hx, show 256 = 2 ^ 8 from rfl, bu_mul, ← Nat.pow_add, Nat.xor_assoc, show 8 + (8 * j + r) = 8 * (j + 1) + r by omega]
/-- What the walk of a burst keeps: i bits of the pattern are laid. -/
def BuAt (b c : List UInt8) (p k i : Nat) : Prop := c.length = b.length ∧ ∀ j, (leN c).testBit j = ((leN b).testBit j ^^ (decide (k ≤ j ∧ j < k + i) && p.testBit (j - k)))
theorem BuAt.start (b : List UInt8) (p k : Nat) : BuAt b b p k 0 := ⟨rfl, fun j => by rw [decide_eq_false (by omega)]; simp⟩
theorem BuAt.skip {b c : List UInt8} {p k i : Nat} (h : BuAt b c p k i) (hp : p.testBit i = false) : BuAt b c p k (i + 1) := by
  refine ⟨h.1, fun j => ?_⟩
  rw [h.2 j]
  by_cases hj : j = k + i
  · subst hj
    rw [decide_eq_false (by omega), Nat.add_sub_cancel_left, hp]
    simp
  · rw [show (decide (k ≤ j ∧ j < k + (i + 1))) = decide (k ≤ j ∧ j < k + i) from decide_eq_decide.2 (by omega)]
theorem BuAt.turn {b c : List UInt8} {p k i : Nat} {x : UInt8} (h : BuAt b c p k i) (hp : p.testBit i = true) (hx : c[(k + i) / 8]? = some x) : BuAt b (c.set ((k + i) / 8) (UInt8.ofNat (x.toNat ^^^ 2 ^ ((k + i) % 8)))) p k (i + 1) := by
  refine ⟨by rw [List.length_set]; exact h.1, fun j => ?_⟩
  rw [leN_set c _ _ x hx (by omega), show 8 * ((k + i) / 8) + (k + i) % 8 = k + i by omega, Nat.testBit_xor, h.2 j, Nat.testBit_two_pow]
  by_cases hj : j = k + i
  · subst hj
    rw [decide_eq_false (show ¬ (k ≤ k + i ∧ k + i < k + i) by omega), decide_eq_true (show k ≤ k + i ∧ k + i < k + (i + 1) by omega), Nat.add_sub_cancel_left, hp]
    simp
  · rw [show (decide (k ≤ j ∧ j < k + (i + 1))) = decide (k ≤ j ∧ j < k + i) from decide_eq_decide.2 (by omega), decide_eq_false (show ¬ k + i = j by omega)]
    simp
theorem BuAt.done {b c : List UInt8} {p k : Nat} (h : BuAt b c p k 32) (hp : p < 4294967296) : leN c = leN b ^^^ (2 ^ k * p) := by
  apply Nat.eq_of_testBit_eq
  intro j
  rw [h.2 j, Nat.testBit_xor, Nat.testBit_two_pow_mul]
  by_cases hk : k ≤ j
  · by_cases hj : j < k + 32
    · rw [decide_eq_true (show k ≤ j ∧ j < k + 32 from ⟨hk, hj⟩), decide_eq_true (show j ≥ k from hk)]
    · rw [decide_eq_false (show ¬ (k ≤ j ∧ j < k + 32) by omega), decide_eq_true (show j ≥ k from hk), Nat.testBit_lt_two_pow (Nat.lt_of_lt_of_le (show p < 2 ^ 32 from hp) (Nat.pow_le_pow_right (by omega) (by omega)))]
      rfl
  · rw [decide_eq_false (show ¬ (k ≤ j ∧ j < k + 32) by omega), decide_eq_false (show ¬ j ≥ k by omega)]
theorem ofB_last (a t : List UInt8) (ht : t.length = 4) : ofB (a ++ t) (a.length : Int) = (leN t, 0) := by
  match t, ht with
  | [t0, t1, t2, t3], _ =>
    rw [ofB, if_neg (by simp <;> omega), if_neg (by simp <;> omega)]
    have hg : ∀ j, j < 4 → (a ++ [t0, t1, t2, t3])[a.length + j]? = [t0, t1, t2, t3][j]? := fun j hj => by
      rw [List.getElem?_append_right (by omega), Nat.add_sub_cancel_left]
    simp only [ofN, Int.toNat_natCast]
    rw [hg 0 (by omega), hg 1 (by omega), hg 2 (by omega), hg 3 (by omega)]
    simp [leN]
    omega
theorem leN_lt4 (t : List UInt8) (ht : t.length = 4) : leN t < 4294967296 := by
  match t, ht with
  | [t0, t1, t2, t3], _ =>
    have h0 := t0.toNat_lt
    have h1 := t1.toNat_lt
    have h2 := t2.toNat_lt
    have h3 := t3.toNat_lt
    simp only [leN]
    omega
theorem leN_fix (n : Nat) (h : n < 4294967296) : leN (fixB n) = n := by
  have h1 := ofB_fix [] [] n h
  rw [List.append_nil] at h1
  have h2 := ofB_last [] (fixB n) (fixB_len n)
  rw [h1] at h2
  exact (Prod.mk.inj h2).1.symm
/-- A burst in bytes with their sum behind is told. -/
theorem burst_told (body s c : List UInt8) (m p k : Nat) (hs : s = body ++ fixB (crcB body)) (hm : body.length = m) (hc : BuAt s c p k 32) (hk : k + 32 ≤ 8 * s.length) (hp : p < 4294967296) (hp0 : p ≠ 0) :
    ∃ x y, ofB c (m : Int) = (x, 0) ∧ crcB (c.take m) = y ∧ ¬ x = y := by
  have hsl : s.length = m + 4 := by rw [hs, List.length_append, fixB_len, hm]
  have hcl : c.length = m + 4 := hc.1.trans hsl
  have hd : (c.drop m).length = 4 := by rw [List.length_drop]; omega
  have htk : (c.take m).length = m := by rw [List.length_take]; omega
  have hof := ofB_last (c.take m) (c.drop m) hd
  rw [List.take_append_drop, htk] at hof
  refine ⟨_, _, hof, rfl, fun h => hp0 ?_⟩
  have h1 := crc_fits (c.take m) (c.drop m) hd _ (leN_lt4 _ hd) rfl h.symm
  rw [List.take_append_drop] at h1
  have h2 := crc_fits body (fixB (crcB body)) (fixB_len _) (crcB body) (crcB_lt body) (leN_fix _ (crcB_lt body)) rfl
  rw [← hs] at h2
  exact crc_burst s c p k hc.1.symm (hc.done hp) hk hp (h2.trans h1.symm)
end Go.Proofs.YtngmnkekhlclpaaGreatDoor
