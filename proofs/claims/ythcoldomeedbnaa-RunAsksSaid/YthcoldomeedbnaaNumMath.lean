/- The plain laws of numbers as bytes: back and forth, cut off, in order. No program in sight. -/
import Derived.Test.YthcoldomeedbnaaNumPlain
import GoSem.Op.String
namespace Go.Proofs.Ythcoldomeedbnaa

theorem preB_pos (f n : Nat) (h : n ≠ 0) : preB (f + 1) n ≠ [] := by rw [preB, if_neg h]; simp
theorem getGo_pre (f : Nat) : ∀ n r pos, n < 128 ^ f → n < 144115188075855872 → getGo (preB f n ++ r) true 0 pos = getGo r (n == 0) n (pos + (preB f n).length) := by
  induction f with
  | zero => intro n r pos h _; have : n = 0 := by simpa using h
            subst this; simp [preB]
  | succ f ih =>
    intro n r pos h h64
    by_cases h0 : n = 0
    · subst h0; simp [preB_zero]
    · rw [preB, if_neg h0, List.append_assoc, ih (n / 128) _ pos (by rw [Nat.div_lt_iff_lt_mul (by omega)]; rw [Nat.pow_succ] at h; exact h) (by omega)]
      rw [List.singleton_append, getGo_cons]
      have hb : (UInt8.ofNat (n % 128 + 128)).toNat = n % 128 + 128 := by simp [UInt8.toNat_ofNat']; omega
      rw [hb, if_neg, if_neg (by omega)]
      · have e1 : n / 128 * 128 + (n % 128 + 128) % 128 = n := by omega
        rw [e1, List.length_append, List.length_singleton, Nat.add_assoc]
        have : (n == 0) = false := by simp [h0]
        rw [this]
      · by_cases h1 : n / 128 = 0
        · simp [h1]; omega
        · simp [h1]; omega
theorem getGo_enc (n : Nat) (h : n < 18446744073709551616) (r : List UInt8) (pos : Nat) : getGo (encB n ++ r) true 0 pos = some (n, pos + (encB n).length) := by
  unfold encB
  rw [List.append_assoc, getGo_pre 10 (n / 128) _ pos (by omega) (by omega), List.singleton_append, getGo_cons]
  have hb : (UInt8.ofNat (n % 128)).toNat = n % 128 := by simp [UInt8.toNat_ofNat']; omega
  rw [hb, if_neg, if_pos (by omega), List.length_append, List.length_singleton]
  · congr 2
    · omega
  · simp; omega
theorem getGo_none (l : List UInt8) (h : ∀ c ∈ l, 128 ≤ c.toNat) : ∀ first acc pos, getGo l first acc pos = none := by
  induction l with
  | nil => intros; rw [getGo]
  | cons c l ih =>
    intro first acc pos
    rw [getGo_cons]
    split
    · rfl
    · rw [if_neg (by have := h c (List.mem_cons_self ..); omega)]
      exact ih (fun c hc => h c (List.mem_cons_of_mem _ hc)) _ _ _
theorem preB_ge (f : Nat) : ∀ n, ∀ c ∈ preB f n, 128 ≤ c.toNat := by
  induction f with
  | zero => intro n c hc; simp [preB] at hc
  | succ f ih =>
    intro n c hc
    unfold preB at hc
    split at hc
    · simp at hc
    · rcases List.mem_append.1 hc with hc | hc
      · exact ih _ c hc
      · have hb : (UInt8.ofNat (n % 128 + 128)).toNat = n % 128 + 128 := by simp [UInt8.toNat_ofNat']; omega
        rw [List.mem_singleton.1 hc, hb]
        omega
theorem encB_pos (n : Nat) : 0 < (encB n).length := by simp [encB]
theorem encB_len10 (n : Nat) (h : n < 18446744073709551616) : (encB n).length ≤ 10 := by
  have : preB 10 (n / 128) = preB 9 (n / 128) := preB_more 9 _ (by omega)
  have h2 := preB_len 9 (n / 128)
  simp [encB, this]; omega
/-- What stands behind bytes ahead. -/
theorem getB_at (a r : List UInt8) (n : Nat) (h : n < 18446744073709551616) : getB (a ++ (encB n ++ r)) (a.length : Int) = (n, ((a.length + (encB n).length : Nat) : Int), 0) := by
  rw [getB, if_neg (by simp; omega)]
  simp only [Int.toNat_natCast, List.drop_left]
  rw [getGo_enc n h]
/-- Cut off within the last number. -/
theorem getB_cut (a : List UInt8) (n : Nat) (k : Nat) (hk : k < (encB n).length) : getB (a ++ (encB n).take k) (a.length : Int) = (0, (a.length : Int), 4) := by
  rw [getB, if_neg (by simp; omega)]
  simp only [Int.toNat_natCast, List.drop_left]
  rw [getGo_none]
  intro c hc
  have hk2 : k ≤ (preB 10 (n / 128)).length := by simp [encB] at hk; omega
  have : (encB n).take k = (preB 10 (n / 128)).take k := by unfold encB; rw [List.take_append_of_le_length hk2]
  rw [this] at hc
  exact preB_ge 10 _ c (List.mem_of_mem_take hc)
/-- A number's length. -/
theorem preB_bound (f : Nat) : ∀ n k, n < 128 ^ f → ((preB f n).length ≤ k ↔ n < 128 ^ k) := by
  induction f with
  | zero => intro n k h; have : n = 0 := by simpa using h
            subst this; simp [preB, Nat.pow_pos]
  | succ f ih =>
    intro n k h
    by_cases h0 : n = 0
    · subst h0; simp [preB_zero, Nat.pow_pos]
    · rw [preB, if_neg h0]
      rcases k with _ | k
      · simp; omega
      · have := ih (n / 128) k (by rw [Nat.div_lt_iff_lt_mul (by omega)]; rw [Nat.pow_succ] at h; exact h)
        rw [List.length_append, List.length_singleton]
        rw [Nat.div_lt_iff_lt_mul (by omega), ← Nat.pow_succ] at this
        omega
theorem bytesLess_append (x y u v : List UInt8) (h : x.length = y.length) : Op.bytesLess (x ++ u) (y ++ v) = (Op.bytesLess x y || (x == y && Op.bytesLess u v)) := by
  induction x generalizing y with
  | nil => have : y = [] := List.eq_nil_of_length_eq_zero h.symm
           subst this
           cases u <;> cases v <;> simp [Op.bytesLess]
  | cons a x ih =>
    rcases y with _ | ⟨b, y⟩
    · simp at h
    · simp only [List.cons_append, Op.bytesLess]
      rw [ih y (by simpa using h)]
      by_cases hab : a = b
      · subst hab; simp
      · have : (a == b) = false := by simp [hab]
        simp [this]
theorem ofNat_lt (a b : Nat) (ha : a < 256) (hb : b < 256) : (UInt8.ofNat a < UInt8.ofNat b) ↔ a < b := by
  rw [UInt8.lt_iff_toNat_lt]
  simp [UInt8.toNat_ofNat']
  omega
theorem ofNat_inj (a b : Nat) (ha : a < 256) (hb : b < 256) : (UInt8.ofNat a = UInt8.ofNat b) ↔ a = b := by
  constructor
  · intro h
    have := congrArg UInt8.toNat h
    simp [UInt8.toNat_ofNat'] at this
    omega
  · intro h; rw [h]
theorem last_less (a b : Nat) (ha : a < 256) (hb : b < 256) : Op.bytesLess [UInt8.ofNat a] [UInt8.ofNat b] = decide (a < b) := by
  have h := ofNat_lt a b ha hb
  by_cases hab : a < b
  · simp [Op.bytesLess, hab, h.2 hab]
  · simp [Op.bytesLess, hab, h]
theorem preB_less (f : Nat) : ∀ n m, n < 128 ^ f → m < 128 ^ f → (preB f n).length = (preB f m).length → Op.bytesLess (preB f n) (preB f m) = decide (n < m) ∧ ((preB f n == preB f m) = decide (n = m)) := by
  induction f with
  | zero =>
    intro n m hn hm _
    have h1 : n = 0 := by simpa using hn
    have h2 : m = 0 := by simpa using hm
    subst h1; subst h2
    simp [preB, Op.bytesLess]
  | succ f ih =>
    intro n m hn hm hl
    by_cases h0 : n = 0
    · subst h0
      by_cases h1 : m = 0
      · subst h1; simp [preB_zero, Op.bytesLess]
      · rw [preB_zero, preB, if_neg h1] at hl
        simp at hl
    · by_cases h1 : m = 0
      · subst h1
        rw [preB_zero, preB, if_neg h0] at hl
        simp at hl
      · have hl2 : (preB f (n / 128)).length = (preB f (m / 128)).length := by
          rw [preB, if_neg h0, preB, if_neg h1] at hl
          simpa using hl
        obtain ⟨e1, e2⟩ := ih (n / 128) (m / 128) (by rw [Nat.div_lt_iff_lt_mul (by omega)]; rw [Nat.pow_succ] at hn; exact hn) (by rw [Nat.div_lt_iff_lt_mul (by omega)]; rw [Nat.pow_succ] at hm; exact hm) hl2
        rw [preB, if_neg h0, preB, if_neg h1]
        refine ⟨?_, ?_⟩
        · rw [bytesLess_append _ _ _ _ hl2, e1, e2, last_less _ _ (by omega) (by omega)]
          rw [Bool.eq_iff_iff]
          simp only [Bool.or_eq_true, Bool.and_eq_true, decide_eq_true_eq]
          omega
        · rw [Bool.eq_iff_iff] at e2 ⊢
          simp only [beq_iff_eq, decide_eq_true_eq] at e2 ⊢
          constructor
          · intro h
            obtain ⟨h1, h2⟩ := List.append_inj h hl2
            have h3 := e2.1 h1
            have h4 := (ofNat_inj _ _ (by omega) (by omega)).1 (List.singleton_inj.1 h2)
            omega
          · intro h; rw [h]
theorem encB_less (n m : Nat) (hn : n < 18446744073709551616) (hm : m < 18446744073709551616) (hl : (encB n).length = (encB m).length) : Op.bytesLess (encB n) (encB m) = decide (n < m) := by
  have hl2 : (preB 10 (n / 128)).length = (preB 10 (m / 128)).length := by simpa [encB] using hl
  obtain ⟨e1, e2⟩ := preB_less 10 (n / 128) (m / 128) (by omega) (by omega) hl2
  unfold encB
  rw [bytesLess_append _ _ _ _ hl2, e1, e2, last_less _ _ (by omega) (by omega)]
  rw [Bool.eq_iff_iff]
  simp only [Bool.or_eq_true, Bool.and_eq_true, decide_eq_true_eq]
  omega
theorem encB_shorter (n m : Nat) (hn : n < 18446744073709551616) (hm : m < 18446744073709551616) (hl : (encB n).length ≠ (encB m).length) : (encB n).length < (encB m).length ↔ n < m := by
  have a := preB_bound 10 (n / 128) 
  have b := preB_bound 10 (m / 128)
  simp only [encB, List.length_append, List.length_singleton] at hl ⊢
  constructor
  · intro h
    have h1 := (a ((preB 10 (n / 128)).length) (by omega)).1 (Nat.le_refl _)
    have h2 : ¬ m / 128 < 128 ^ (preB 10 (n / 128)).length := fun h2 => by
      have := (b ((preB 10 (n / 128)).length) (by omega)).2 h2
      omega
    omega
  · intro h
    have h1 := (b ((preB 10 (m / 128)).length) (by omega)).1 (Nat.le_refl _)
    have h2 := (a ((preB 10 (m / 128)).length) (by omega)).2 (by omega)
    omega
end Go.Proofs.Ythcoldomeedbnaa
