/- The plain laws of numbers as bytes: what num.Put and num.Get compute, on lists of bytes. No program in sight. The plain laws of numbers as bytes: back and forth, cut off, in order. No program in sight. The plain laws of runs: what run.Of, run.All, run.Put, run.Get compute, on lists. No program in sight. The plain laws of runs' bytes: they come back; with less room they are refused; cut off, or with a byte behind, they do not; what is read is the only text of its symbols. No program in sight. Four bytes come back as their number (plain Lean). No conditions. -/
import Derived.Lib.Hide
import GoSem.Op.String
namespace Go.Proofs.YtnileogagoipiaaGreatDoor

/-- The bytes ahead of the last one. -/
def preB : Nat → Nat → List UInt8
  | 0, _ => []
  | f + 1, n => if n = 0 then [] else preB f (n / 128) ++ [UInt8.ofNat (n % 128 + 128)]
/-- A number's bytes. -/
def encB (n : Nat) : List UInt8 := preB 10 (n / 128) ++ [UInt8.ofNat (n % 128)]
/-- Numbers' bytes. -/
def encAll (l : List Nat) : List UInt8 := l.flatMap encB

/-- The loop of num.Get over what is left of the bytes: is this the first byte, the number so far, the place. -/
def getGo : List UInt8 → Bool → Nat → Nat → Option (Nat × Nat)
  | [], _, _, _ => none
  | c :: r, first, acc, pos =>
    if (first && c.toNat == 128) || decide (144115188075855871 < acc) then none
    else if c.toNat < 128 then some (acc * 128 + c.toNat % 128, pos + 1) else getGo r false (acc * 128 + c.toNat % 128) (pos + 1)
/-- The number that begins at a place, where it ends, a code. -/
def getNB (l : List UInt8) (at_ : Int) : Nat × Int × Int :=
  if at_ < 0 ∨ (l.length : Int) < at_ then (0, at_, 2)
  else match getGo (l.drop at_.toNat) true 0 at_.toNat with
    | some (n, p) => (n, p, 0)
    | none => (0, at_, 4)
/-- A number's first k of four bytes, the lowest first. -/
def fixN : Nat → Nat → List UInt8
  | 0, _ => []
  | k + 1, n => fixN k n ++ [UInt8.ofNat (n / 256 ^ k % 256)]
/-- A number's four bytes. -/
def fixB (n : Nat) : List UInt8 := fixN 4 n
/-- The number that the first k bytes from a place on make. -/
def ofN (l : List UInt8) (a : Nat) : Nat → Nat
  | 0 => 0
  | k + 1 => ofN l a k + (l[a + k]?.getD 0).toNat * 256 ^ k
/-- The number of four bytes, a code. -/
def ofB (l : List UInt8) (at_ : Int) : Nat × Int :=
  if at_ < 0 ∨ (l.length : Int) < at_ then (0, 2) else if (l.length : Int) - at_ < 4 then (0, 4) else (ofN l at_.toNat 4, 0)
theorem ofN_lt (l : List UInt8) (a : Nat) (k : Nat) : ofN l a k < 256 ^ k := by
  induction k with
  | zero => simp [ofN]
  | succ k ih =>
    have : (l[a + k]?.getD 0).toNat < 256 := UInt8.toNat_lt _
    simp only [ofN, Nat.pow_succ]
    have h2 : (l[a + k]?.getD 0).toNat * 256 ^ k ≤ 255 * 256 ^ k := Nat.mul_le_mul_right _ (by omega)
    omega
theorem getGo_cons (c : UInt8) (r : List UInt8) (first : Bool) (acc pos : Nat) : getGo (c :: r) first acc pos =
    if (first && c.toNat == 128) || decide (144115188075855871 < acc) then none
    else if c.toNat < 128 then some (acc * 128 + c.toNat % 128, pos + 1) else getGo r false (acc * 128 + c.toNat % 128) (pos + 1) := by conv => lhs; rw [getGo]
theorem preB_zero (f : Nat) : preB f 0 = [] := by cases f <;> simp [preB]
theorem preB_more (f : Nat) : ∀ n, n < 128 ^ f → preB (f + 1) n = preB f n := by
  induction f with
  | zero => intro n h; have : n = 0 := by simpa using h
            subst this; simp [preB]
  | succ f ih =>
    intro n h
    by_cases h0 : n = 0
    · subst h0; simp [preB_zero]
    · rw [preB, if_neg h0, ih (n / 128) (by rw [Nat.div_lt_iff_lt_mul (by omega)]; rw [Nat.pow_succ] at h; exact h)]
      conv => rhs; rw [preB, if_neg h0]
theorem preB_step (n : Nat) (h0 : n ≠ 0) (h : n < 128 ^ 10) : preB 10 n = preB 10 (n / 128) ++ [UInt8.ofNat (n % 128 + 128)] := by
  rw [preB_more 9 (n / 128) (by omega)]
  conv => lhs; rw [preB, if_neg h0]
theorem preB_len (f : Nat) : ∀ n, (preB f n).length ≤ f := by
  induction f with
  | zero => intro n; simp [preB]
  | succ f ih =>
    intro n
    unfold preB
    split
    · simp
    · have := ih (n / 128); simp; omega
theorem encB_len (n : Nat) : (encB n).length ≤ 11 := by
  have := preB_len 10 (n / 128)
  simp [encB]; omega
theorem encAll_len (l : List Nat) : (encAll l).length ≤ 11 * l.length := by
  induction l with
  | nil => simp [encAll]
  | cons a l ih =>
    have := encB_len a
    simp [encAll] at ih ⊢
    omega
theorem encAll_snoc (l : List Nat) (k : Nat) (n : Nat) (h : l[k]? = some n) : encAll (l.take (k + 1)) = encAll (l.take k) ++ encB n := by
  have hk : k < l.length := (List.getElem?_eq_some_iff.1 h).1
  rw [List.take_succ_eq_append_getElem hk]
  have : l[k] = n := (List.getElem?_eq_some_iff.1 h).2
  rw [this]
  simp [encAll, List.flatMap_append]
theorem mid_pos (n i j : Nat) (h : i + 1 ≤ j) (hg : j = 0 ∨ 1 ≤ n / 2 ^ (7 * j)) : n / 2 ^ (7 * (i + 1)) ≠ 0 := by
  have h1 : 1 ≤ n / 2 ^ (7 * j) := by rcases hg with h0 | h0 <;> omega
  have h2 : n / 2 ^ (7 * j) ≤ n / 2 ^ (7 * (i + 1)) := Nat.div_le_div_left (Nat.pow_le_pow_right (by omega) (by omega)) (Nat.pow_pos (by omega))
  omega
theorem mid_lt (n i : Nat) (h : n < 18446744073709551616) : n / 2 ^ (7 * (i + 1)) < 128 ^ 9 := by
  have h2 : n / 2 ^ (7 * (i + 1)) ≤ n / 2 ^ 7 := Nat.div_le_div_left (Nat.pow_le_pow_right (by omega) (by omega)) (Nat.pow_pos (by omega))
  omega
theorem pow7 (j : Nat) : 2 ^ (7 * j) = 128 ^ j := by rw [Nat.pow_mul]
theorem div7 (n j : Nat) : n / 2 ^ (7 * (j + 1)) = n / 2 ^ (7 * j) / 128 := by
  rw [Nat.div_div_eq_div_mul, show 7 * (j + 1) = 7 * j + 7 by omega, Nat.pow_add]
theorem shift_top (n j : Nat) (h : n < 18446744073709551616) (hj : j ≤ 9) (hg : 128 ≤ n / 2 ^ (7 * j)) : j + 1 ≤ 9 := by
  by_cases h9 : j = 9
  · subst h9
    rw [Nat.le_div_iff_mul_le (by decide)] at hg
    omega
  · omega
theorem encAll_one (n : Nat) : encAll [n] = encB n := by simp [encAll]
end Go.Proofs.YtnileogagoipiaaGreatDoor
namespace Go.Proofs.YtnileogagoipiaaGreatDoor

theorem preB_pos (f n : Nat) (h : n ≠ 0) : preB (f + 1) n ≠ [] := by rw [preB, if_neg h]; simp
theorem getGo_pre (f : Nat) : ∀ n r pos, n < 128 ^ f → n < 144115188075855872 → getGo (preB f n ++ r) true 0 pos = getGo r (n == 0) n (pos + (preB f n).length) := by
  induction f with
  | zero => intro n r pos h _; have : n = 0 := by simpa using h
            subst this; simp [preB]
  | succ f ih =>
    intro n r pos h h64
    by_cases h0 : n = 0
    · subst h0; simp [preB_zero]
    · rw [preB, if_neg h0, List.append_assoc, ih (n / 128) _ pos (by rw [Nat.div_lt_iff_lt_mul (by omega)]; rw [Nat.pow_succ] at h; exact h) (by omega)]
      rw [List.singleton_append, getGo_cons]
      have hb : (UInt8.ofNat (n % 128 + 128)).toNat = n % 128 + 128 := by simp [UInt8.toNat_ofNat']; omega
      rw [hb, if_neg, if_neg (by omega)]
      · have e1 : n / 128 * 128 + (n % 128 + 128) % 128 = n := by omega
        rw [e1, List.length_append, List.length_singleton, Nat.add_assoc]
        have : (n == 0) = false := by simp [h0]
        rw [this]
      · by_cases h1 : n / 128 = 0
        · simp [h1]; omega
        · simp [h1]; omega
theorem getGo_enc (n : Nat) (h : n < 18446744073709551616) (r : List UInt8) (pos : Nat) : getGo (encB n ++ r) true 0 pos = some (n, pos + (encB n).length) := by
  unfold encB
  rw [List.append_assoc, getGo_pre 10 (n / 128) _ pos (by omega) (by omega), List.singleton_append, getGo_cons]
  have hb : (UInt8.ofNat (n % 128)).toNat = n % 128 := by simp [UInt8.toNat_ofNat']; omega
  rw [hb, if_neg, if_pos (by omega), List.length_append, List.length_singleton]
  · congr 2
    · omega
  · simp; omega
theorem getGo_none (l : List UInt8) (h : ∀ c ∈ l, 128 ≤ c.toNat) : ∀ first acc pos, getGo l first acc pos = none := by
  induction l with
  | nil => intros; rw [getGo]
  | cons c l ih =>
    intro first acc pos
    rw [getGo_cons]
    split
    · rfl
    · rw [if_neg (by have := h c (List.mem_cons_self ..); omega)]
      exact ih (fun c hc => h c (List.mem_cons_of_mem _ hc)) _ _ _
theorem preB_ge (f : Nat) : ∀ n, ∀ c ∈ preB f n, 128 ≤ c.toNat := by
  induction f with
  | zero => intro n c hc; simp [preB] at hc
  | succ f ih =>
    intro n c hc
    unfold preB at hc
    split at hc
    · simp at hc
    · rcases List.mem_append.1 hc with hc | hc
      · exact ih _ c hc
      · have hb : (UInt8.ofNat (n % 128 + 128)).toNat = n % 128 + 128 := by simp [UInt8.toNat_ofNat']; omega
        rw [List.mem_singleton.1 hc, hb]
        omega
theorem encB_pos (n : Nat) : 0 < (encB n).length := by simp [encB]
theorem encB_len10 (n : Nat) (h : n < 18446744073709551616) : (encB n).length ≤ 10 := by
  have : preB 10 (n / 128) = preB 9 (n / 128) := preB_more 9 _ (by omega)
  have h2 := preB_len 9 (n / 128)
  simp [encB, this]; omega
/-- What stands behind bytes ahead. -/
theorem getNB_at (a r : List UInt8) (n : Nat) (h : n < 18446744073709551616) : getNB (a ++ (encB n ++ r)) (a.length : Int) = (n, ((a.length + (encB n).length : Nat) : Int), 0) := by
  rw [getNB, if_neg (by simp; omega)]
  simp only [Int.toNat_natCast, List.drop_left]
  rw [getGo_enc n h]
/-- Cut off within the last number. -/
theorem getNB_cut (a : List UInt8) (n : Nat) (k : Nat) (hk : k < (encB n).length) : getNB (a ++ (encB n).take k) (a.length : Int) = (0, (a.length : Int), 4) := by
  rw [getNB, if_neg (by simp; omega)]
  simp only [Int.toNat_natCast, List.drop_left]
  rw [getGo_none]
  intro c hc
  have hk2 : k ≤ (preB 10 (n / 128)).length := by simp [encB] at hk; omega
  have : (encB n).take k = (preB 10 (n / 128)).take k := by unfold encB; rw [List.take_append_of_le_length hk2]
  rw [this] at hc
  exact preB_ge 10 _ c (List.mem_of_mem_take hc)
/-- A number's length. -/
theorem preB_bound (f : Nat) : ∀ n k, n < 128 ^ f → ((preB f n).length ≤ k ↔ n < 128 ^ k) := by
  induction f with
  | zero => intro n k h; have : n = 0 := by simpa using h
            subst this; simp [preB, Nat.pow_pos]
  | succ f ih =>
    intro n k h
    by_cases h0 : n = 0
    · subst h0; simp [preB_zero, Nat.pow_pos]
    · rw [preB, if_neg h0]
      rcases k with _ | k
      · simp; omega
      · have := ih (n / 128) k (by rw [Nat.div_lt_iff_lt_mul (by omega)]; rw [Nat.pow_succ] at h; exact h)
        rw [List.length_append, List.length_singleton]
        rw [Nat.div_lt_iff_lt_mul (by omega), ← Nat.pow_succ] at this
        omega
theorem bytesLess_append (x y u v : List UInt8) (h : x.length = y.length) : Op.bytesLess (x ++ u) (y ++ v) = (Op.bytesLess x y || (x == y && Op.bytesLess u v)) := by
  induction x generalizing y with
  | nil => have : y = [] := List.eq_nil_of_length_eq_zero h.symm
           subst this
           cases u <;> cases v <;> simp [Op.bytesLess]
  | cons a x ih =>
    rcases y with _ | ⟨b, y⟩
    · simp at h
    · simp only [List.cons_append, Op.bytesLess]
      rw [ih y (by simpa using h)]
      by_cases hab : a = b
      · subst hab; simp
      · have : (a == b) = false := by simp [hab]
        simp [this]
theorem ofNat_lt (a b : Nat) (ha : a < 256) (hb : b < 256) : (UInt8.ofNat a < UInt8.ofNat b) ↔ a < b := by
  rw [UInt8.lt_iff_toNat_lt]
  simp [UInt8.toNat_ofNat']
  omega
theorem ofNat_inj (a b : Nat) (ha : a < 256) (hb : b < 256) : (UInt8.ofNat a = UInt8.ofNat b) ↔ a = b := by
  constructor
  · intro h
    have := congrArg UInt8.toNat h
    simp [UInt8.toNat_ofNat'] at this
    omega
  · intro h; rw [h]
theorem last_less (a b : Nat) (ha : a < 256) (hb : b < 256) : Op.bytesLess [UInt8.ofNat a] [UInt8.ofNat b] = decide (a < b) := by
  have h := ofNat_lt a b ha hb
  by_cases hab : a < b
  · simp [Op.bytesLess, hab, h.2 hab]
  · simp [Op.bytesLess, hab, h]
theorem preB_less (f : Nat) : ∀ n m, n < 128 ^ f → m < 128 ^ f → (preB f n).length = (preB f m).length → Op.bytesLess (preB f n) (preB f m) = decide (n < m) ∧ ((preB f n == preB f m) = decide (n = m)) := by
  induction f with
  | zero =>
    intro n m hn hm _
    have h1 : n = 0 := by simpa using hn
    have h2 : m = 0 := by simpa using hm
    subst h1; subst h2
    simp [preB, Op.bytesLess]
  | succ f ih =>
    intro n m hn hm hl
    by_cases h0 : n = 0
    · subst h0
      by_cases h1 : m = 0
      · subst h1; simp [preB_zero, Op.bytesLess]
      · rw [preB_zero, preB, if_neg h1] at hl
        simp at hl
    · by_cases h1 : m = 0
      · subst h1
        rw [preB_zero, preB, if_neg h0] at hl
        simp at hl
      · have hl2 : (preB f (n / 128)).length = (preB f (m / 128)).length := by
          rw [preB, if_neg h0, preB, if_neg h1] at hl
          simpa using hl
        obtain ⟨e1, e2⟩ := ih (n / 128) (m / 128) (by rw [Nat.div_lt_iff_lt_mul (by omega)]; rw [Nat.pow_succ] at hn; exact hn) (by rw [Nat.div_lt_iff_lt_mul (by omega)]; rw [Nat.pow_succ] at hm; exact hm) hl2
        rw [preB, if_neg h0, preB, if_neg h1]
        refine ⟨?_, ?_⟩
        · rw [bytesLess_append _ _ _ _ hl2, e1, e2, last_less _ _ (by omega) (by omega)]
          rw [Bool.eq_iff_iff]
          simp only [Bool.or_eq_true, Bool.and_eq_true, decide_eq_true_eq]
          omega
        · rw [Bool.eq_iff_iff] at e2 ⊢
          simp only [beq_iff_eq, decide_eq_true_eq] at e2 ⊢
          constructor
          · intro h
            obtain ⟨h1, h2⟩ := List.append_inj h hl2
            have h3 := e2.1 h1
            have h4 := (ofNat_inj _ _ (by omega) (by omega)).1 (List.singleton_inj.1 h2)
            omega
          · intro h; rw [h]
theorem encB_less (n m : Nat) (hn : n < 18446744073709551616) (hm : m < 18446744073709551616) (hl : (encB n).length = (encB m).length) : Op.bytesLess (encB n) (encB m) = decide (n < m) := by
  have hl2 : (preB 10 (n / 128)).length = (preB 10 (m / 128)).length := by simpa [encB] using hl
  obtain ⟨e1, e2⟩ := preB_less 10 (n / 128) (m / 128) (by omega) (by omega) hl2
  unfold encB
  rw [bytesLess_append _ _ _ _ hl2, e1, e2, last_less _ _ (by omega) (by omega)]
  rw [Bool.eq_iff_iff]
  simp only [Bool.or_eq_true, Bool.and_eq_true, decide_eq_true_eq]
  omega
theorem encB_shorter (n m : Nat) (hn : n < 18446744073709551616) (hm : m < 18446744073709551616) (hl : (encB n).length ≠ (encB m).length) : (encB n).length < (encB m).length ↔ n < m := by
  have a := preB_bound 10 (n / 128) 
  have b := preB_bound 10 (m / 128)
  simp only [encB, List.length_append, List.length_singleton] at hl ⊢
  constructor
  · intro h
    have h1 := (a ((preB 10 (n / 128)).length) (by omega)).1 (Nat.le_refl _)
    have h2 : ¬ m / 128 < 128 ^ (preB 10 (n / 128)).length := fun h2 => by
      have := (b ((preB 10 (n / 128)).length) (by omega)).2 h2
      omega
    omega
  · intro h
    have h1 := (b ((preB 10 (m / 128)).length) (by omega)).1 (Nat.le_refl _)
    have h2 := (a ((preB 10 (m / 128)).length) (by omega)).2 (by omega)
    omega
end Go.Proofs.YtnileogagoipiaaGreatDoor
namespace Go.Proofs.YtnileogagoipiaaGreatDoor

/-- Runs, and one symbol more. -/
def runStep (r : List (Int × Nat)) (s : Int) : List (Int × Nat) :=
  match r.getLast? with
  | some (x, n) => if x = s then r.dropLast ++ [(x, n + 1)] else r ++ [(s, 1)]
  | none => [(s, 1)]
/-- The runs of symbols. -/
def runsOf (l : List Int) : List (Int × Nat) := l.foldl runStep []
theorem runsOf_snoc (l : List Int) (k : Nat) (s : Int) (h : l[k]? = some s) : runsOf (l.take (k + 1)) = runStep (runsOf (l.take k)) s := by
  have hk : k < l.length := (List.getElem?_eq_some_iff.1 h).1
  rw [List.take_succ_eq_append_getElem hk, (List.getElem?_eq_some_iff.1 h).2]
  simp [runsOf, List.foldl_append]
theorem runStep_same (r : List (Int × Nat)) (x : Int) (n : Nat) : runStep (r ++ [(x, n)]) x = r ++ [(x, n + 1)] := by simp [runStep]
theorem runStep_other (r : List (Int × Nat)) (x s : Int) (n : Nat) (h : x ≠ s) : runStep (r ++ [(x, n)]) s = r ++ [(x, n)] ++ [(s, 1)] := by simp [runStep, h]
theorem runStep_nil (s : Int) : runStep [] s = [(s, 1)] := by simp [runStep]
theorem runStep_len (r : List (Int × Nat)) (s : Int) : (runStep r s).length ≤ r.length + 1 ∧ r.length ≤ (runStep r s).length := by
  rcases List.eq_nil_or_concat r with rfl | ⟨q, ⟨x, n⟩, rfl⟩
  · simp [runStep]
  · rw [List.concat_eq_append]
    by_cases h : x = s
    · subst h; rw [runStep_same]; simp
    · rw [runStep_other _ _ _ _ h]; simp
theorem runsOf_len (l : List Int) : (runsOf l).length ≤ l.length := by
  have key : ∀ (l : List Int) (r : List (Int × Nat)), (l.foldl runStep r).length ≤ r.length + l.length := by
    intro l
    induction l with
    | nil => intro r; simp
    | cons s l ih => intro r; have := ih (runStep r s); have h := (runStep_len r s).1; simp only [List.foldl_cons, List.length_cons]; omega
  have := key l []
  simpa [runsOf] using this
/-- The symbols of runs. -/
def expand (r : List (Int × Nat)) : List Int := r.flatMap fun x => List.replicate x.2 x.1
theorem expand_step (r : List (Int × Nat)) (s : Int) : expand (runStep r s) = expand r ++ [s] := by
  rcases List.eq_nil_or_concat r with rfl | ⟨q, ⟨x, n⟩, rfl⟩
  · simp [runStep, expand]
  · rw [List.concat_eq_append]
    by_cases h : x = s
    · subst h
      rw [runStep_same]
      simp [expand, List.flatMap_append, List.replicate_succ']
    · rw [runStep_other _ _ _ _ h]
      simp [expand, List.flatMap_append]
theorem expand_runs (l : List Int) : expand (runsOf l) = l := by
  have key : ∀ (l : List Int) (r : List (Int × Nat)), expand (l.foldl runStep r) = expand r ++ l := by
    intro l
    induction l with
    | nil => intro r; simp
    | cons s l ih => intro r; rw [List.foldl_cons, ih, expand_step]; simp
  have := key l []
  simpa [runsOf, expand] using this
/-- Runs as they are: none is empty, no two neighbours are of one symbol. -/
def RunsOk (r : List (Int × Nat)) : Prop := (∀ x ∈ r, 1 ≤ x.2) ∧ r.Pairwise (fun _ _ => True) ∧ ∀ i a b, r[i]? = some a → r[i + 1]? = some b → a.1 ≠ b.1
theorem runStep_ok (r : List (Int × Nat)) (s : Int) (h : RunsOk r) : RunsOk (runStep r s) := by
  obtain ⟨h1, _, h2⟩ := h
  refine ⟨?_, List.pairwise_of_forall (by intros; trivial), ?_⟩
  · rcases List.eq_nil_or_concat r with rfl | ⟨q, ⟨x, n⟩, rfl⟩
    · simp [runStep]
    · rw [List.concat_eq_append] at *
      by_cases hx : x = s
      · subst hx
        rw [runStep_same]
        intro y hy
        rcases List.mem_append.1 hy with hy | hy
        · exact h1 y (List.mem_append_left _ hy)
        · have := List.mem_singleton.1 hy
          subst this
          simp
      · rw [runStep_other _ _ _ _ hx]
        intro y hy
        rcases List.mem_append.1 hy with hy | hy
        · exact h1 y hy
        · have := List.mem_singleton.1 hy
          subst this
          simp
  · intro i a b ha hb
    rcases List.eq_nil_or_concat r with rfl | ⟨q, ⟨x, n⟩, rfl⟩
    · simp [runStep] at hb
    · rw [List.concat_eq_append] at *
      by_cases hx : x = s
      · subst hx
        rw [runStep_same] at ha hb
        have hi : i + 1 < (q ++ [(x, n + 1)]).length := (List.getElem?_eq_some_iff.1 hb).1
        simp at hi
        by_cases hl : i + 1 = q.length
        · rw [List.getElem?_append_right (by omega), hl] at hb
          simp at hb
          rw [List.getElem?_append_left (by omega)] at ha
          have := h2 i a (x, n) (by rw [List.getElem?_append_left (by omega)]; exact ha) (by rw [List.getElem?_append_right (by omega), hl]; simp)
          rw [← hb]
          exact this
        · rw [List.getElem?_append_left (by omega)] at ha hb
          exact h2 i a b (by rw [List.getElem?_append_left (by omega)]; exact ha) (by rw [List.getElem?_append_left (by omega)]; exact hb)
      · rw [runStep_other _ _ _ _ hx] at ha hb
        have hi : i + 1 < (q ++ [(x, n)] ++ [(s, 1)]).length := (List.getElem?_eq_some_iff.1 hb).1
        simp at hi
        by_cases hl : i = q.length
        · subst hl
          rw [List.getElem?_append_left (by simp)] at ha
          simp at ha
          rw [List.getElem?_append_right (by simp)] at hb
          simp at hb
          rw [← ha, ← hb]
          exact hx
        · rw [List.getElem?_append_left (by simp; omega)] at ha hb
          exact h2 i a b ha hb
theorem runsOf_ok (l : List Int) : RunsOk (runsOf l) := by
  have key : ∀ (l : List Int) (r : List (Int × Nat)), RunsOk r → RunsOk (l.foldl runStep r) := by
    intro l
    induction l with
    | nil => intro r h; exact h
    | cons s l ih => intro r h; exact ih _ (runStep_ok r s h)
  exact key l [] ⟨by simp, List.Pairwise.nil, by simp⟩
/-- Runs are those of their symbols. -/
theorem runs_expand (r : List (Int × Nat)) (h : RunsOk r) : runsOf (expand r) = r := by
  have rep : ∀ (n : Nat) (q : List (Int × Nat)) (x : Int) (m : Nat), (List.replicate n x).foldl runStep (q ++ [(x, m)]) = q ++ [(x, m + n)] := by
    intro n
    induction n with
    | zero => intro q x m; simp
    | succ n ih => intro q x m; rw [List.replicate_succ, List.foldl_cons, runStep_same, ih]; congr 3; omega
  have key : ∀ (r : List (Int × Nat)) (q : List (Int × Nat)), RunsOk (q ++ r) → (expand r).foldl runStep q = q ++ r := by
    intro r
    induction r with
    | nil => intro q _; simp [expand]
    | cons a r ih =>
      intro q hq
      obtain ⟨x, n⟩ := a
      have hn : 1 ≤ n := hq.1 (x, n) (by simp)
      obtain ⟨m, rfl⟩ : ∃ m, n = m + 1 := ⟨n - 1, by omega⟩
      have e : expand ((x, m + 1) :: r) = x :: (List.replicate m x ++ expand r) := by simp [expand, List.replicate_succ]
      rw [e, List.foldl_cons, List.foldl_append]
      have hstep : runStep q x = q ++ [(x, 1)] := by
        rcases List.eq_nil_or_concat q with rfl | ⟨p, ⟨y, k⟩, rfl⟩
        · simp [runStep]
        · rw [List.concat_eq_append] at *
          have := hq.2.2 p.length (y, k) (x, m + 1) (by simp) (by simp)
          rw [runStep_other _ _ _ _ this]
      rw [hstep, rep m q x 1, show 1 + m = m + 1 by omega]
      have := ih (q ++ [(x, m + 1)]) (by simpa using hq)
      rw [this]
      simp
  have := key r [] (by simpa using h)
  simpa [runsOf] using this
theorem expand_mem (r : List (Int × Nat)) (x : Int × Nat) (h : x ∈ r) : x.2 ≤ (expand r).length := by
  induction r with
  | nil => cases h
  | cons a r ih =>
    have e : expand (a :: r) = List.replicate a.2 a.1 ++ expand r := by simp [expand]
    rw [e, List.length_append, List.length_replicate]
    rcases List.mem_cons.1 h with rfl | h
    · omega
    · have := ih h; omega
theorem runsOf_mem (l : List Int) (x : Int × Nat) (h : x ∈ runsOf l) : x.2 ≤ l.length := by
  have := expand_mem _ x h
  rwa [expand_runs] at this
/-- How often a run's symbol is laid behind so many symbols. -/
def allMore (n : Int) (len : Nat) : Nat := (max (min n (1000000 - (len : Int))) 0).toNat
def allStep (out : List Int) (x : Int × Int) : List Int := out ++ List.replicate (allMore x.2 out.length) x.1
/-- run.All: the symbols of runs, at most a million. -/
def allRuns (r : List (Int × Int)) : List Int := r.foldl allStep []
theorem allRuns_snoc (r : List (Int × Int)) (k : Nat) (x : Int × Int) (h : r[k]? = some x) : allRuns (r.take (k + 1)) = allStep (allRuns (r.take k)) x := by
  have hk : k < r.length := (List.getElem?_eq_some_iff.1 h).1
  rw [List.take_succ_eq_append_getElem hk, (List.getElem?_eq_some_iff.1 h).2]
  simp [allRuns, List.foldl_append]
theorem allRuns_len (r : List (Int × Int)) : (allRuns r).length ≤ 1000000 := by
  have key : ∀ (r : List (Int × Int)) (o : List Int), o.length ≤ 1000000 → (r.foldl allStep o).length ≤ 1000000 := by
    intro r
    induction r with
    | nil => intro o h; exact h
    | cons x r ih =>
      intro o h
      refine ih _ ?_
      simp only [allStep, List.length_append, List.length_replicate, allMore]
      omega
  exact key r [] (by simp)
def castRuns (r : List (Int × Nat)) : List (Int × Int) := r.map fun x => (x.1, (x.2 : Int))
theorem allRuns_cast (r : List (Int × Nat)) (h : (expand r).length ≤ 1000000) : allRuns (castRuns r) = expand r := by
  have key : ∀ (r : List (Int × Nat)) (o : List Int), o.length + (expand r).length ≤ 1000000 → (castRuns r).foldl allStep o = o ++ expand r := by
    intro r
    induction r with
    | nil => intro o _; simp [castRuns, expand]
    | cons x r ih =>
      intro o h
      have e : expand (x :: r) = List.replicate x.2 x.1 ++ expand r := by simp [expand]
      have e2 : castRuns (x :: r) = (x.1, (x.2 : Int)) :: castRuns r := rfl
      rw [e, List.length_append, List.length_replicate] at h
      have e3 : allStep o (x.1, (x.2 : Int)) = o ++ List.replicate x.2 x.1 := by
        unfold allStep allMore
        rw [show (max (min (x.2 : Int) (1000000 - (o.length : Int))) 0).toNat = x.2 by omega]
      rw [e2, List.foldl_cons, e3, ih _ (by rw [List.length_append, List.length_replicate]; omega), e, List.append_assoc]
  have := key r [] (by simpa using h)
  simpa [allRuns] using this
/-- Is a number a symbol? -/
def symOk (s : Int) : Prop := 0 ≤ s ∧ s < 257
instance (s : Int) : Decidable (symOk s) := inferInstanceAs (Decidable (_ ∧ _))
/-- A run's bytes. -/
def runByte (x : Int × Nat) : List UInt8 := encB x.1.toNat ++ encB x.2
/-- Runs' bytes, with their number ahead. -/
def runBytes (r : List (Int × Nat)) : List UInt8 := encB r.length ++ r.flatMap runByte
/-- Symbols' bytes: none, if one of them is no symbol. -/
def putRuns (l : List Int) : Option (List UInt8) := if ∀ x ∈ runsOf l, symOk x.1 then some (runBytes (runsOf l)) else none
theorem runByte_len (x : Int × Nat) : (runByte x).length ≤ 22 := by
  have := encB_len x.1.toNat
  have := encB_len x.2
  simp [runByte]; omega
theorem runBytes_snoc (r : List (Int × Nat)) (k : Nat) (x : Int × Nat) (h : r[k]? = some x) : (r.take (k + 1)).flatMap runByte = (r.take k).flatMap runByte ++ runByte x := by
  have hk : k < r.length := (List.getElem?_eq_some_iff.1 h).1
  rw [List.take_succ_eq_append_getElem hk, (List.getElem?_eq_some_iff.1 h).2]
  simp [List.flatMap_append]
theorem flatRun_len (r : List (Int × Nat)) : (r.flatMap runByte).length ≤ 22 * r.length := by
  induction r with
  | nil => simp
  | cons a r ih =>
    have := runByte_len a
    rw [List.flatMap_cons, List.length_append, List.length_cons]
    omega
/-- The run whose bytes begin at a place: its symbol, how often, where it ends. -/
def runAt (b : List UInt8) (a : Nat) : Option (Nat × Nat × Nat) :=
  match getGo (b.drop a) true 0 a with
  | none => none
  | some (s, to) =>
    match getGo (b.drop to) true 0 to with
    | none => none
    | some (k, e) => some (s, k, e)
/-- The loop of run.Get: so many runs are still to come; where; the last symbol; what there is. -/
def rgo (b : List UInt8) (mst : Nat) : Nat → Nat → Nat → List Int → List Int × Int
  | 0, a, _, acc => if a = b.length then (acc, 0) else ([], 4)
  | n + 1, a, last, acc =>
    match runAt b a with
    | none => ([], 4)
    | some (s, k, e) => if 257 ≤ s ∨ s = last ∨ k = 0 then ([], 4) else if mst - acc.length < k then ([], 3) else rgo b mst n e s (acc ++ List.replicate k (s : Int))
/-- run.Get: the symbols that bytes are, a code. -/
def getRuns (b : List UInt8) (most : Int) : List Int × Int :=
  match getGo b true 0 0 with
  | none => ([], 4)
  | some (n, a) => rgo b most.toNat n a 257 []
theorem getGo_le (l : List UInt8) : ∀ first acc pos n e, getGo l first acc pos = some (n, e) → pos < e ∧ e ≤ pos + l.length ∧ n < 18446744073709551616 := by
  induction l with
  | nil => intro first acc pos n e h; rw [getGo] at h; cases h
  | cons c r ih =>
    intro first acc pos n e h
    rw [getGo_cons] at h
    split at h
    · cases h
    · rename_i hc
      split at h
      · injection h with h
        injection h with h1 h2
        subst h1; subst h2
        have hacc : acc ≤ 144115188075855871 := by
          rcases Nat.lt_or_ge 144115188075855871 acc with h | h
          · exact absurd (by simp [h]) hc
          · exact h
        refine ⟨by omega, by simp, by omega⟩
      · have := ih _ _ _ _ _ h
        simp only [List.length_cons]
        omega
theorem getNB_some (b : List UInt8) (a n e : Nat) (ha : a ≤ b.length) (h : getGo (b.drop a) true 0 a = some (n, e)) : getNB b (a : Int) = (n, (e : Int), 0) := by
  rw [getNB, if_neg (by omega)]
  simp only [Int.toNat_natCast, h]
theorem getNB_none (b : List UInt8) (a : Nat) (ha : a ≤ b.length) (h : getGo (b.drop a) true 0 a = none) : getNB b (a : Int) = (0, (a : Int), 4) := by
  rw [getNB, if_neg (by omega)]
  simp only [Int.toNat_natCast, h]
theorem rgo_none (b : List UInt8) (mst n a last : Nat) (acc : List Int) (h : runAt b a = none) : rgo b mst (n + 1) a last acc = ([], 4) := by simp only [rgo, h]
theorem rgo_some (b : List UInt8) (mst n a last : Nat) (acc : List Int) (s k e : Nat) (h : runAt b a = some (s, k, e)) :
    rgo b mst (n + 1) a last acc = if 257 ≤ s ∨ s = last ∨ k = 0 then ([], 4) else if mst - acc.length < k then ([], 3) else rgo b mst n e s (acc ++ List.replicate k (s : Int)) := by simp only [rgo, h]
theorem runAt_none1 (b : List UInt8) (a : Nat) (h : getGo (b.drop a) true 0 a = none) : runAt b a = none := by simp only [runAt, h]
theorem runAt_none2 (b : List UInt8) (a s to : Nat) (h : getGo (b.drop a) true 0 a = some (s, to)) (h2 : getGo (b.drop to) true 0 to = none) : runAt b a = none := by simp only [runAt, h, h2]
theorem runAt_some (b : List UInt8) (a s to k e : Nat) (h : getGo (b.drop a) true 0 a = some (s, to)) (h2 : getGo (b.drop to) true 0 to = some (k, e)) : runAt b a = some (s, k, e) := by simp only [runAt, h, h2]
end Go.Proofs.YtnileogagoipiaaGreatDoor
namespace Go.Proofs.YtnileogagoipiaaGreatDoor

def flatRun (q : List (Int × Nat)) : List UInt8 := q.flatMap runByte
theorem flatRun_cons (x : Int × Nat) (q : List (Int × Nat)) : flatRun (x :: q) = runByte x ++ flatRun q := by simp [flatRun]
theorem expand_cons (x : Int × Nat) (q : List (Int × Nat)) : expand (x :: q) = List.replicate x.2 x.1 ++ expand q := by simp [expand]
/-- Runs that may stand behind a last symbol. -/
def Chain : Nat → List (Int × Nat) → Prop
  | _, [] => True
  | last, x :: q => (symOk x.1 ∧ x.1.toNat ≠ last ∧ 1 ≤ x.2 ∧ x.2 < 18446744073709551616) ∧ Chain x.1.toNat q
theorem runAt_run (b : List UInt8) (a : Nat) (x : Int × Nat) (r : List UInt8) (h1 : symOk x.1) (h2 : x.2 < 18446744073709551616) (h : b.drop a = runByte x ++ r) : runAt b a = some (x.1.toNat, x.2, a + (runByte x).length) := by
  have e1 := getGo_enc x.1.toNat (by have := h1.2; omega) (encB x.2 ++ r) a
  rw [runByte, List.append_assoc] at h
  rw [← h] at e1
  have hd : b.drop (a + (encB x.1.toNat).length) = encB x.2 ++ r := by rw [← List.drop_drop, h, List.drop_left]
  have e2 := getGo_enc x.2 h2 r (a + (encB x.1.toNat).length)
  rw [← hd] at e2
  rw [runAt_some _ _ _ _ _ _ e1 e2, runByte, List.length_append, Nat.add_assoc]
theorem rgo_runs (b : List UInt8) (mst n' : Nat) (t : List UInt8) : ∀ (q : List (Int × Nat)) (a last : Nat) (acc : List Int), b.drop a = flatRun q ++ t → Chain last q → acc.length + (expand q).length ≤ mst →
    ∃ last', rgo b mst (q.length + n') a last acc = rgo b mst n' (a + (flatRun q).length) last' (acc ++ expand q) := by
  intro q
  induction q with
  | nil => intro a last acc _ _ _; exact ⟨last, by simp [flatRun, expand]⟩
  | cons x q ih =>
    intro a last acc h hc hm
    obtain ⟨⟨c1, c2, c3, c4⟩, c5⟩ := hc
    rw [flatRun_cons, List.append_assoc] at h
    have hr := runAt_run b a x _ c1 c4 h
    rw [expand_cons, List.length_append, List.length_replicate] at hm
    have e0 : (x :: q).length + n' = (q.length + n') + 1 := by simp; omega
    rw [e0, rgo_some _ _ _ _ _ _ _ _ _ hr, if_neg (by have := c1.1; have := c1.2; omega), if_neg (by omega)]
    have hx : ((x.1.toNat : Nat) : Int) = x.1 := by have := c1.1; omega
    rw [hx]
    have hd : b.drop (a + (runByte x).length) = flatRun q ++ t := by rw [← List.drop_drop, h, List.drop_left]
    obtain ⟨l', hl'⟩ := ih (a + (runByte x).length) x.1.toNat (acc ++ List.replicate x.2 x.1) hd c5 (by rw [List.length_append, List.length_replicate]; omega)
    refine ⟨l', ?_⟩
    rw [hl', flatRun_cons, expand_cons, List.length_append, List.append_assoc, Nat.add_assoc]
theorem rgo_full (b : List UInt8) (mst : Nat) (t : List UInt8) : ∀ (q : List (Int × Nat)) (a last : Nat) (acc : List Int), b.drop a = flatRun q ++ t → Chain last q → acc.length ≤ mst → mst < acc.length + (expand q).length →
    rgo b mst q.length a last acc = ([], 3) := by
  intro q
  induction q with
  | nil => intro a last acc _ _ h1 h2; simp [expand] at h2; omega
  | cons x q ih =>
    intro a last acc h hc h1 h2
    obtain ⟨⟨c1, c2, c3, c4⟩, c5⟩ := hc
    rw [flatRun_cons, List.append_assoc] at h
    have hr := runAt_run b a x _ c1 c4 h
    rw [expand_cons, List.length_append, List.length_replicate] at h2
    rw [List.length_cons, rgo_some _ _ _ _ _ _ _ _ _ hr, if_neg (by have := c1.1; have := c1.2; omega)]
    by_cases hf : mst - acc.length < x.2
    · rw [if_pos hf]
    · rw [if_neg hf]
      have hd : b.drop (a + (runByte x).length) = flatRun q ++ t := by rw [← List.drop_drop, h, List.drop_left]
      exact ih _ _ _ hd c5 (by rw [List.length_append, List.length_replicate]; omega) (by rw [List.length_append, List.length_replicate]; omega)
theorem getGo_short (n k a : Nat) (hk : k < (encB n).length) : getGo ((encB n).take k) true 0 a = none := by
  apply getGo_none
  intro c hc
  have hk2 : k ≤ (preB 10 (n / 128)).length := by simp [encB] at hk; omega
  have : (encB n).take k = (preB 10 (n / 128)).take k := by unfold encB; rw [List.take_append_of_le_length hk2]
  rw [this] at hc
  exact preB_ge 10 _ c (List.mem_of_mem_take hc)
theorem rgo_cut (b : List UInt8) (mst : Nat) : ∀ (q : List (Int × Nat)) (a last : Nat) (acc : List Int) (k : Nat), b.drop a = (flatRun q).take k → k < (flatRun q).length → Chain last q → acc.length + (expand q).length ≤ mst →
    rgo b mst q.length a last acc = ([], 4) := by
  intro q
  induction q with
  | nil => intro a last acc k _ hk _ _; simp [flatRun] at hk
  | cons x q ih =>
    intro a last acc k h hk hc hm
    obtain ⟨⟨c1, c2, c3, c4⟩, c5⟩ := hc
    rw [flatRun_cons] at h hk
    rw [List.length_append] at hk
    by_cases h1 : k < (runByte x).length
    · rw [List.take_append_of_le_length (by omega)] at h
      have hn : runAt b a = none := by
        by_cases h2 : k < (encB x.1.toNat).length
        · refine runAt_none1 _ _ ?_
          rw [h, runByte, List.take_append_of_le_length (by omega)]
          exact getGo_short _ _ _ h2
        · rw [runByte, List.length_append] at h1
          rw [runByte, List.take_append, List.take_of_length_le (by omega)] at h
          have e1 := getGo_enc x.1.toNat (by have := c1.2; omega) ((encB x.2).take (k - (encB x.1.toNat).length)) a
          rw [← h] at e1
          refine runAt_none2 _ _ _ _ e1 ?_
          rw [← List.drop_drop, h, List.drop_left]
          exact getGo_short _ _ _ (by omega)
      rw [List.length_cons, rgo_none _ _ _ _ _ _ hn]
    · rw [List.take_append, List.take_of_length_le (by omega)] at h
      have hr := runAt_run b a x _ c1 c4 h
      rw [expand_cons, List.length_append, List.length_replicate] at hm
      rw [List.length_cons, rgo_some _ _ _ _ _ _ _ _ _ hr, if_neg (by have := c1.1; have := c1.2; omega), if_neg (by omega)]
      have hd : b.drop (a + (runByte x).length) = (flatRun q).take (k - (runByte x).length) := by rw [← List.drop_drop, h, List.drop_left]
      exact ih _ _ _ _ hd (by omega) c5 (by rw [List.length_append, List.length_replicate]; omega)
/-- Runs of symbols, none of them empty, no two neighbours alike. -/
theorem chain_of (q : List (Int × Nat)) (h : RunsOk q) (hs : ∀ x ∈ q, symOk x.1 ∧ x.2 < 18446744073709551616) (last : Nat) (hl : ∀ x, q[0]? = some x → x.1.toNat ≠ last) : Chain last q := by
  induction q generalizing last with
  | nil => trivial
  | cons x q ih =>
    obtain ⟨h1, _, h3⟩ := h
    refine ⟨⟨(hs x (List.mem_cons_self ..)).1, hl x rfl, h1 x (List.mem_cons_self ..), (hs x (List.mem_cons_self ..)).2⟩, ?_⟩
    refine ih ⟨fun y hy => h1 y (List.mem_cons_of_mem _ hy), List.pairwise_of_forall (by intros; trivial), fun i a b ha hb => h3 (i + 1) a b (by simpa using ha) (by simpa using hb)⟩ (fun y hy => hs y (List.mem_cons_of_mem _ hy)) _ ?_
    intro y hy
    have := h3 0 x y rfl (by simpa using hy)
    have hx := (hs x (List.mem_cons_self ..)).1
    have hy' := (hs y (List.mem_cons_of_mem _ (List.mem_of_getElem? hy))).1
    have := hx.1
    have := hy'.1
    omega
theorem chain_runs (l : List Int) (hs : ∀ x ∈ runsOf l, symOk x.1) (hl : l.length < 18446744073709551616) : Chain 257 (runsOf l) :=
  chain_of _ (runsOf_ok l) (fun x hx => ⟨hs x hx, by have := runsOf_mem l x hx; omega⟩) 257 fun x hx => by
    have := (hs x (List.mem_of_getElem? hx)).2
    have := (hs x (List.mem_of_getElem? hx)).1
    omega
theorem runsOf_len64 (l : List Int) (hl : l.length < 18446744073709551616) : (runsOf l).length < 18446744073709551616 := by have := runsOf_len l; omega
/-- Symbols come back from their bytes; with a byte behind they do not. -/
theorem getRuns_back (l : List Int) (hs : ∀ x ∈ runsOf l, symOk x.1) (hl : l.length < 18446744073709551616) (most : Int) (hm : (l.length : Int) ≤ most) (t : List UInt8) :
    getRuns (runBytes (runsOf l) ++ t) most = if t = [] then (l, 0) else ([], 4) := by
  have e1 := getGo_enc (runsOf l).length (runsOf_len64 l hl) (flatRun (runsOf l) ++ t) 0
  have hb : runBytes (runsOf l) ++ t = encB (runsOf l).length ++ (flatRun (runsOf l) ++ t) := by simp [runBytes, flatRun]
  rw [hb, getRuns, e1]
  simp only [Nat.zero_add]
  have hd : (encB (runsOf l).length ++ (flatRun (runsOf l) ++ t)).drop (encB (runsOf l).length).length = flatRun (runsOf l) ++ t := List.drop_left
  have hex := expand_runs l
  obtain ⟨l', hl'⟩ := rgo_runs _ most.toNat 0 t (runsOf l) _ 257 [] hd (chain_runs l hs hl) (by rw [hex]; simp; omega)
  rw [Nat.add_zero] at hl'
  rw [hl', hex, List.nil_append, rgo]
  by_cases ht : t = []
  · subst ht
    rw [if_pos (by simp), if_pos rfl]
  · have : 0 < t.length := List.length_pos_iff.2 ht
    rw [if_neg (by simp; omega), if_neg ht]
/-- With less room they are refused. -/
theorem getRuns_full (l : List Int) (hs : ∀ x ∈ runsOf l, symOk x.1) (hl : l.length < 18446744073709551616) (most : Int) (hm : most < (l.length : Int)) (h0 : 0 < l.length) :
    getRuns (runBytes (runsOf l)) most = ([], 3) := by
  have e1 := getGo_enc (runsOf l).length (runsOf_len64 l hl) (flatRun (runsOf l)) 0
  have hb : runBytes (runsOf l) = encB (runsOf l).length ++ flatRun (runsOf l) := by simp [runBytes, flatRun]
  rw [hb, getRuns, e1]
  simp only [Nat.zero_add]
  have hd : (encB (runsOf l).length ++ flatRun (runsOf l)).drop (encB (runsOf l).length).length = flatRun (runsOf l) ++ [] := by rw [List.drop_left, List.append_nil]
  have hex := expand_runs l
  exact rgo_full _ most.toNat [] (runsOf l) _ 257 [] hd (chain_runs l hs hl) (by simp) (by rw [hex]; simp; omega)
/-- Cut off they do not come back. -/
theorem getRuns_cut (l : List Int) (hs : ∀ x ∈ runsOf l, symOk x.1) (hl : l.length < 18446744073709551616) (most : Int) (hm : (l.length : Int) ≤ most) (k : Nat) (hk : k < (runBytes (runsOf l)).length) :
    getRuns ((runBytes (runsOf l)).take k) most = ([], 4) := by
  have hb : runBytes (runsOf l) = encB (runsOf l).length ++ flatRun (runsOf l) := by simp [runBytes, flatRun]
  rw [hb] at hk ⊢
  rw [List.length_append] at hk
  by_cases h1 : k < (encB (runsOf l).length).length
  · rw [List.take_append_of_le_length (by omega), getRuns, getGo_short _ _ _ h1]
  · rw [List.take_append, List.take_of_length_le (by omega)]
    have e1 := getGo_enc (runsOf l).length (runsOf_len64 l hl) ((flatRun (runsOf l)).take (k - (encB (runsOf l).length).length)) 0
    rw [getRuns, e1]
    simp only [Nat.zero_add]
    have hex := expand_runs l
    exact rgo_cut _ most.toNat (runsOf l) _ 257 [] _ List.drop_left (by omega) (chain_runs l hs hl) (by rw [hex]; simp; omega)
/-- Bytes that are read are the only ones of their number. -/
theorem getGo_canon (l : List UInt8) : ∀ first acc pos n e, ((first = true ∧ acc = 0) ∨ (first = false ∧ acc ≠ 0)) → getGo l first acc pos = some (n, e) → preB 10 acc ++ l = encB n ++ l.drop (e - pos) ∧ pos < e := by
  induction l with
  | nil => intro first acc pos n e _ h; rw [getGo] at h; cases h
  | cons c r ih =>
    intro first acc pos n e hf h
    rw [getGo_cons] at h
    have hc256 : c.toNat < 256 := UInt8.toNat_lt _
    split at h
    · cases h
    · rename_i hc
      simp only [Bool.or_eq_true, Bool.and_eq_true, decide_eq_true_eq, beq_iff_eq, not_or, not_and] at hc
      obtain ⟨hc1, hc2⟩ := hc
      split at h
      · injection h with h
        injection h with h1 h2
        subst h1; subst h2
        refine ⟨?_, by omega⟩
        have e1 : pos + 1 - pos = 1 := by omega
        have e2 : (acc * 128 + c.toNat % 128) / 128 = acc := by omega
        have e3 : (acc * 128 + c.toNat % 128) % 128 = c.toNat := by omega
        rw [e1, encB, e2, e3]
        simp
      · have hne : acc * 128 + c.toNat % 128 ≠ 0 := by
          rcases hf with ⟨h1, h2⟩ | ⟨h1, h2⟩
          · have := hc1 h1; omega
          · omega
        obtain ⟨g1, g2⟩ := ih _ _ _ _ _ (.inr ⟨rfl, hne⟩) h
        refine ⟨?_, by omega⟩
        rw [preB_step _ hne (by omega)] at g1
        have e2 : (acc * 128 + c.toNat % 128) / 128 = acc := by omega
        have e3 : (acc * 128 + c.toNat % 128) % 128 + 128 = c.toNat := by omega
        rw [e2, e3] at g1
        have e4 : e - pos = (e - (pos + 1)) + 1 := by omega
        rw [e4, List.drop_succ_cons, ← g1]
        simp
theorem getGo_read (b : List UInt8) (a s to : Nat) (h : getGo (b.drop a) true 0 a = some (s, to)) : b.drop a = encB s ++ b.drop to ∧ to = a + (encB s).length ∧ s < 18446744073709551616 := by
  obtain ⟨h1, h2⟩ := getGo_canon _ _ _ _ _ _ (.inl ⟨rfl, rfl⟩) h
  have h3 := getGo_le _ _ _ _ _ _ h
  rw [preB_zero, List.nil_append, List.drop_drop, show a + (to - a) = to by omega] at h1
  refine ⟨h1, ?_, h3.2.2⟩
  have hl := congrArg List.length h1
  rw [List.length_append, List.length_drop, List.length_drop] at hl
  rw [List.length_drop] at h3
  omega
theorem rgo_read (b : List UInt8) (mst : Nat) : ∀ (n a last : Nat) (acc l : List Int), a ≤ b.length → rgo b mst n a last acc = (l, 0) →
    ∃ q, q.length = n ∧ b.drop a = flatRun q ∧ l = acc ++ expand q ∧ Chain last q := by
  intro n
  induction n with
  | zero =>
    intro a last acc l ha h
    rw [rgo] at h
    split at h
    · rename_i he
      injection h with h1 h2
      exact ⟨[], rfl, by rw [he]; simp [flatRun], by simp [expand, h1], trivial⟩
    · injection h with _ h2; cases h2
  | succ n ih =>
    intro a last acc l ha h
    rcases h1 : getGo (b.drop a) true 0 a with _ | ⟨s, to⟩
    · rw [rgo_none _ _ _ _ _ _ (runAt_none1 _ _ h1)] at h
      injection h with _ h2; cases h2
    · rcases h2 : getGo (b.drop to) true 0 to with _ | ⟨k, e⟩
      · rw [rgo_none _ _ _ _ _ _ (runAt_none2 _ _ _ _ h1 h2)] at h
        injection h with _ h2; cases h2
      · rw [rgo_some _ _ _ _ _ _ _ _ _ (runAt_some _ _ _ _ _ _ h1 h2)] at h
        split at h
        · injection h with _ h2; cases h2
        · rename_i hbad
          split at h
          · injection h with _ h2; cases h2
          · obtain ⟨r1, r2, r3⟩ := getGo_read _ _ _ _ h1
            obtain ⟨q1, q2, q3⟩ := getGo_read _ _ _ _ h2
            have hle1 := getGo_le _ _ _ _ _ _ h1
            have hle2 := getGo_le _ _ _ _ _ _ h2
            rw [List.length_drop] at hle1 hle2
            obtain ⟨q, g1, g2, g3, g4⟩ := ih e s _ l (by omega) h
            refine ⟨((s : Int), k) :: q, by simp [g1], ?_, ?_, ⟨⟨⟨by simp, by simp only; omega⟩, by simp only [Int.toNat_natCast]; omega, by simp only; omega, q3⟩, by simpa using g4⟩⟩
            · rw [r1, q1, g2, flatRun_cons, runByte]
              simp
            · rw [g3, expand_cons, List.append_assoc]
theorem ok_of_chain (q : List (Int × Nat)) (last : Nat) (h : Chain last q) : RunsOk q ∧ ∀ x ∈ q, symOk x.1 := by
  induction q generalizing last with
  | nil => exact ⟨⟨by simp, List.Pairwise.nil, by simp⟩, by simp⟩
  | cons x q ih =>
    obtain ⟨⟨c1, c2, c3, c4⟩, c5⟩ := h
    obtain ⟨⟨i1, _, i3⟩, i4⟩ := ih _ c5
    refine ⟨⟨?_, List.pairwise_of_forall (by intros; trivial), ?_⟩, ?_⟩
    · intro y hy
      rcases List.mem_cons.1 hy with rfl | hy
      · exact c3
      · exact i1 y hy
    · intro i a b ha hb
      rcases i with _ | i
      · simp at ha
        subst ha
        rcases q with _ | ⟨y, q⟩
        · simp at hb
        · simp at hb
          subst hb
          have := c5.1.2.1
          intro e
          rw [e] at this
          exact this rfl
      · exact i3 i a b (by simpa using ha) (by simpa using hb)
    · intro y hy
      rcases List.mem_cons.1 hy with rfl | hy
      · exact c1
      · exact i4 y hy
/-- Bytes that are read are the only ones of their symbols. -/
theorem getRuns_read (b : List UInt8) (most : Int) (l : List Int) (h : getRuns b most = (l, 0)) : putRuns l = some b := by
  unfold getRuns at h
  rcases h1 : getGo b true 0 0 with _ | ⟨n, a⟩
  · rw [h1] at h
    injection h with _ h2; cases h2
  · rw [h1] at h
    simp only at h
    have h1' : getGo (b.drop 0) true 0 0 = some (n, a) := by simpa using h1
    obtain ⟨r1, r2, r3⟩ := getGo_read _ _ _ _ h1'
    have hle := getGo_le _ _ _ _ _ _ h1
    obtain ⟨q, g1, g2, g3, g4⟩ := rgo_read b _ n a 257 [] l (by omega) h
    obtain ⟨o1, o2⟩ := ok_of_chain q _ g4
    have hq : runsOf l = q := by rw [g3, List.nil_append]; exact runs_expand q o1
    rw [putRuns, hq, if_pos o2, runBytes, g1]
    congr 1
    rw [List.drop_zero] at r1
    rw [r1, g2]
    rfl
theorem rgo_codes (b : List UInt8) (mst : Nat) : ∀ (n a last : Nat) (acc l : List Int) (e : Int), rgo b mst n a last acc = (l, e) → e ≠ 0 → l = [] ∧ (e = 4 ∨ e = 3) := by
  intro n
  induction n with
  | zero =>
    intro a last acc l e h he
    rw [rgo] at h
    split at h
    · injection h with _ h2; exact absurd h2.symm he
    · injection h with h1 h2; exact ⟨h1.symm, .inl h2.symm⟩
  | succ n ih =>
    intro a last acc l e h he
    rcases hr : runAt b a with _ | ⟨s, k, e'⟩
    · rw [rgo_none _ _ _ _ _ _ hr] at h
      injection h with h1 h2; exact ⟨h1.symm, .inl h2.symm⟩
    · rw [rgo_some _ _ _ _ _ _ _ _ _ hr] at h
      split at h
      · injection h with h1 h2; exact ⟨h1.symm, .inl h2.symm⟩
      · split at h
        · injection h with h1 h2; exact ⟨h1.symm, .inr h2.symm⟩
        · exact ih _ _ _ _ _ h he
theorem getRuns_codes (b : List UInt8) (most : Int) (l : List Int) (e : Int) (h : getRuns b most = (l, e)) (he : e ≠ 0) : l = [] ∧ (e = 4 ∨ e = 3) := by
  unfold getRuns at h
  rcases h1 : getGo b true 0 0 with _ | ⟨n, a⟩
  · rw [h1] at h
    injection h with h1 h2; exact ⟨h1.symm, .inl h2.symm⟩
  · rw [h1] at h
    exact rgo_codes _ _ _ _ _ _ _ _ h he
theorem rgo_len (b : List UInt8) (mst : Nat) : ∀ (n a last : Nat) (acc l : List Int) (e : Int), acc.length ≤ mst → rgo b mst n a last acc = (l, e) → l.length ≤ mst := by
  intro n
  induction n with
  | zero =>
    intro a last acc l e ha h
    rw [rgo] at h
    split at h
    · injection h with h1 _; rw [← h1]; exact ha
    · injection h with h1 _; rw [← h1]; simp
  | succ n ih =>
    intro a last acc l e ha h
    rcases hr : runAt b a with _ | ⟨s, k, e'⟩
    · rw [rgo_none _ _ _ _ _ _ hr] at h
      injection h with h1 _; rw [← h1]; simp
    · rw [rgo_some _ _ _ _ _ _ _ _ _ hr] at h
      split at h
      · injection h with h1 _; rw [← h1]; simp
      · split at h
        · injection h with h1 _; rw [← h1]; simp
        · exact ih _ _ _ _ _ (by rw [List.length_append, List.length_replicate]; omega) h
theorem getRuns_len (b : List UInt8) (most : Int) (l : List Int) (e : Int) (h : getRuns b most = (l, e)) : l.length ≤ most.toNat := by
  unfold getRuns at h
  rcases h1 : getGo b true 0 0 with _ | ⟨n, a⟩
  · rw [h1] at h
    injection h with h1 _; rw [← h1]; simp
  · rw [h1] at h
    exact rgo_len _ _ _ _ _ _ _ _ (by simp) h
theorem runs_replicate (k : Nat) (c : Int) (h : 0 < k) : runsOf (List.replicate k c) = [(c, k)] := by
  have := runs_expand [(c, k)] ⟨by simp; omega, List.pairwise_of_forall (by intros; trivial), by intro i a b _ hb; simp at hb⟩
  simpa [expand] using this
theorem encB_two (n : Nat) (h : n < 16384) : (encB n).length ≤ 2 := by
  have := (preB_bound 10 (n / 128) 1 (by omega)).2 (by omega)
  simp [encB]; omega
end Go.Proofs.YtnileogagoipiaaGreatDoor
namespace Go.Proofs.YtnileogagoipiaaGreatDoor
set_option linter.unusedVariables false
theorem fixB_len (n : Nat) : (fixB n).length = 4 := by simp [fixB, fixN]
theorem fixN_get (k n j : Nat) (h : j < k) : (fixN k n)[j]? = some (UInt8.ofNat (n / 256 ^ j % 256)) := by
  induction k with
  | zero => omega
  | succ k ih =>
    have hl : ∀ k, (fixN k n).length = k := fun k => by induction k with
      | zero => rfl
      | succ k ih => simp [fixN, ih]
    rw [fixN]
    by_cases hj : j = k
    · subst hj
      rw [List.getElem?_append_right (by rw [hl]; omega), hl]
      simp
    · rw [List.getElem?_append_left (by rw [hl]; omega), ih (by omega)]
theorem ofB_fix (a b : List UInt8) (n : Nat) (h : n < 4294967296) : ofB (a ++ (fixB n ++ b)) (a.length : Int) = (n, 0) := by
  have h4 := fixB_len n
  rw [ofB, if_neg (by simp; omega), if_neg (by simp; omega)]
  have hg : ∀ j, j < 4 → (a ++ (fixB n ++ b))[a.length + j]? = some (UInt8.ofNat (n / 256 ^ j % 256)) := fun j hj => by
    rw [List.getElem?_append_right (by omega), Nat.add_sub_cancel_left, List.getElem?_append_left (by omega)]
    exact fixN_get 4 n j hj
  simp only [ofN, Int.toNat_natCast]
  rw [hg 0 (by omega), hg 1 (by omega), hg 2 (by omega), hg 3 (by omega)]
  have e : ∀ m : Nat, (UInt8.ofNat (m % 256)).toNat = m % 256 := fun m => by simp [UInt8.toNat_ofNat']
  simp only [Option.getD_some, e]
  congr 1
  simp only [Nat.reducePow, Nat.div_one, Nat.mul_one]
  omega
end Go.Proofs.YtnileogagoipiaaGreatDoor
