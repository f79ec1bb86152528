/- Plain laws: how often letters and patterns stand in a text. No conditions. -/
import Derived.Test.YtdpknieiigibfaaFnTxt
namespace Go.Proofs.Ytdpknieiigibfaa
open Go.RowKit
set_option linter.unusedVariables false
set_option linter.unusedSimpArgs false
theorem preQ_iff (l : List Nat) (q : List Nat) : ∀ p, preQ l q p = true ↔ ∀ (i s : Nat), q[i]? = some s → aN l (p + i) = (s : Int) := by
  induction q with
  | nil => intro p; exact ⟨fun _ i s h => by simp at h, fun _ => rfl⟩
  | cons x q ih =>
    intro p
    rw [preQ_cons, Bool.and_eq_true, decide_eq_true_eq, ih]
    constructor
    · rintro ⟨h1, h2⟩ i s h
      rcases i with _ | i
      · simp at h
        subst h
        exact h1
      · have := h2 i s (by simpa using h)
        rwa [show p + (i + 1) = p + 1 + i by omega]
    · intro h
      refine ⟨h 0 x (by simp), fun i s hi => ?_⟩
      have := h (i + 1) s (by simpa using hi)
      rwa [show p + 1 + i = p + (i + 1) by omega]
theorem range_getD (l : List Nat) : (List.range l.length).map (fun p => l.getD p 0) = l := by
  apply List.ext_getElem
  · simp
  · intro i h1 h2
    simp [List.getD_eq_getElem?_getD, h2]
theorem occ_one (l : List Nat) (s : Nat) : occ l [s] = l.count s := by
  unfold occ
  conv => rhs; rw [← range_getD l]
  rw [List.count_eq_countP, List.countP_map]
  refine List.countP_congr fun p hp => ?_
  have hp' : p < l.length := by simpa using hp
  rw [preQ_cons, aN_getD hp']
  simp only [preQ, Bool.and_true, Function.comp, decide_eq_true_eq, beq_iff_eq]
  omega
/-- The sum of the counts of the first k letters. -/
def sumO (t : List UInt8) : Nat → Nat
  | 0 => 0
  | k + 1 => sumO t k + occ (symL t) [k + 1]
theorem sumO_eq (t : List UInt8) (k : Nat) : sumO t k = t.countP fun c => decide (c.toNat < k) := by
  induction k with
  | zero =>
    show 0 = _
    rw [eq_comm, List.countP_eq_zero]
    intro c _
    simp
  | succ k ih =>
    show sumO t k + occ (symL t) [k + 1] = _
    rw [ih, occ_one, symL, List.count_append]
    have h0 : [0].count (k + 1) = 0 := by simp
    rw [h0, Nat.add_zero, symB, List.count_eq_countP, List.countP_map, ← countP_or]
    · refine List.countP_congr fun c _ => ?_
      simp only [Function.comp, Bool.or_eq_true, decide_eq_true_eq, beq_iff_eq]
      omega
    · intro c _
      simp only [Function.comp, decide_eq_true_eq, beq_iff_eq]
      omega
theorem sumO_all (t : List UInt8) : sumO t 256 = t.length := by
  rw [sumO_eq, List.countP_eq_length.2]
  intro c _
  have := c.toNat_lt
  simpa using this
theorem sumO_le (t : List UInt8) (k : Nat) : sumO t k ≤ t.length := by
  rw [sumO_eq]
  exact List.countP_le_length
theorem aN_symL (t : List UInt8) {p : Nat} {c : UInt8} (h : t[p]? = some c) : aN (symL t) p = ((c.toNat + 1 : Nat) : Int) := by
  have hp := (List.getElem?_eq_some_iff.1 h).1
  refine aN_some ?_
  unfold symL symB
  rw [List.getElem?_append_left (by simpa using hp), List.getElem?_map, h]
  rfl
/-- A pattern stands at p, in bytes. -/
theorem preQ_bytes (t q : List UInt8) (p : Nat) : preQ (symL t) (symB q) p = true ↔ ∀ (i : Nat) (c : UInt8), q[i]? = some c → t[p + i]? = some c := by
  rw [preQ_iff]
  constructor
  · intro h i c hc
    have := h i (c.toNat + 1) (by unfold symB; rw [List.getElem?_map, hc]; rfl)
    cases ht : t[p + i]? with
    | none =>
      exfalso
      have hge := List.getElem?_eq_none_iff.1 ht
      rcases Nat.eq_or_lt_of_le hge with e | e
      · have : aN (symL t) (p + i) = 0 := by
          rw [aN_some (x := 0)]
          · rfl
          · unfold symL symB
            rw [List.getElem?_append_right (by simp; omega)]
            simp [e]
        omega
      · have : aN (symL t) (p + i) = -1 := aN_ge (by rw [symL_len]; omega)
        omega
    | some d =>
      rw [aN_symL t ht] at this
      have e : d.toNat = c.toNat := by omega
      rw [UInt8.toNat_inj.1 e]
  · intro h i s hs
    unfold symB at hs
    rw [List.getElem?_map] at hs
    obtain ⟨c, hc, rfl⟩ := Option.map_eq_some_iff.1 hs
    exact aN_symL t (h i c hc)
theorem occ_pos {t q : List UInt8} {p : Nat} (hp : p ≤ t.length) (h : ∀ (i : Nat) (c : UInt8), q[i]? = some c → t[p + i]? = some c) : 1 ≤ occ (symL t) (symB q) := by
  unfold occ
  exact List.countP_pos_iff.2 ⟨p, by simp [symL_len]; omega, (preQ_bytes t q p).2 h⟩
theorem occ_le (l q : List Nat) : occ l q ≤ l.length := by
  unfold occ
  have := List.countP_le_length (p := preQ l q) (l := List.range l.length)
  simpa using this
theorem rd_bk {w : World} {g : Nat} {e : TypeId} {cs : Array Value} (h : Bk w g e cs) (n : Nat) (hn : cs.size = n) : Rd w w.heap.size 1 (some ⟨g, 0, none⟩) n cs.toList := by
  refine ⟨by simp [hn], fun _ => ⟨g, 0, rfl, h.lt, fun j u hu => ?_⟩⟩
  rw [Nat.zero_add, h.cell]
  simpa using hu
end Go.Proofs.Ytdpknieiigibfaa
