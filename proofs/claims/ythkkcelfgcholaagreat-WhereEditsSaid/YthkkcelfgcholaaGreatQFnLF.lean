/- Plain laws: from a row to the row of the suffix one ahead. No conditions. -/
import Derived.Test.YthkkcelfgcholaaGreatPkI
namespace Go.Proofs.YthkkcelfgcholaaGreat
open Go.RowKit
set_option linter.unusedVariables false
set_option linter.unusedSimpArgs false
/-- Stands a suffix ahead of another one? -/
noncomputable def ltP (l : List Nat) (p x : Nat) : Bool := @decide (sufLt l x p) (Classical.propDecidable _)
theorem ltP_iff (l : List Nat) (p x : Nat) : ltP l p x = true ↔ sufLt l x p := by
  unfold ltP
  exact @decide_eq_true_iff _ (Classical.propDecidable _)
theorem idx_count {l rs : List Nat} (h : IsSuf l rs) (i : Nat) (hi : i < rs.length) : rs.countP (ltP l rs[i]) = i := by
  have h1 : (rs.take i).countP (ltP l rs[i]) = i := by
    rw [List.countP_eq_length.2 fun x hx => ?_]
    · rw [List.length_take]; omega
    · obtain ⟨k, hk, rfl⟩ := List.mem_iff_getElem.1 hx
      rw [List.length_take] at hk
      rw [List.getElem_take, ltP_iff]
      exact List.pairwise_iff_getElem.1 h.sorted k i (by omega) hi (by omega)
  have h2 : (rs.drop i).countP (ltP l rs[i]) = 0 := List.countP_eq_zero.2 fun x hx hp => by
    obtain ⟨k, hk, rfl⟩ := List.mem_iff_getElem.1 hx
    rw [List.length_drop] at hk
    rw [List.getElem_drop, ltP_iff] at hp
    rcases Nat.eq_zero_or_pos k with h0 | h0
    · subst h0
      exact sufLt.asymm hp hp
    · exact sufLt.asymm hp (List.pairwise_iff_getElem.1 h.sorted i (i + k) hi (by omega) (by omega))
  have e : rs.countP (ltP l rs[i]) = (rs.take i ++ rs.drop i).countP (ltP l rs[i]) := congrArg (List.countP _) (List.take_append_drop i rs).symm
  rw [e, List.countP_append]
  omega
theorem take_countP {l rs : List Nat} (h : IsSuf l rs) (P : Nat → Bool) (hd : ∀ x y, sufLt l x y → P y = true → P x = true) (s : Nat) : ((lastL l rs).take (rs.countP P)).count s = (List.range l.length).countP (fun p => decide (prevL l p = s) && P p) := by
  rw [lastL, ← List.map_take, take_down h.sorted hd, ← h.count, List.count_eq_countP, List.countP_map, List.countP_filter]
  refine List.countP_congr fun p _ => ?_
  simp [Function.comp, and_comm]
/-- The row of the suffix one ahead: as many rows as begin with a lesser symbol, and as many with this one that stand ahead. -/
theorem lf {l rs : List Nat} {m : Nat} (h : IsSuf l rs) (he : EndOk l m) {i j p : Nat} (hi : i < rs.length) (hj : j < rs.length) (hip : rs[i] = p + 1) (hjp : rs[j] = p) : narL (lastL l rs) (l.getD p 0) i = j := by
  have hlen := he.len
  have hpm : p < m := by have := h.lt (List.getElem_mem hi); omega
  have hs := he.pos p hpm
  obtain ⟨s, hsd⟩ : ∃ s, l.getD p 0 = s := ⟨_, rfl⟩
  rw [hsd] at hs ⊢
  have ci := idx_count h i hi
  have cj := idx_count h j hj
  rw [hip] at ci
  rw [hjp] at cj
  have htk := take_countP h (ltP l (p + 1)) (fun x y hxy hy => by rw [ltP_iff] at hy ⊢; exact hxy.trans hy) s
  rw [ci] at htk
  rw [h.count] at cj
  unfold narL
  rw [htk]
  have e1 : (lastL l rs).countP (fun x => decide (x < s)) = (List.range (m + 1)).countP (fun p => decide (l.getD p 0 < s)) := by
    rw [lastL, List.countP_map, h.count, hlen]
    refine count_prev _ _ ?_ fun p hp => ?_
    · show decide (prevL l 0 < s) = _
      rw [prevL_zero (by omega), hlen, Nat.add_sub_cancel]
    · show decide (prevL l (p + 1) < s) = _
      rw [prevL_succ (by omega)]
  have e2 : (List.range l.length).countP (fun x => decide (prevL l x = s) && ltP l (p + 1) x) = (List.range (m + 1)).countP (fun x => decide (l.getD x 0 = s) && ltP l (p + 1) (x + 1)) := by
    rw [hlen]
    refine count_prev _ _ ?_ fun x hx => ?_
    · show (decide (prevL l 0 = s) && _) = (decide (l.getD m 0 = s) && _)
      rw [prevL_zero (by omega), hlen, Nat.add_sub_cancel, he.last]
      have : decide (0 = s) = false := by simp; omega
      rw [this]
      rfl
    · show (decide (prevL l (x + 1) = s) && _) = _
      rw [prevL_succ (by omega)]
  rw [e1, e2, ← countP_or, ← cj, hlen]
  · refine List.countP_congr fun x hx => ?_
    have hx' : x < m + 1 := by simpa using hx
    rw [ltP_iff, sufLt_step, aN_getD (by omega : x < l.length), aN_getD (by omega : p < l.length), hsd]
    simp only [Bool.or_eq_true, Bool.and_eq_true, decide_eq_true_eq, ltP_iff]
    constructor
    · rintro (h1 | ⟨h1, h2⟩)
      · exact .inl (by omega)
      · exact .inr ⟨by omega, h2⟩
    · rintro (h1 | ⟨h1, h2⟩)
      · exact .inl (by omega)
      · exact .inr ⟨by omega, h2⟩
  · intro x _
    simp only [Bool.and_eq_true, decide_eq_true_eq]
    rintro ⟨h1, h2, _⟩
    omega
theorem lastL_at {l rs : List Nat} {m : Nat} (he : EndOk l m) {i p : Nat} (hi : i < rs.length) (hip : rs[i] = p + 1) (hp : p < m) : (lastL l rs)[i]'(by rw [lastL_len]; exact hi) = l.getD p 0 := by
  have hlen := he.len
  unfold lastL
  rw [List.getElem_map, hip, prevL_succ (by omega)]
theorem IsSuf.row {l rs : List Nat} (h : IsSuf l rs) {p : Nat} (hp : p < l.length) : ∃ j, ∃ hj : j < rs.length, rs[j] = p := by
  obtain ⟨j, hj, e⟩ := List.mem_iff_getElem.1 (h.mem hp)
  exact ⟨j, hj, e⟩
/-- Where a symbol lies in its shelf. -/
theorem bits_at (L : List Nat) (k lv : Nat) (hk : k < L.length) : (bitsOf L lv (pathN L[k] lv))[atLv L k L[k] lv]? = some (bitB L[k] lv) := by
  unfold bitsOf atLv
  have e : L = L.take k ++ L[k] :: L.drop (k + 1) := by rw [← List.drop_eq_getElem_cons hk, List.take_append_drop]
  generalize hs : L[k] = s at e ⊢
  generalize L.take k = A at e ⊢
  rw [e, List.filter_append, List.filter_cons, if_pos (by simp), List.map_append, List.countP_eq_length_filter, List.getElem?_append_right (by simp)]
  simp
end Go.Proofs.YthkkcelfgcholaaGreat
