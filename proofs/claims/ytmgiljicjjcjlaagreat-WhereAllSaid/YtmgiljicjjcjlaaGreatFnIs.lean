/- The array of the places already met, for WhereAll (plain Lean). No conditions. -/
import Derived.Test.YtmgiljicjjcjlaaGreatPkM
namespace Go.Proofs.YtmgiljicjjcjlaaGreat
open Go.RowKit
set_option linter.unusedVariables false
set_option linter.unusedSimpArgs false
/-- Has the place i a letter below b, or is it among the first j of L? -/
def isB (t : List UInt8) (b : Nat) (L : List Nat) (j i : Nat) : Bool := (match t[i]? with | some c => decide (c.toNat < b) | none => false) || decide (i ∈ L.take j)
def isV (t : List UInt8) (b : Nat) (L : List Nat) (j : Nat) : Array Value := ((List.range 60).map fun i => Value.bool (isB t b L j i)).toArray
theorem isB_iff (t : List UInt8) (b : Nat) (L : List Nat) (j i : Nat) : isB t b L j i = true ↔ (∃ c, t[i]? = some c ∧ c.toNat < b) ∨ i ∈ L.take j := by
  unfold isB
  rw [Bool.or_eq_true, decide_eq_true_eq]
  cases h : t[i]? with
  | none => simp
  | some c => simp
theorem isV_ext {t t' : List UInt8} {b b' j j' : Nat} {L L' : List Nat} (h : ∀ i, i < 60 → isB t b L j i = isB t' b' L' j' i) : isV t b L j = isV t' b' L' j' := by
  unfold isV
  congr 1
  refine List.map_congr_left fun i hi => ?_
  rw [h i (List.mem_range.1 hi)]
theorem isV_zero (t : List UInt8) : isV t 0 [] 0 = Array.replicate 60 (.bool false) := by
  apply Array.ext'
  unfold isV
  rw [Array.toList_replicate]
  refine List.ext_getElem? fun i => ?_
  rw [List.getElem?_map, List.getElem?_replicate]
  by_cases hi : i < 60
  · rw [if_pos hi, List.getElem?_range hi]
    have : isB t 0 [] 0 i = false := by
      rw [Bool.eq_false_iff, Ne, isB_iff]
      rintro (⟨c, _, h⟩ | h)
      · omega
      · simp at h
    simp [this]
  · rw [if_neg hi, List.getElem?_eq_none_iff.2 (by rw [List.length_range]; omega)]
    rfl
theorem isV_size (t : List UInt8) (b : Nat) (L : List Nat) (j : Nat) : (isV t b L j).size = 60 := by simp [isV]
theorem isV_get (t : List UInt8) (b : Nat) (L : List Nat) (j : Nat) {i : Nat} (hi : i < 60) : (isV t b L j)[i]? = some (.bool (isB t b L j i)) := by
  unfold isV
  rw [List.getElem?_toArray, List.getElem?_map, List.getElem?_range hi]
  rfl
theorem isV_start (t : List UInt8) (b : Nat) (L L' : List Nat) : isV t b L 0 = isV t b L' 0 := isV_ext fun i _ => by unfold isB; simp
theorem isV_set {t : List UInt8} {b j a : Nat} {L : List Nat} (h : L[j]? = some a) : (isV t b L j).setIfInBounds a (.bool true) = isV t b L (j + 1) := by
  apply Array.ext_getElem?
  intro i
  rw [Array.getElem?_setIfInBounds]
  by_cases hi : i < 60
  · rw [isV_get t b L (j + 1) hi, isV_get t b L j hi, isV_size]
    have e : isB t b L (j + 1) i = (isB t b L j i || decide (a = i)) := by
      rw [Bool.eq_iff_iff, Bool.or_eq_true, isB_iff, isB_iff, List.take_add_one, h, decide_eq_true_eq, List.mem_append]
      simp only [Option.toList_some, List.mem_singleton]
      constructor
      · rintro (h1 | h1 | h1)
        · exact .inl (.inl h1)
        · exact .inl (.inr h1)
        · exact .inr h1.symm
      · rintro ((h1 | h1) | h1)
        · exact .inl h1
        · exact .inr (.inl h1)
        · exact .inr (.inr h1.symm)
    rw [e]
    by_cases ha : a = i
    · rw [if_pos ha, if_pos (by omega)]
      simp [ha]
    · rw [if_neg ha]
      simp [ha]
  · have h1 : (isV t b L j)[i]? = none := Array.getElem?_eq_none (by rw [isV_size]; omega)
    have h2 : (isV t b L (j + 1))[i]? = none := Array.getElem?_eq_none (by rw [isV_size]; omega)
    rw [h1, h2, isV_size]
    by_cases ha : a = i
    · rw [if_pos ha, if_neg (by omega)]
    · rw [if_neg ha]
/-- The places of one letter. -/
theorem one_at {t : List UInt8} {ch : UInt8} {i : Nat} : i ∈ placesT t [ch] ↔ t[i]? = some ch := by
  unfold placesT
  rw [List.mem_filter, List.mem_range, preQ_bytes]
  constructor
  · intro h
    exact h.2 0 ch rfl
  · intro h
    refine ⟨by have := (List.getElem?_eq_some_iff.1 h).1; omega, fun x c hc => ?_⟩
    cases x with
    | zero =>
      injection hc with hc
      subst hc
      exact h
    | succ x => simp at hc
theorem isV_next {t : List UInt8} {b : Nat} {ch : UInt8} (hc : ch.toNat = b) {n : Nat} (hn : (placesT t [ch]).length = n) : isV t b (placesT t [ch]) n = isV t (b + 1) [] 0 := isV_ext fun i _ => by
  rw [Bool.eq_iff_iff, isB_iff, isB_iff, List.take_of_length_le (by omega), one_at]
  constructor
  · rintro (⟨c, h1, h2⟩ | h1)
    · exact .inl ⟨c, h1, by omega⟩
    · exact .inl ⟨ch, h1, by omega⟩
  · rintro (⟨c, h1, h2⟩ | h1)
    · by_cases h3 : c.toNat < b
      · exact .inl ⟨c, h1, h3⟩
      · have : c = ch := UInt8.toNat_inj.1 (by omega)
        subst this
        exact .inr h1
    · simp at h1
/-- A place that is not met yet. -/
theorem isB_not {t : List UInt8} {b j a : Nat} {ch : UInt8} (hc : ch.toNat = b) (h : (placesT t [ch])[j]? = some a) : isB t b (placesT t [ch]) j a = false := by
  rw [Bool.eq_false_iff, Ne, isB_iff]
  have ha := one_at.1 (List.mem_of_getElem? h)
  rintro (⟨c, h1, h2⟩ | h1)
  · rw [ha] at h1
    injection h1 with h1
    subst h1
    omega
  · obtain ⟨x, hx⟩ := List.mem_iff_getElem?.1 h1
    rw [List.getElem?_take] at hx
    split at hx
    · next hxj =>
      have hp := places_rise t [ch]
      obtain ⟨j1, e1⟩ := List.getElem?_eq_some_iff.1 hx
      obtain ⟨j2, e2⟩ := List.getElem?_eq_some_iff.1 h
      have := List.pairwise_iff_getElem.1 hp x j j1 j2 hxj
      omega
    · cases hx
end Go.Proofs.YtmgiljicjjcjlaaGreat
