/- The walk of the law NumFixed. No conditions. -/
import Derived.Test.YthcoldomeedbnaaNumLaws
import Derived.Test.YthcoldomeedbnaaNumMath
import Derived.OpenShut
namespace Go.Proofs.Ythcoldomeedbnaa
open Go.RowKit
set_option linter.unusedVariables false
theorem fixB_len (n : Nat) : (fixB n).length = 4 := by simp [fixB, fixN]
theorem fixN_get (k n j : Nat) (h : j < k) : (fixN k n)[j]? = some (UInt8.ofNat (n / 256 ^ j % 256)) := by
  induction k with
  | zero => omega
  | succ k ih =>
    have hl : ∀ k, (fixN k n).length = k := fun k => by induction k with
      | zero => rfl
      | succ k ih => simp [fixN, ih]
    rw [fixN]
    by_cases hj : j = k
    · subst hj
      rw [List.getElem?_append_right (by rw [hl]; omega), hl]
      simp
    · rw [List.getElem?_append_left (by rw [hl]; omega), ih (by omega)]
theorem ofB_fix (a b : List UInt8) (n : Nat) (h : n < 4294967296) : ofB (a ++ (fixB n ++ b)) (a.length : Int) = (n, 0) := by
  have h4 := fixB_len n
  rw [ofB, if_neg (by simp; omega), if_neg (by simp; omega)]
  have hg : ∀ j, j < 4 → (a ++ (fixB n ++ b))[a.length + j]? = some (UInt8.ofNat (n / 256 ^ j % 256)) := fun j hj => by
    rw [List.getElem?_append_right (by omega), Nat.add_sub_cancel_left, List.getElem?_append_left (by omega)]
    exact fixN_get 4 n j hj
  simp only [ofN, Int.toNat_natCast]
  rw [hg 0 (by omega), hg 1 (by omega), hg 2 (by omega), hg 3 (by omega)]
  have e : ∀ m : Nat, (UInt8.ofNat (m % 256)).toNat = m % 256 := fun m => by simp [UInt8.toNat_ofNat']
  simp only [Option.getD_some, e]
  congr 1
  simp only [Nat.reducePow, Nat.div_one, Nat.mul_one]
  omega
set_option maxRecDepth 100000 in
set_option maxHeartbeats 1000000 in
theorem walkNumFixed (w : World) (n : Int) (hn : (Lit.int .u32 n).wf = true) (A0 : Option Addr) (m0 c0 : Nat) (a : List UInt8) (hr0 : Rd w w.heap.size 1 A0 m0 (a.map bv)) (hmc0 : m0 ≤ c0) (hcl0 : c0 ≤ maxLen)
    (A1 : Option Addr) (m1 c1 : Nat) (b : List UInt8) (hr1 : Rd w w.heap.size 1 A1 m1 (b.map bv)) (hmc1 : m1 ≤ c1) (hcl1 : c1 ≤ maxLen) :
    Calls Try.prog 10 #[.int .u32 n, .slice A0 m0 c0, .slice A1 m1 c1] w fun e w' => e = .returned (.bool true) ∧ Below w.heap.size w w' := by
  obtain ⟨i0, hi0, hz0, hz1, hz2⟩ := info_parts u8_info
  have hb0 := Below.refl w.heap.size w
  have hbn := bounds_u32 hn
  obtain ⟨x, rfl⟩ := Int.eq_ofNat_of_zero_le hbn.1
  have Hx := Lib.hid (show x < 4294967296 by omega)
  have hla : a.length = m0 := by simpa using hr0.1
  have hlb : b.length = m1 := by simpa using hr1.1
  have Hla := Lib.hid hla
  have Hlb := Lib.hid hlb
  have Hr0 := Lib.hid hr0
  have Hr1 := Lib.hid hr1
  clear hn hbn hla hlb hr0 hr1
  by_cases h9 : m0 ≤ 9 ∧ m1 ≤ 9
  · obtain ⟨h90, h91⟩ := h9
    go_enter Try.func10, Try.ntmps10
    go_wp2_with (at_builtin; refine wpList_append_rd _ rfl (.tmp 23) (.tmp 24) _ rfl w.heap.size 5 i0 (.int .u8 0) 1 1 Try.underlying33 hi0 hz0 hz1 hz2 rfl (by decide) (.slice (some ⟨w.heap.size, 0, none⟩) 0 0) 0 [] rfl (own_empty w 5 1) w.heap.size A0 m0 c0 (a.map bv) rfl (Hr0.out.alloc (Nat.le_refl _) _) (oneCell_bv a) (by unfold maxLen; omega) (by omega) (by simp) ?_; intro v1 w1 hown1 hg1 hat1)
    have hB1 := below_grown (hb0.alloc (Nat.le_refl _) _) (own_empty w 5 1) hg1 (by simp)
    clear hg1 hat1
    have hsz1 := hB1.size
    refine (Fixed_is x w1 (fixB x) rfl).mono ?_
    rintro e w2 ⟨A2, c2, rfl, hm2, hb2⟩
    have hB2 := hB1.trans (hb2.mono hB1.size)
    have hsz2 := hB2.size
    have Hr2 := Lib.hid hm2.rd
    have hown1' : w2.ownsRow w.heap.size 5 1 v1 (0 + m0) ([] ++ a.map bv) := own_below hown1 hb2
    clear hm2 hown1 hb2 hB1
    go_wp2_with (first
      | (at_builtin; refine wpList_append_rd _ rfl (.tmp 25) (.tmp 27) _ rfl w.heap.size 5 i0 (.int .u8 0) 1 1 Try.underlying33 hi0 hz0 hz1 hz2 rfl (by decide) v1 (0 + m0) ([] ++ a.map bv) rfl hown1' w2.heap.size A2 4 c2 ((fixB x).map bv) rfl Hr2.out (oneCell_bv _) (by unfold maxLen; omega) (by omega) hsz2 ?_; intro v3 w3 hown3 hg3 hat3; have hB3 := below_grown hB2 hown1' hg3 hsz2; have hsz3 := hB3.size)
      | (at_builtin; refine wpList_append_rd _ rfl (.tmp 28) (.tmp 29) _ rfl w.heap.size 5 i0 (.int .u8 0) 1 1 Try.underlying33 hi0 hz0 hz1 hz2 rfl (by decide) v3 (0 + m0 + 4) ([] ++ a.map bv ++ (fixB x).map bv) rfl hown3 w.heap.size A1 m1 c1 (b.map bv) rfl (Hr1.out.below hB3) (oneCell_bv b) (by unfold maxLen; omega) (by omega) hsz3 ?_; intro v4 w4 hown4 hg4 hat4; have hB4 := below_grown hB3 hown3 hg4 hsz3; obtain ⟨A4, c4, rfl, hm4⟩ := made_of_own hown4; clear hg3 hg4 hat3 hat4 hown4 hown3 hB3 hB2))
    have hm4' : Made w4 w.heap.size 5 1 A4 (m0 + 4 + m1) c4 ((a ++ (fixB x ++ b)).map bv) := by simpa [List.map_append] using hm4
    clear hm4
    have Hr4 := Lib.hid hm4'.rd
    have hl4 : (a ++ (fixB x ++ b)).length = m0 + 4 + m1 := by simpa using hm4'.rd.1
    have e1 : ofB (a ++ (fixB x ++ b)) (m0 : Int) = (x, 0) := by have := ofB_fix a b x Hx.out; rwa [Hla.out] at this
    obtain ⟨n4, hn4⟩ : ∃ n4, n4 = m0 + 4 + m1 := ⟨_, rfl⟩
    rw [← hn4] at hl4 Hr4 ⊢
    have e2 : ofB (a ++ (fixB x ++ b)) ((n4 : Int) - 3) = (0, 4) := by rw [ofB, if_neg (by rw [hl4]; omega), if_pos (by rw [hl4]; omega)]
    have e3 : ofB (a ++ (fixB x ++ b)) ((n4 : Int) + 1) = (0, 2) := by rw [ofB, if_pos (.inr (by rw [hl4]; omega))]
    have ht4 : ((n4 : Int) == (m0 : Int) + (m1 : Int) + 4) = true := by rw [beq_iff_eq]; omega
    have h4a : 4 ≤ n4 := by omega
    have h4b : n4 ≤ 22 := by omega
    have E1 := Lib.hid e1
    have E2 := Lib.hid e2
    have E3 := Lib.hid e3
    have hB4 : Below w.heap.size w w4 := by assumption
    clear hm4' hl4 e1 e2 e3 hn4
    refine (Of_is _ _ _ _ _ _ _ x 0 E1.out Hr4.out (by unfold maxLen; omega)).mono ?_
    rintro e w5 ⟨rfl, rfl⟩
    go_wp2_with fail
    refine (Of_is _ _ _ _ _ _ _ 0 4 E2.out Hr4.out (by unfold maxLen; omega)).mono ?_
    rintro e w5 ⟨rfl, rfl⟩
    go_wp2_with fail
    refine (Of_is _ _ _ _ _ _ _ 0 2 E3.out Hr4.out (by unfold maxLen; omega)).mono ?_
    rintro e w5 ⟨rfl, rfl⟩
    go_wp2_with fail
    refine (told16_any _).mono ?_
    rintro e w5 ⟨rfl, hb5⟩
    have hB5 := hB4.trans (hb5.mono hB4.size)
    clear hb5 hB4
    go_wp2_with fail
    all_goals (go_ret; exact ⟨rfl, hB5⟩)
  · have h9' : 9 < m0 ∨ (m0 ≤ 9 ∧ 9 < m1) := by omega
    rcases h9' with h | ⟨h, h'⟩
    all_goals
      go_enter Try.func10, Try.ntmps10
      go_wp2_with fail
      refine (told16_any _).mono ?_
      rintro e w5 ⟨rfl, hb5⟩
      go_wp2_with fail
      go_ret
      exact ⟨rfl, hb5⟩
end Go.Proofs.Ythcoldomeedbnaa
