/- The walks of the laws of chapter 16 that do without the document's answer. No conditions. -/
import Derived.Test.YthcoldomeedbnaaNumTold
namespace Go.Proofs.Ythcoldomeedbnaa
open Go.RowKit
set_option linter.unusedVariables false
theorem sizes_all : ∀ k : Fin 64, (encB (2 ^ k.val)).length = (k.val + 7) / 7 ∧ (encB (2 ^ k.val - 1)).length = max 1 ((k.val + 6) / 7) := by decide +kernel
theorem encAll_one (n : Nat) : encAll [n] = encB n := by simp [encAll]
theorem sizes_pow (k : Nat) (h : k < 64) : ∃ p q n1 n2 : Nat, IntKind.u64.wrap (2 ^ k) = (p : Int) ∧ (p : Int) - 1 = (q : Int) ∧ IntKind.u64.wrap (q : Int) = (q : Int) ∧ 1 ≤ p ∧ p < 18446744073709551616 ∧ (encB p).length = n1 ∧ (encB q).length = n2 ∧
    ((n1 : Int) == ((k : Int) + 7) / 7) = true ∧ ((n2 : Int) ≤ max 1 (((k : Int) + 6) / 7) ∧ max 1 (((k : Int) + 6) / 7) ≤ (n2 : Int)) ∧ n1 < 100 ∧ n2 < 100 := by
  have hs := sizes_all ⟨k, h⟩
  simp only at hs
  have hp : 2 ^ k < 18446744073709551616 := by
    have : 2 ^ k < 2 ^ 64 := Nat.pow_lt_pow_right (by omega) h
    omega
  have hpos : 0 < 2 ^ k := Nat.pow_pos (by omega)
  have hc : ((2 : Int) ^ k) = ((2 ^ k : Nat) : Int) := by push_cast; rfl
  refine ⟨2 ^ k, 2 ^ k - 1, _, _, ?_, ?_, ?_, hpos, hp, rfl, rfl, ?_, ?_, ?_, ?_⟩
  · rw [hc, IntKind.wrap_u64]; omega
  · omega
  · rw [IntKind.wrap_u64]; omega
  · rw [beq_iff_eq, hs.1]; omega
  · rw [hs.2]; omega
  · have := hs.1; omega
  · have := hs.2; omega
set_option maxRecDepth 100000 in
theorem walkNumSizes (w : World) (n : Int) (hn : (Lit.int .i64 n).wf = true) :
    Calls Try.prog 6 #[.int .i64 n] w fun e w' => e = .returned (.bool true) ∧ Below w.heap.size w w' := by
  have hb0 := Below.refl w.heap.size w
  obtain ⟨k, hk, hk64⟩ := umod_ex n 64 (by omega)
  obtain ⟨p, q, n1, n2, hp, hq, hwq, hp1, hp2, hn1, hn2, ht1, ⟨ht2, ht3⟩, hl1, hl2⟩ := sizes_pow k (by omega)
  have Hn1 := Lib.hid hn1
  have Hn2 := Lib.hid hn2
  have Hp2 := Lib.hid hp2
  clear hn hn1 hn2 hp2
  go_enter Try.func6, Try.ntmps6
  go_wp2_with fail
  refine (Put_is _ _ _ _ [p] _ _ n1 (encAll_one p) Hn1.out (Rd.made _ _ 1 1 _ rfl) (Nat.le_refl _) (by simp; exact Hp2.out) (by omega)).mono ?_
  rintro e w1 ⟨A1, c1, rfl, hm1, hb1⟩
  have hB1 := (hb0.alloc (Nat.le_refl _) _).trans (hb1.mono (by simp))
  clear hb1 hb0 hm1
  go_wp2_with fail
  refine (Put_is _ _ _ _ [q] _ _ n2 (encAll_one q) Hn2.out (Rd.made _ _ 1 1 _ rfl) (Nat.le_refl _) (by simp; have := Hp2.out; omega) (by omega)).mono ?_
  rintro e w2 ⟨A2, c2, rfl, hm2, hb2⟩
  have hB2 := (hB1.alloc hB1.size _).trans (hb2.mono (by have := hB1.size; simp; omega))
  clear hb2 hB1 hm2
  go_wp2_with fail
  all_goals
    refine (told16_any _).mono ?_
    rintro e w3 ⟨rfl, hb3⟩
    have hB3 := hB2.trans (hb3.mono hB2.size)
    clear hb3 hB2
    go_wp2_with fail
    refine (Put_is _ _ _ _ [0, 1, 127] _ [0, 1, 127] 3 (by decide) rfl (Rd.made _ _ 1 3 _ rfl) (Nat.le_refl _) (by simp) (by omega)).mono ?_
    rintro e w4 ⟨A4, c4, rfl, hm4, hb4⟩
    have hB4 := (hB3.alloc hB3.size _).trans (hb4.mono (by have := hB3.size; simp; omega))
    clear hb4 hB3 hm4
    go_wp2_with fail
    go_ret
    exact ⟨rfl, hB4⟩
end Go.Proofs.Ythcoldomeedbnaa
