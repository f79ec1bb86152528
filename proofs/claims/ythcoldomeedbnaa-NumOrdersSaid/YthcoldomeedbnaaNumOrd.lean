/- The walk of the law NumOrders. No conditions. -/
import Derived.Test.YthcoldomeedbnaaNumLaws
import Derived.Test.YthcoldomeedbnaaNumMath
import Derived.OpenShut
namespace Go.Proofs.Ythcoldomeedbnaa
open Go.RowKit
set_option linter.unusedVariables false
set_option maxRecDepth 100000 in
theorem walkNumOrders (w : World) (a : Int) (ha : (Lit.int .u64 a).wf = true) (c : Int) (hc : (Lit.int .u64 c).wf = true) :
    Calls Try.prog 9 #[.int .u64 a, .int .u64 c] w fun e w' => e = .returned (.bool true) ∧ Below w.heap.size w w' := by
  have hb0 := Below.refl w.heap.size w
  have hba := bounds_u64 ha
  have hbc := bounds_u64 hc
  obtain ⟨x, rfl⟩ := Int.eq_ofNat_of_zero_le hba.1
  obtain ⟨y, rfl⟩ := Int.eq_ofNat_of_zero_le hbc.1
  have Hx := Lib.hid (show x < 18446744073709551616 by omega)
  have Hy := Lib.hid (show y < 18446744073709551616 by omega)
  clear ha hc hba hbc
  have hx10 := encB_len10 x Hx.out
  have hx0 := encB_pos x
  have hsh := encB_shorter x y Hx.out Hy.out
  have hls := encB_less x y Hx.out Hy.out
  generalize hbx : encB x = bx at *
  generalize hby : encB y = by_ at *
  have Hbx := Lib.hid hbx
  have Hby := Lib.hid hby
  clear hbx hby
  have step : ∀ (n1 n2 : Nat), bx.length = n1 → by_.length = n2 → Calls Try.prog 9 #[.int .u64 (x : Int), .int .u64 (y : Int)] w fun e w' => e = .returned (.bool true) ∧ Below w.heap.size w w' := by
    intro n1 n2 h1 h2
    rw [h1, h2] at hsh hls
    rw [h1] at hx10 hx0
    have Hn1 := Lib.hid h1
    have Hn2 := Lib.hid h2
    have Hls := Lib.hid hls
    clear h1 h2 hls
    by_cases hl : n1 = n2
    · subst hl
      clear hsh
      go_enter Try.func9, Try.ntmps9
      go_wp2_with fail
      refine (Put_is _ _ _ _ [x] _ bx n1 ((encAll_one x).trans Hbx.out) Hn1.out (Rd.made _ _ 1 1 _ rfl) (Nat.le_refl _) (by simp; exact Hx.out) (by omega)).mono ?_
      rintro e w1 ⟨A1, c1, rfl, hm1, hb1⟩
      have hB1 := (hb0.alloc (Nat.le_refl _) _).trans (hb1.mono (by simp))
      have Hr1 := Lib.hid hm1.rd
      clear hb1 hb0 hm1
      go_wp2_with fail
      refine (Put_is _ _ _ _ [y] _ by_ n1 ((encAll_one y).trans Hby.out) Hn2.out (Rd.made _ _ 1 1 _ rfl) (Nat.le_refl _) (by simp; exact Hy.out) (by omega)).mono ?_
      rintro e w2 ⟨A2, c2, rfl, hm2, hb2⟩
      have hB2 := (hB1.alloc hB1.size _).trans (hb2.mono (by have := hB1.size; simp; omega))
      have Hr2 := Lib.hid hm2.rd
      have Hr12 := Lib.hid (((Hr1.out.alloc (Nat.le_refl _) _).mono (B' := _) (by simp)).below hb2 |>.mono hb2.size)
      clear hb2 hB1 hm2 Hr1
      go_wp2_with fail
      refine (told16_any _).mono ?_
      rintro e w3 ⟨rfl, hb3⟩
      have hB3 := hB2.trans (hb3.mono hB2.size)
      have hs1 := run_str_rd (P := Try.prog) 33 9 5 Try.underlying33 Try.underlying5 Try.underlying9 (c := c1) (Hr12.out.below hb3)
      have hs2 := run_str_rd (P := Try.prog) 33 9 5 Try.underlying33 Try.underlying5 Try.underlying9 (c := c2) (Hr2.out.below hb3)
      have hlt := Hls.out trivial
      clear hb3 hB2 Hr12 Hr2
      go_wp2_with fail
      all_goals (go_ret; exact ⟨ret_bool (by first | rfl | (simp; omega)), hB3⟩)
    · have hd1 : ((n1 : Int) == (n2 : Int)) = false := by simp; omega
      have hsh' := hsh hl
      have main : ∀ (b1 b2 : Bool), decide (n1 < n2) = b1 → decide (x < y) = b2 → b1 = b2 → Calls Try.prog 9 #[.int .u64 (x : Int), .int .u64 (y : Int)] w fun e w' => e = .returned (.bool true) ∧ Below w.heap.size w w' := by
        intro b1 b2 e1 e2 e3
        subst e3
        clear hsh' hsh hl
        go_enter Try.func9, Try.ntmps9
        go_wp2_with fail
        refine (Put_is _ _ _ _ [x] _ bx n1 ((encAll_one x).trans Hbx.out) Hn1.out (Rd.made _ _ 1 1 _ rfl) (Nat.le_refl _) (by simp; exact Hx.out) (by omega)).mono ?_
        rintro e w1 ⟨A1, c1, rfl, hm1, hb1⟩
        have hB1 := (hb0.alloc (Nat.le_refl _) _).trans (hb1.mono (by simp))
        clear hb1 hb0 hm1
        go_wp2_with fail
        refine (Put_is _ _ _ _ [y] _ by_ n2 ((encAll_one y).trans Hby.out) Hn2.out (Rd.made _ _ 1 1 _ rfl) (Nat.le_refl _) (by simp; exact Hy.out) (by omega)).mono ?_
        rintro e w2 ⟨A2, c2, rfl, hm2, hb2⟩
        have hB2 := (hB1.alloc hB1.size _).trans (hb2.mono (by have := hB1.size; simp; omega))
        clear hb2 hB1 hm2
        go_wp2_with fail
        refine (told16_any _).mono ?_
        rintro e w3 ⟨rfl, hb3⟩
        have hB3 := hB2.trans (hb3.mono hB2.size)
        clear hb3 hB2
        go_wp2_with fail
        all_goals (go_ret; exact ⟨ret_bool (by first | rfl | (simp; omega)), hB3⟩)
      refine main _ _ rfl rfl ?_
      rw [Bool.eq_iff_iff]
      simpa using hsh'
  exact step _ _ rfl rfl
end Go.Proofs.Ythcoldomeedbnaa
