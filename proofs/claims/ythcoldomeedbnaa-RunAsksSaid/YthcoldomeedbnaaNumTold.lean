/- The walk of scrimshawlaw16.told: it returns true, and leaves all that was there as it was. No conditions. -/
import Derived.Test.YthcoldomeedbnaaNumFix
namespace Go.Proofs.Ythcoldomeedbnaa
open Go.RowKit
set_option maxRecDepth 100000 in
set_option maxHeartbeats 1000000 in
theorem told16_any (w : World) :
    Calls Try.prog 25 #[] w fun e w' => e = .returned (.bool true) ∧ Below w.heap.size w w' := by
  have hb0 := Below.refl w.heap.size w
  go_enter Try.func25, Try.ntmps25
  go_wp2_with fail
  refine (Put_is _ _ _ _ [128, 5] _ [129, 0, 5] 3 (by decide) rfl (Rd.made _ _ 1 2 _ rfl) (Nat.le_refl _) (by simp) (by omega)).mono ?_
  rintro e w1 ⟨A1, c1, rfl, hm1, hb1⟩
  have hB1 := (hb0.alloc (Nat.le_refl _) _).trans (hb1.mono (by simp))
  clear hb1 hb0
  have hcap1 := hm1.cap
  have hmax1 := hm1.max
  have Hr1 := Lib.hid hm1.rd
  clear hm1
  go_wp2_with fail
  refine (Get_is _ _ _ [129, 0, 5] _ _ _ 128 2 0 (by decide) Hr1.out hcap1 hmax1).mono ?_
  rintro e w2 ⟨rfl, rfl⟩
  go_wp2_with fail
  refine (Get_is _ _ _ [128, 1] _ _ _ 0 0 4 (by decide) (Rd.made _ _ 1 2 _ rfl) (by omega) (by decide)).mono ?_
  rintro e w3 ⟨rfl, rfl⟩
  go_wp2_with fail
  refine (Get_is _ _ _ [129, 0, 5] _ _ _ 0 9 2 (by decide) (Hr1.out.alloc (Nat.le_refl _) _) hcap1 hmax1).mono ?_
  rintro e w3 ⟨rfl, rfl⟩
  go_wp2_with fail
  refine (Fixed_is 16909060 _ [4, 3, 2, 1] (by decide)).mono ?_
  rintro e w4 ⟨A4, c4, rfl, hm4, hb4⟩
  have hB4 := (hB1.alloc hB1.size _).trans (hb4.mono (by have := hB1.size; simp; omega))
  have hr1 := ((Hr1.out.alloc (Nat.le_refl _) _).mono (B' := _) (by simp)).below hb4 |>.mono hb4.size
  have Hr4 := Lib.hid hm4.rd
  have Hr14 := Lib.hid hr1
  clear hb4 hm4 hr1 hB1
  go_wp2_with fail
  refine (Of_is _ _ _ [4, 3, 2, 1] _ _ _ 16909060 0 (by decide) Hr4.out (by decide)).mono ?_
  rintro e w5 ⟨rfl, rfl⟩
  go_wp2_with fail
  refine (Of_is _ _ _ [129, 0, 5] _ _ _ 0 4 (by decide) Hr14.out (by decide)).mono ?_
  rintro e w5 ⟨rfl, rfl⟩
  go_wp2_with fail
  refine (Fixed_is 1 _ [1, 0, 0, 0] (by decide)).mono ?_
  rintro e w5 ⟨A5, c5, rfl, hm5, hb5⟩
  have hB5 := hB4.trans (hb5.mono hB4.size)
  obtain ⟨b1, o1, rfl, hl1, hcell1⟩ := Hr14.out.2 (by omega)
  obtain ⟨b5, o5, rfl, hl5, hcell5⟩ := hm5.rd.2 (by omega)
  have d0 : w5.cell? ⟨b1, o1, none⟩ = some (.int .u8 129) := (hb5.cell (by simp at hl1 ⊢; omega)).trans (hcell1 0 _ rfl)
  have d1 : w5.cell? ⟨b1, o1 + 1, none⟩ = some (.int .u8 0) := (hb5.cell (by simp at hl1 ⊢; omega)).trans (hcell1 1 _ rfl)
  have d5 : w5.cell? ⟨b5, o5, none⟩ = some (.int .u8 1) := hcell5 0 _ rfl
  clear hb5 hm5 hcell1 hcell5 Hr14 Hr4 Hr1 hB4
  go_wp2_with fail
  refine (Put_is _ _ _ 0 [] _ [] 0 rfl rfl (Rd.nil _ _ _ _) (Nat.zero_le _) (by simp) (by omega)).mono ?_
  rintro e w6 ⟨A6, c6, rfl, hm6, hb6⟩
  have hB6 := hB5.trans (hb6.mono hB5.size)
  clear hm6 hb6 hB5
  go_wp2_with fail
  go_ret
  exact ⟨rfl, hB6⟩
end Go.Proofs.Ythcoldomeedbnaa
