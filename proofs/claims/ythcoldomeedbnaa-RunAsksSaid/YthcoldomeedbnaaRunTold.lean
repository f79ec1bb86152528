/- The walks of scrimshawlaw18.told and of the law RunReads. No conditions. -/
import Derived.Test.YthcoldomeedbnaaRunGet
import Derived.Test.YthcoldomeedbnaaRunMath
import Derived.OpenShut
namespace Go.Proofs.Ythcoldomeedbnaa
open Go.RowKit
set_option linter.unusedVariables false
theorem RunPut_ok (A : Option Addr) (m c B : Nat) (l : List Int) (w : World) (bs : List UInt8) (n : Nat) (h : putRuns l = some bs) (hn : bs.length = n) (hr : Rd w B 1 A m (l.map iv)) (hB : B ≤ w.heap.size) (hm : m ≤ 1000000) :
    Calls Try.prog 36 #[.slice A m c] w fun e w' => ∃ A' c', e = .returned (.tuple #[.slice A' n c', .int .i64 0]) ∧ Made w' w.heap.size 5 1 A' n c' (bs.map bv) ∧ Below w.heap.size w w' := by
  subst hn
  refine (RunPut_any A m c B l w hr hB hm).mono fun e w' ⟨ht, hb⟩ => ?_
  rcases ht with ⟨bs', A', c', h1, h2, h3⟩ | ⟨h1, _⟩
  · rw [h] at h1
    injection h1 with h1
    subst h1
    exact ⟨A', c', h2, h3, hb⟩
  · rw [h] at h1; cases h1
theorem RunPut_bad (A : Option Addr) (m c B : Nat) (l : List Int) (w : World) (h : putRuns l = none) (hr : Rd w B 1 A m (l.map iv)) (hB : B ≤ w.heap.size) (hm : m ≤ 1000000) :
    Calls Try.prog 36 #[.slice A m c] w fun e w' => e = .returned (.tuple #[.slice none 0 0, .int .i64 1]) ∧ Below w.heap.size w w' := by
  refine (RunPut_any A m c B l w hr hB hm).mono fun e w' ⟨ht, hb⟩ => ?_
  rcases ht with ⟨bs', A', c', h1, h2, h3⟩ | ⟨_, h2⟩
  · rw [h] at h1; cases h1
  · exact ⟨h2, hb⟩
set_option maxRecDepth 100000 in
set_option maxHeartbeats 2000000 in
theorem told18_any (w : World) :
    Calls Try.prog 35 #[] w fun e w' => e = .returned (.bool true) ∧ Below w.heap.size w w' := by
  obtain ⟨i0, hi0, hz0, hz1, hz2⟩ := info_parts u8_info
  have hB0 := Below.refl w.heap.size w
  go_enter Try.func35, Try.ntmps35
  go_wp2_with fail
  refine (RunOf_is _ _ _ _ [5, 5, 6] _ [(5, 2), (6, 1)] 2 (by decide) rfl (Rd.made _ _ 1 3 _ rfl) (Nat.le_refl _) (by omega)).mono ?_
  rintro e w1 ⟨A1, c1, rfl, hm1, hb1⟩
  have hB1 := (hB0.alloc (Nat.le_refl _) _).trans (hb1.mono (by simp))
  have Hr1 := Lib.hid hm1.rd
  clear hb1 hm1 hB0
  go_wp2_with fail
  refine (RunPut_ok _ _ _ _ [5, 5, 6] _ [2, 5, 2, 6, 1] 5 (by decide +kernel) rfl (Rd.made _ _ 1 3 _ rfl) (Nat.le_refl _) (by omega)).mono ?_
  rintro e w2 ⟨A2, c2, rfl, hm2, hb2⟩
  have hB2 := (hB1.alloc hB1.size _).trans (hb2.mono (by have := hB1.size; simp; omega))
  have Hr1 := Lib.hid (((Hr1.out.alloc (Nat.le_refl _) _).mono (B' := _) (by simp)).below hb2 |>.mono hb2.size)
  have Hr2 := Lib.hid hm2.rd
  have hc2 := hm2.cap
  have hx2 := hm2.max
  clear hb2 hm2 hB1
  go_wp2_with fail
  refine (RunGet_is _ _ _ _ [2, 5, 2, 6, 1] 3 _ [5, 5, 6] 3 0 (by decide +kernel) rfl Hr2.out (Nat.le_refl _) hc2 hx2 (by omega) (by omega)).mono ?_
  rintro e w3 ⟨A3, c3, rfl, hm3, hb3⟩
  have hB3 := hB2.trans (hb3.mono hB2.size)
  have Hr1 := Lib.hid (Hr1.out.below hb3 |>.mono hb3.size)
  have Hr2 := Lib.hid (Hr2.out.below hb3 |>.mono hb3.size)
  clear hb3 hm3 hB2
  go_wp2_with fail
  refine (RunGet_is _ _ _ _ [2, 5, 2, 6, 1] 2 _ [] 0 3 (by decide +kernel) rfl Hr2.out (Nat.le_refl _) hc2 hx2 (by omega) (by omega)).mono ?_
  rintro e w4 ⟨A4, c4, rfl, hm4, hb4⟩
  have hB4 := hB3.trans (hb4.mono hB3.size)
  have Hr1 := Lib.hid (Hr1.out.below hb4 |>.mono hb4.size)
  have Hr2 := Lib.hid (Hr2.out.below hb4 |>.mono hb4.size)
  have hs4 := hB4.size
  clear hb4 hm4 hB3
  go_wp2_with (first
    | (at_builtin; refine wpList_append_rd _ rfl (.tmp 30) (.tmp 31) _ rfl w4.heap.size 5 i0 (.int .u8 0) 1 1 Try.underlying33 hi0 hz0 hz1 hz2 rfl (by decide) (.slice (some ⟨w4.heap.size, 0, none⟩) 0 0) 0 [] rfl (own_empty w4 5 1) w4.heap.size A2 5 c2 _ rfl (Hr2.out.alloc (Nat.le_refl _) _) (oneCell_bv _) (by unfold maxLen; omega) (by omega) (by simp) ?_; intro v5 w5 hown5 hg5 hat5; have hB5 := below_grown ((Below.refl w4.heap.size w4).alloc (Nat.le_refl _) _) (own_empty w4 5 1) hg5 (by simp); have hs5 := hB5.size)
    | (at_builtin; refine wpList_push _ rfl (.tmp 32) (.tmp 33) _ rfl w4.heap.size 5 i0 (.int .u8 0) 1 1 Try.underlying33 hi0 hz0 hz1 hz2 rfl (by decide) v5 5 _ rfl hown5 rfl rfl (by simp [Value.oneCell']) (by unfold maxLen; omega) (by omega) hs5 ?_; intro v6 w6 hown6 hg6 hs6 hat6; have hB6 := below_grown hB5 hown5 hg6 hs5; obtain ⟨A6, c6, rfl, hm6⟩ := made_of_own hown6; clear hg6 hg5 hat5 hat6 hown6 hown5 hB5))
  have hB7 := hB4.trans (hB6.mono hs4)
  have Hr1 := Lib.hid (Hr1.out.below hB6 |>.mono hB6.size)
  have hm6' : Made w6 w4.heap.size 5 1 A6 6 c6 (([2, 5, 2, 6, 1, 0] : List UInt8).map bv) := hm6
  have Hr6 := Lib.hid hm6'.rd
  have hc6 := hm6'.cap
  have hx6 := hm6'.max
  clear hm6 hm6' hB6 hB4
  refine (RunGet_is _ _ _ _ [2, 5, 2, 6, 1, 0] 9 _ [] 0 4 (by decide +kernel) rfl Hr6.out (Nat.le_refl _) hc6 hx6 (by omega) (by omega)).mono ?_
  rintro e w8 ⟨A8, c8, rfl, hm8, hb8⟩
  have hB8 := hB7.trans (hb8.mono hB7.size)
  have hs8 := hB8.size
  have Hr1 := Lib.hid (Hr1.out.below hb8 |>.mono hb8.size)
  clear hb8 hm8 hB7
  go_wp2_with fail
  refine (RunPut_bad _ _ _ _ [257] _ (by decide +kernel) (Rd.made _ _ 1 1 _ rfl) (Nat.le_refl _) (by omega)).mono ?_
  rintro e w9 ⟨rfl, hb9⟩
  have hB9 := (hB8.alloc hs8 _).trans (hb9.mono (by simp; omega))
  have Hr1 := Lib.hid (((Hr1.out.alloc (Nat.le_refl _) _).mono (B' := _) (by simp)).below hb9 |>.mono hb9.size)
  clear hb9 hB8
  obtain ⟨b1, o1, rfl, hl1, hcell1⟩ := Hr1.out.2 (by omega)
  have d0 : w9.cell? ⟨b1, o1, none⟩ = some (.int .i64 5) := hcell1 0 _ rfl
  have d1 : w9.cell? ⟨b1, o1 + 1, none⟩ = some (.int .i64 2) := hcell1 1 _ rfl
  have hs9 := hB9.size
  clear hcell1
  go_wp2_with fail
  refine (RunAll_is _ _ _ _ (castRuns [(5, 2), (6, 1)]) _ [5, 5, 6] 3 (by decide +kernel) rfl (by rw [run2Cells_cast]; exact Hr1.out) (Nat.le_refl _) (by omega)).mono ?_
  rintro e w10 ⟨A10, c10, rfl, hm10, hb10⟩
  have hB10 := hB9.trans (hb10.mono hs9)
  have hs10 := hB10.size
  clear hb10 hm10 hB9
  go_wp2_with fail
  refine (RunAll_is _ _ _ _ [(1, -4)] _ [] 0 (by decide +kernel) rfl (Rd.made _ _ 2 1 _ rfl) (Nat.le_refl _) (by omega)).mono ?_
  rintro e w11 ⟨A11, c11, rfl, hm11, hb11⟩
  have hB11 := (hB10.alloc hs10 _).trans (hb11.mono (by simp; omega))
  clear hb11 hm11 hB10
  go_wp2_with fail
  go_ret
  exact ⟨rfl, hB11⟩
end Go.Proofs.Ythcoldomeedbnaa
