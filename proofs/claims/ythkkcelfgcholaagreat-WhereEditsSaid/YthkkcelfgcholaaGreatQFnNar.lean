/- The walk of walk's Narrow. Conditions: a symbol (below 257); places in order. -/
import Derived.Test.YthkkcelfgcholaaGreatQFnWalk
namespace Go.Proofs.YthkkcelfgcholaaGreat
open Go.RowKit
set_option linter.unusedVariables false
set_option linter.unusedSimpArgs false
set_option maxRecDepth 100000 in
set_option maxHeartbeats 2000000 in
theorem WalkNarrow_any (B gk : Nat) (L : List Nat) (lo hi s : Nat) (w : World) (h : WalkAt w B gk L) (hs : s < 257) (h1 : lo ≤ hi) (h2 : hi ≤ L.length) (hL : ∀ x ∈ L, x < 257) (hl : L.length ≤ 1000) :
    Calls Tryz.prog 70 #[.pointer (some ⟨gk, 0, none⟩), .int .i64 (lo : Int), .int .i64 (hi : Int), .int .i64 (s : Int)] w fun e w' => e = .returned (.tuple #[.int .i64 ((narL L s lo : Nat) : Int), .int .i64 ((narL L s hi : Nat) : Int)]) ∧ VB B w w' := by
  obtain ⟨N, hN⟩ : ∃ N, L.length = N := ⟨_, rfl⟩
  obtain ⟨q, hq⟩ : ∃ q, L.countP (fun x => decide (x < s)) = q := ⟨_, rfl⟩
  obtain ⟨r1, hr1⟩ : ∃ q, (L.take lo).count s = q := ⟨_, rfl⟩
  obtain ⟨r2, hr2⟩ : ∃ q, (L.take hi).count s = q := ⟨_, rfl⟩
  have b0 : q ≤ 1000 := by rw [← hq]; exact Nat.le_trans List.countP_le_length hl
  have b1 : r1 ≤ 1000 := by rw [← hr1]; exact Nat.le_trans List.count_le_length (by rw [List.length_take]; omega)
  have b2 : r2 ≤ 1000 := by rw [← hr2]; exact Nat.le_trans List.count_le_length (by rw [List.length_take]; omega)
  unfold narL
  rw [hq, hr1, hr2]
  obtain ⟨gv, gt, k1, k2, k3⟩ := h
  have Hw : Hid (WalkAt w B gk L) := Lib.hid ⟨gv, gt, k1, k2, k3⟩
  have Hk := Lib.hid k1
  have Hwv := Lib.hid k2
  have hl2 : N ≤ 1000 := by omega
  have h3 : hi ≤ N := by omega
  have Hs := Lib.hid hs
  have HL := Lib.hid hL
  have Hl := Lib.hid hl
  have HN := Lib.hid hN
  have Hb := Lib.hid hq
  have HR1 := Lib.hid hr1
  have HR2 := Lib.hid hr2
  have m1 : max (lo : Int) 0 = (lo : Int) := by omega
  have m2 : min (lo : Int) (N : Int) = (lo : Int) := by omega
  have m3 : min (hi : Int) (N : Int) = (hi : Int) := by omega
  have m4 : max (hi : Int) (lo : Int) = (hi : Int) := by omega
  clear k1 k2 k3 hL hl hq hr1 hr2 h2
  go_enter Tryz.func70, Tryz.ntmps70
  go_wp2_with fail
  refine (SymIs_any s _ hs).mono ?_
  rintro e w1 ⟨rfl, hb1⟩
  have hv1 : VB B w w1 := VisK.of_below hb1
  have Hv1 := Lib.hid hv1
  clear hb1 hv1
  go_wp2_with fail
  refine (WalkLen_any B gk L _ (Hw.out.vis Hv1.out.1)).mono ?_
  rintro e w2 ⟨rfl, rfl⟩
  rw [HN.out]
  go_wp2_with fail
  refine (WalkLen_any B gk L _ (Hw.out.vis Hv1.out.1)).mono ?_
  rintro e w2 ⟨rfl, rfl⟩
  rw [HN.out]
  go_wp2_with fail
  have HV := Lib.hid Hv1.out
  clear Hv1 m1 m2 m3 m4 hN
  obtain ⟨w2, hw2⟩ : ∃ w2, w2 = w1 := ⟨_, rfl⟩
  subst hw2
  refine wp_region_any (by kernel_rfl) ?_
  refine wpAny_loose2 [28, 29, 30, 31, 32, 33, 34, 35, 36, 37, 38, 39, 40, 41, 42, 43, 44, 45, 46, 47, 48, 49, 8, 9] (VB B) (Vs [is (.pointer (some ⟨gk, 0, none⟩)), is (.int .i64 (s : Int)), is (.int .i64 (q : Int)), is (.pointer (some ⟨gk, 0, none⟩)), is (.pointer (some ⟨gk, 0, none⟩)), is (.pointer (some ⟨gk, 0, none⟩)), is (.pointer (some ⟨gv, 0, none⟩)), is (.int .i64 (lo : Int)), is (.int .i64 (s : Int)), is (.int .i64 (r1 : Int)), is (.int .i64 ((q + r1 : Nat) : Int)), is (.pointer (some ⟨gk, 0, none⟩)), is (.int .i64 (s : Int)), is (.int .i64 (q : Int)), is (.pointer (some ⟨gk, 0, none⟩)), is (.pointer (some ⟨gk, 0, none⟩)), is (.pointer (some ⟨gk, 0, none⟩)), is (.pointer (some ⟨gv, 0, none⟩)), is (.int .i64 (hi : Int)), is (.int .i64 (s : Int)), is (.int .i64 (r2 : Int)), is (.int .i64 ((q + r2 : Nat) : Int)), is (.int .i64 ((q + r1 : Nat) : Int)), is (.int .i64 ((q + r2 : Nat) : Int))]) _ _ rfl (by kernel_rfl) (VisK.refl _ _) (fun _ _ => VisK.trans) (stbs_all (by repeat' (first | exact stbs_is _ _ | exact stbs_any _ | (refine List.forall_mem_cons.2 ⟨?_, ?_⟩) | (intro p hp; cases hp)))) ?_ ?_
  · refine steps_of ?_
    refine steps_cons ?_ ?_
    · refine step_on rfl rfl ?_
      intro ev w5 hS hc hf hold hval a K ha hK
      have e0 : ev (.tmp 0) = .pointer (some ⟨gk, 0, none⟩) := hold 0 (by kernel_rfl)
      replace hS : (VB B) w2 w5 := ⟨⟨hS.1.os, hS.1.tape, hS.1.output, hS.1.size, hS.1.block⟩, ⟨hS.2.os, hS.2.tape, hS.2.output, hS.2.size, hS.2.block⟩⟩
      go_simp
      exact hK _ _ ((VisK.refl _ _)) rfl
    refine steps_cons ?_ ?_
    · refine step_on rfl rfl ?_
      intro ev w5 hS hc hf hold hval a K ha hK
      have e3 : ev (.tmp 3) = .int .i64 (s : Int) := hold 3 (by kernel_rfl)
      replace hS : (VB B) w2 w5 := ⟨⟨hS.1.os, hS.1.tape, hS.1.output, hS.1.size, hS.1.block⟩, ⟨hS.2.os, hS.2.tape, hS.2.output, hS.2.size, hS.2.block⟩⟩
      go_simp
      exact hK _ _ ((VisK.refl _ _)) rfl
    refine steps_cons ?_ ?_
    · refine step_on rfl rfl ?_
      intro ev w5 hS hc hf hold hval a K ha hK
      have e28 : ev (.tmp 28) = .pointer (some ⟨gk, 0, none⟩) := hval 0 28 (by kernel_rfl) rfl
      have e29 : ev (.tmp 29) = .int .i64 (s : Int) := hval 1 29 (by kernel_rfl) rfl
      replace hS : (VB B) w2 w5 := ⟨⟨hS.1.os, hS.1.tape, hS.1.output, hS.1.size, hS.1.block⟩, ⟨hS.2.os, hS.2.tape, hS.2.output, hS.2.size, hS.2.block⟩⟩
      go_simp
      refine (WalkBelow_any B gk L s w5 (Hw.out.vis (HV.out.trans hS).1) Hs.out Hl.out).mono ?_
      rintro e w8 ⟨rfl, hb8⟩
      rw [Hb.out]
      exact hK _ _ (VisK.of_below hb8) rfl
    refine steps_cons ?_ ?_
    · refine step_on rfl rfl ?_
      intro ev w5 hS hc hf hold hval a K ha hK
      have e0 : ev (.tmp 0) = .pointer (some ⟨gk, 0, none⟩) := hold 0 (by kernel_rfl)
      replace hS : (VB B) w2 w5 := ⟨⟨hS.1.os, hS.1.tape, hS.1.output, hS.1.size, hS.1.block⟩, ⟨hS.2.os, hS.2.tape, hS.2.output, hS.2.size, hS.2.block⟩⟩
      go_simp
      exact hK _ _ ((VisK.refl _ _)) rfl
    refine steps_cons ?_ ?_
    · refine step_on rfl rfl ?_
      intro ev w5 hS hc hf hold hval a K ha hK
      have e31 : ev (.tmp 31) = .pointer (some ⟨gk, 0, none⟩) := hval 3 31 (by kernel_rfl) rfl
      replace hS : (VB B) w2 w5 := ⟨⟨hS.1.os, hS.1.tape, hS.1.output, hS.1.size, hS.1.block⟩, ⟨hS.2.os, hS.2.tape, hS.2.output, hS.2.size, hS.2.block⟩⟩
      have hk5 := (HV.out.trans hS).1.bk Hk.out (by decide) (by decide)
      have c0 := hk5.cell 0
      have c1 := hk5.cell 1
      go_simp
      exact hK _ _ ((VisK.refl _ _)) rfl
    refine steps_cons ?_ ?_
    · refine step_on rfl rfl ?_
      intro ev w5 hS hc hf hold hval a K ha hK
      have e32 : ev (.tmp 32) = .pointer (some ⟨gk, 0, none⟩) := hval 4 32 (by kernel_rfl) rfl
      replace hS : (VB B) w2 w5 := ⟨⟨hS.1.os, hS.1.tape, hS.1.output, hS.1.size, hS.1.block⟩, ⟨hS.2.os, hS.2.tape, hS.2.output, hS.2.size, hS.2.block⟩⟩
      have hk5 := (HV.out.trans hS).1.bk Hk.out (by decide) (by decide)
      have c0 := hk5.cell 0
      have c1 := hk5.cell 1
      go_simp
      exact hK _ _ ((VisK.refl _ _)) rfl
    refine steps_cons ?_ ?_
    · refine step_on rfl rfl ?_
      intro ev w5 hS hc hf hold hval a K ha hK
      have e33 : ev (.tmp 33) = .pointer (some ⟨gk, 0, none⟩) := hval 5 33 (by kernel_rfl) rfl
      replace hS : (VB B) w2 w5 := ⟨⟨hS.1.os, hS.1.tape, hS.1.output, hS.1.size, hS.1.block⟩, ⟨hS.2.os, hS.2.tape, hS.2.output, hS.2.size, hS.2.block⟩⟩
      have hk5 := (HV.out.trans hS).1.bk Hk.out (by decide) (by decide)
      have c0 := hk5.cell 0
      have c1 := hk5.cell 1
      go_simp
      exact hK _ _ ((VisK.refl _ _)) rfl
    refine steps_cons ?_ ?_
    · refine step_on rfl rfl ?_
      intro ev w5 hS hc hf hold hval a K ha hK
      have e1 : ev (.tmp 1) = .int .i64 (lo : Int) := hold 1 (by kernel_rfl)
      replace hS : (VB B) w2 w5 := ⟨⟨hS.1.os, hS.1.tape, hS.1.output, hS.1.size, hS.1.block⟩, ⟨hS.2.os, hS.2.tape, hS.2.output, hS.2.size, hS.2.block⟩⟩
      go_simp
      exact hK _ _ ((VisK.refl _ _)) rfl
    refine steps_cons ?_ ?_
    · refine step_on rfl rfl ?_
      intro ev w5 hS hc hf hold hval a K ha hK
      have e3 : ev (.tmp 3) = .int .i64 (s : Int) := hold 3 (by kernel_rfl)
      replace hS : (VB B) w2 w5 := ⟨⟨hS.1.os, hS.1.tape, hS.1.output, hS.1.size, hS.1.block⟩, ⟨hS.2.os, hS.2.tape, hS.2.output, hS.2.size, hS.2.block⟩⟩
      go_simp
      exact hK _ _ ((VisK.refl _ _)) rfl
    refine steps_cons ?_ ?_
    · refine step_on rfl rfl ?_
      intro ev w5 hS hc hf hold hval a K ha hK
      have e34 : ev (.tmp 34) = .pointer (some ⟨gv, 0, none⟩) := hval 6 34 (by kernel_rfl) rfl
      have e35 : ev (.tmp 35) = .int .i64 (lo : Int) := hval 7 35 (by kernel_rfl) rfl
      have e36 : ev (.tmp 36) = .int .i64 (s : Int) := hval 8 36 (by kernel_rfl) rfl
      replace hS : (VB B) w2 w5 := ⟨⟨hS.1.os, hS.1.tape, hS.1.output, hS.1.size, hS.1.block⟩, ⟨hS.2.os, hS.2.tape, hS.2.output, hS.2.size, hS.2.block⟩⟩
      go_simp
      refine (WaveRank_any B gv L lo s w5 (Hwv.out.vis (HV.out.trans hS).1) Hs.out (by rw [HN.out]; omega) HL.out Hl.out).mono ?_
      rintro e w8 ⟨rfl, hv8⟩
      rw [HR1.out]
      exact hK _ _ hv8 rfl
    refine steps_cons ?_ ?_
    · refine step_on rfl rfl ?_
      intro ev w5 hS hc hf hold hval a K ha hK
      have e30 : ev (.tmp 30) = .int .i64 (q : Int) := hval 2 30 (by kernel_rfl) rfl
      have e37 : ev (.tmp 37) = .int .i64 (r1 : Int) := hval 9 37 (by kernel_rfl) rfl
      replace hS : (VB B) w2 w5 := ⟨⟨hS.1.os, hS.1.tape, hS.1.output, hS.1.size, hS.1.block⟩, ⟨hS.2.os, hS.2.tape, hS.2.output, hS.2.size, hS.2.block⟩⟩
      have h64 : IntKind.i64.wrap ((q : Int) + (r1 : Int)) = ((q + r1 : Nat) : Int) := by rw [IntKind.wrap_i64]; omega
      go_simp
      exact hK _ _ (VisK.refl _ _) (by first | rfl | exact h64 | simp [is])
    refine steps_cons ?_ ?_
    · refine step_on rfl rfl ?_
      intro ev w5 hS hc hf hold hval a K ha hK
      have e0 : ev (.tmp 0) = .pointer (some ⟨gk, 0, none⟩) := hold 0 (by kernel_rfl)
      replace hS : (VB B) w2 w5 := ⟨⟨hS.1.os, hS.1.tape, hS.1.output, hS.1.size, hS.1.block⟩, ⟨hS.2.os, hS.2.tape, hS.2.output, hS.2.size, hS.2.block⟩⟩
      go_simp
      exact hK _ _ ((VisK.refl _ _)) rfl
    refine steps_cons ?_ ?_
    · refine step_on rfl rfl ?_
      intro ev w5 hS hc hf hold hval a K ha hK
      have e3 : ev (.tmp 3) = .int .i64 (s : Int) := hold 3 (by kernel_rfl)
      replace hS : (VB B) w2 w5 := ⟨⟨hS.1.os, hS.1.tape, hS.1.output, hS.1.size, hS.1.block⟩, ⟨hS.2.os, hS.2.tape, hS.2.output, hS.2.size, hS.2.block⟩⟩
      go_simp
      exact hK _ _ ((VisK.refl _ _)) rfl
    refine steps_cons ?_ ?_
    · refine step_on rfl rfl ?_
      intro ev w5 hS hc hf hold hval a K ha hK
      have e39 : ev (.tmp 39) = .pointer (some ⟨gk, 0, none⟩) := hval 11 39 (by kernel_rfl) rfl
      have e40 : ev (.tmp 40) = .int .i64 (s : Int) := hval 12 40 (by kernel_rfl) rfl
      replace hS : (VB B) w2 w5 := ⟨⟨hS.1.os, hS.1.tape, hS.1.output, hS.1.size, hS.1.block⟩, ⟨hS.2.os, hS.2.tape, hS.2.output, hS.2.size, hS.2.block⟩⟩
      go_simp
      refine (WalkBelow_any B gk L s w5 (Hw.out.vis (HV.out.trans hS).1) Hs.out Hl.out).mono ?_
      rintro e w8 ⟨rfl, hb8⟩
      rw [Hb.out]
      exact hK _ _ (VisK.of_below hb8) rfl
    refine steps_cons ?_ ?_
    · refine step_on rfl rfl ?_
      intro ev w5 hS hc hf hold hval a K ha hK
      have e0 : ev (.tmp 0) = .pointer (some ⟨gk, 0, none⟩) := hold 0 (by kernel_rfl)
      replace hS : (VB B) w2 w5 := ⟨⟨hS.1.os, hS.1.tape, hS.1.output, hS.1.size, hS.1.block⟩, ⟨hS.2.os, hS.2.tape, hS.2.output, hS.2.size, hS.2.block⟩⟩
      go_simp
      exact hK _ _ ((VisK.refl _ _)) rfl
    refine steps_cons ?_ ?_
    · refine step_on rfl rfl ?_
      intro ev w5 hS hc hf hold hval a K ha hK
      have e42 : ev (.tmp 42) = .pointer (some ⟨gk, 0, none⟩) := hval 14 42 (by kernel_rfl) rfl
      replace hS : (VB B) w2 w5 := ⟨⟨hS.1.os, hS.1.tape, hS.1.output, hS.1.size, hS.1.block⟩, ⟨hS.2.os, hS.2.tape, hS.2.output, hS.2.size, hS.2.block⟩⟩
      have hk5 := (HV.out.trans hS).1.bk Hk.out (by decide) (by decide)
      have c0 := hk5.cell 0
      have c1 := hk5.cell 1
      go_simp
      exact hK _ _ ((VisK.refl _ _)) rfl
    refine steps_cons ?_ ?_
    · refine step_on rfl rfl ?_
      intro ev w5 hS hc hf hold hval a K ha hK
      have e43 : ev (.tmp 43) = .pointer (some ⟨gk, 0, none⟩) := hval 15 43 (by kernel_rfl) rfl
      replace hS : (VB B) w2 w5 := ⟨⟨hS.1.os, hS.1.tape, hS.1.output, hS.1.size, hS.1.block⟩, ⟨hS.2.os, hS.2.tape, hS.2.output, hS.2.size, hS.2.block⟩⟩
      have hk5 := (HV.out.trans hS).1.bk Hk.out (by decide) (by decide)
      have c0 := hk5.cell 0
      have c1 := hk5.cell 1
      go_simp
      exact hK _ _ ((VisK.refl _ _)) rfl
    refine steps_cons ?_ ?_
    · refine step_on rfl rfl ?_
      intro ev w5 hS hc hf hold hval a K ha hK
      have e44 : ev (.tmp 44) = .pointer (some ⟨gk, 0, none⟩) := hval 16 44 (by kernel_rfl) rfl
      replace hS : (VB B) w2 w5 := ⟨⟨hS.1.os, hS.1.tape, hS.1.output, hS.1.size, hS.1.block⟩, ⟨hS.2.os, hS.2.tape, hS.2.output, hS.2.size, hS.2.block⟩⟩
      have hk5 := (HV.out.trans hS).1.bk Hk.out (by decide) (by decide)
      have c0 := hk5.cell 0
      have c1 := hk5.cell 1
      go_simp
      exact hK _ _ ((VisK.refl _ _)) rfl
    refine steps_cons ?_ ?_
    · refine step_on rfl rfl ?_
      intro ev w5 hS hc hf hold hval a K ha hK
      have e2 : ev (.tmp 2) = .int .i64 (hi : Int) := hold 2 (by kernel_rfl)
      replace hS : (VB B) w2 w5 := ⟨⟨hS.1.os, hS.1.tape, hS.1.output, hS.1.size, hS.1.block⟩, ⟨hS.2.os, hS.2.tape, hS.2.output, hS.2.size, hS.2.block⟩⟩
      go_simp
      exact hK _ _ ((VisK.refl _ _)) rfl
    refine steps_cons ?_ ?_
    · refine step_on rfl rfl ?_
      intro ev w5 hS hc hf hold hval a K ha hK
      have e3 : ev (.tmp 3) = .int .i64 (s : Int) := hold 3 (by kernel_rfl)
      replace hS : (VB B) w2 w5 := ⟨⟨hS.1.os, hS.1.tape, hS.1.output, hS.1.size, hS.1.block⟩, ⟨hS.2.os, hS.2.tape, hS.2.output, hS.2.size, hS.2.block⟩⟩
      go_simp
      exact hK _ _ ((VisK.refl _ _)) rfl
    refine steps_cons ?_ ?_
    · refine step_on rfl rfl ?_
      intro ev w5 hS hc hf hold hval a K ha hK
      have e45 : ev (.tmp 45) = .pointer (some ⟨gv, 0, none⟩) := hval 17 45 (by kernel_rfl) rfl
      have e46 : ev (.tmp 46) = .int .i64 (hi : Int) := hval 18 46 (by kernel_rfl) rfl
      have e47 : ev (.tmp 47) = .int .i64 (s : Int) := hval 19 47 (by kernel_rfl) rfl
      replace hS : (VB B) w2 w5 := ⟨⟨hS.1.os, hS.1.tape, hS.1.output, hS.1.size, hS.1.block⟩, ⟨hS.2.os, hS.2.tape, hS.2.output, hS.2.size, hS.2.block⟩⟩
      go_simp
      refine (WaveRank_any B gv L hi s w5 (Hwv.out.vis (HV.out.trans hS).1) Hs.out (by rw [HN.out]; omega) HL.out Hl.out).mono ?_
      rintro e w8 ⟨rfl, hv8⟩
      rw [HR2.out]
      exact hK _ _ hv8 rfl
    refine steps_cons ?_ ?_
    · refine step_on rfl rfl ?_
      intro ev w5 hS hc hf hold hval a K ha hK
      have e41 : ev (.tmp 41) = .int .i64 (q : Int) := hval 13 41 (by kernel_rfl) rfl
      have e48 : ev (.tmp 48) = .int .i64 (r2 : Int) := hval 20 48 (by kernel_rfl) rfl
      replace hS : (VB B) w2 w5 := ⟨⟨hS.1.os, hS.1.tape, hS.1.output, hS.1.size, hS.1.block⟩, ⟨hS.2.os, hS.2.tape, hS.2.output, hS.2.size, hS.2.block⟩⟩
      have h64 : IntKind.i64.wrap ((q : Int) + (r2 : Int)) = ((q + r2 : Nat) : Int) := by rw [IntKind.wrap_i64]; omega
      go_simp
      exact hK _ _ (VisK.refl _ _) (by first | rfl | exact h64 | simp [is])
    refine steps_cons ?_ ?_
    · refine step_on rfl rfl ?_
      intro ev w5 hS hc hf hold hval a K ha hK
      have e38 : ev (.tmp 38) = .int .i64 ((q + r1 : Nat) : Int) := hval 10 38 (by kernel_rfl) rfl
      replace hS : (VB B) w2 w5 := ⟨⟨hS.1.os, hS.1.tape, hS.1.output, hS.1.size, hS.1.block⟩, ⟨hS.2.os, hS.2.tape, hS.2.output, hS.2.size, hS.2.block⟩⟩
      go_simp
      exact hK _ _ ((VisK.refl _ _)) rfl
    refine steps_cons ?_ ?_
    · refine step_on rfl rfl ?_
      intro ev w5 hS hc hf hold hval a K ha hK
      have e49 : ev (.tmp 49) = .int .i64 ((q + r2 : Nat) : Int) := hval 21 49 (by kernel_rfl) rfl
      replace hS : (VB B) w2 w5 := ⟨⟨hS.1.os, hS.1.tape, hS.1.output, hS.1.size, hS.1.block⟩, ⟨hS.2.os, hS.2.tape, hS.2.output, hS.2.size, hS.2.block⟩⟩
      go_simp
      exact hK _ _ ((VisK.refl _ _)) rfl
    exact steps_nil
  · intro ev w6 hS hval
    replace hS : (VB B) w2 w6 := ⟨⟨hS.1.os, hS.1.tape, hS.1.output, hS.1.size, hS.1.block⟩, ⟨hS.2.os, hS.2.tape, hS.2.output, hS.2.size, hS.2.block⟩⟩
    have e8 : ev (.tmp 8) = .int .i64 ((q + r1 : Nat) : Int) := hval 22 8 rfl
    have e9 : ev (.tmp 9) = .int .i64 ((q + r2 : Nat) : Int) := hval 23 9 rfl
    simp only [putsOf, List.foldl_cons, List.foldl_nil, Act.put, List.setIfInBounds_toArray, List.set_cons_zero, List.set_cons_succ]
    rw [e8]
    rw [e9]
    clear hval
    go_wp2_with fail
    go_ret2
    exact ⟨rfl, HV.out.trans hS⟩
end Go.Proofs.YthkkcelfgcholaaGreat
