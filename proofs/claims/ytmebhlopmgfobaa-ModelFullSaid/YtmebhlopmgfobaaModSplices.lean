/- The walk of the law ModelSplices. No conditions. -/
import Derived.Test.YtmebhlopmgfobaaModSets
namespace Go.Proofs.Ytmebhlopmgfobaa
open Go.RowKit
set_option linter.unusedVariables false
set_option linter.unusedSimpArgs false
theorem do_ins (T D : List UInt8) (most : Int) (k : Nat) (h : k ≤ T.length) (hm : (T.length : Int) + (D.length : Int) ≤ most) : doM T most 1 k 0 D = (T.take k ++ (D ++ T.drop k), ⟨0, 0, [], []⟩) := by
  unfold doM
  rw [if_pos rfl, if_neg (by unfold hasB; rw [decide_eq_true (by omega)]; decide), if_neg (by omega)]
  simp
theorem do_take (T : List UInt8) (most : Int) (k n : Nat) (h : k + n ≤ T.length) : doM T most 5 k n [] = (T, ⟨0, 0, (T.drop k).take n, []⟩) := by
  unfold doM
  rw [if_neg (by decide), if_neg (by decide), if_pos rfl, if_neg (by unfold hasB; rw [decide_eq_true (by omega)]; decide)]
  simp
theorem do_len (T : List UInt8) (most : Int) : doM T most 4 0 0 [] = (T, ⟨0, (T.length : Int), [], []⟩) := by
  unfold doM
  rw [if_neg (by decide), if_neg (by decide), if_neg (by decide), if_neg (by decide), if_pos rfl]
theorem do_del (T : List UInt8) (most : Int) (k n : Nat) (h : k + n ≤ T.length) : doM T most 2 k n [] = (T.take k ++ T.drop (k + n), ⟨0, 0, [], []⟩) := by
  unfold doM
  rw [if_neg (by decide), if_pos rfl, if_neg (by unfold hasB; rw [decide_eq_true (by omega)]; decide)]
  simp
theorem ins_take (T D : List UInt8) (k : Nat) (h : k ≤ T.length) : ((T.take k ++ (D ++ T.drop k)).drop k).take D.length = D := by
  have e : (T.take k).length = k := by rw [List.length_take]; omega
  rw [List.drop_append_of_le_length (by omega), List.drop_of_length_le (by omega), List.nil_append, List.take_append_of_le_length (Nat.le_refl _), List.take_length]
theorem ins_del (T D : List UInt8) (k : Nat) (h : k ≤ T.length) : (T.take k ++ (D ++ T.drop k)).take k ++ (T.take k ++ (D ++ T.drop k)).drop (k + D.length) = T := by
  have e : (T.take k).length = k := by rw [List.length_take]; omega
  rw [List.take_append_of_le_length (by omega), List.take_of_length_le (by omega), List.drop_append, List.drop_of_length_le (by omega), e, List.nil_append, Nat.add_sub_cancel_left, List.drop_append, List.drop_of_length_le (Nat.le_refl _), Nat.sub_self, List.drop_zero, List.nil_append, List.take_append_drop]
set_option maxRecDepth 100000 in
set_option maxHeartbeats 4000000 in
theorem walkModelSplices (w : World) (A0 : Option Addr) (m0 c0 : Nat) (t : List UInt8) (hr0 : Rd w w.heap.size 1 A0 m0 (t.map bv)) (hmc0 : m0 ≤ c0) (hcl0 : c0 ≤ maxLen) (at_ : Int) (ha : (Lit.int .i64 at_).wf = true)
    (A2 : Option Addr) (m2 c2 : Nat) (d : List UInt8) (hr2 : Rd w w.heap.size 1 A2 m2 (d.map bv)) (hmc2 : m2 ≤ c2) (hcl2 : c2 ≤ maxLen) :
    Calls Try.prog 5 #[.slice A0 m0 c0, .int .i64 at_, .slice A2 m2 c2] w fun e w' => e = .returned (.bool true) ∧ Below w.heap.size w w' := by
  have kf := run_code
  have l0 : t.length = m0 := by simpa using hr0.1
  have l2 : d.length = m2 := by simpa using hr2.1
  have Hr0 := Lib.hid hr0
  have Hr2 := Lib.hid hr2
  have L0 := Lib.hid l0
  have L2 := Lib.hid l2
  clear hr0 hr2 l0 l2
  by_cases h0 : m0 > 60
  · have e0 : decide ((m0 : Int) > 60) = true := by simp; omega
    go_enter Try.func5, Try.ntmps5
    go_wp2_with fail
    refine (told20_any _).mono ?_
    rintro e w1 ⟨rfl, hb1⟩
    go_wp2_with fail
    go_ret
    exact ⟨rfl, hb1⟩
  by_cases h2 : m2 > 20
  · have e0 : decide ((m0 : Int) > 60) = false := by simp; omega
    have e2 : decide ((m2 : Int) > 20) = true := by simp; omega
    go_enter Try.func5, Try.ntmps5
    go_wp2_with fail
    refine (told20_any _).mono ?_
    rintro e w1 ⟨rfl, hb1⟩
    go_wp2_with fail
    go_ret
    exact ⟨rfl, hb1⟩
  have e0 : decide ((m0 : Int) > 60) = false := by simp; omega
  have e2 : decide ((m2 : Int) > 20) = false := by simp; omega
  obtain ⟨k, hk, hkm⟩ := umod_ex at_ ((m0 : Int) + 1) (by omega)
  go_enter Try.func5, Try.ntmps5
  go_wp2_with fail
  refine (New_ok 100 _ (by omega) (by omega)).mono ?_
  intro e w1 hnew
  obtain ⟨g, gp, rfl, M1, hg1, hgp1⟩ := ms_new w w w1 100 (Below.refl _ _) hnew
  clear hnew
  have hgl := M1.pl.lt
  go_wp2_with fail
  refine (Do_ms M1 _ _ _ _ 1 0 0 t t [] [] 0 0 0 0 (do_first t 100 (by have := L0.out; omega)) rfl rfl (Hr0.out.below M1.low) M1.low.size (rd_apart Hr0.out M1.gp0) (by simp) (by omega) (by omega) (by omega) (by omega)).mono ?_
  rintro e w2 ⟨B1, d1, B2, d2, rfl, N2⟩
  have M2 := N2.ms
  go_wp2_with fail
  have l0 := L0.out
  have l2 := L2.out
  obtain ⟨q, hq⟩ : ∃ q, m0 + m2 = q := ⟨_, rfl⟩
  obtain ⟨T2, hT2⟩ : ∃ T2, t.take k ++ (d ++ t.drop k) = T2 := ⟨_, rfl⟩
  have hN : T2.length = q := by
    rw [← hT2]
    simp only [List.length_append, List.length_take, List.length_drop]
    omega
  have p1 : doM t 100 1 k 0 d = (T2, ⟨0, 0, [], []⟩) := by rw [do_ins t d 100 k (by omega) (by omega), hT2]
  have p2 : doM T2 100 5 k m2 [] = (T2, ⟨0, 0, d, []⟩) := by rw [do_take T2 100 k m2 (by omega), ← hT2, ← l2, ins_take t d k (by omega)]
  have p3 : doM T2 100 4 0 0 [] = (T2, ⟨0, (q : Int), [], []⟩) := by rw [do_len, hN]
  have p4 : doM T2 100 2 k m2 [] = (t, ⟨0, 0, [], []⟩) := by rw [do_del T2 100 k m2 (by omega), ← hT2, ← l2, ins_del t d k (by omega)]
  have P1 := Lib.hid p1
  have P2 := Lib.hid p2
  have P3 := Lib.hid p3
  have P4 := Lib.hid p4
  have HN := Lib.hid hN
  clear p1 p2 p3 p4 hN hT2 l0 l2
  have hk60 : k ≤ 60 := by omega
  refine (Do_ms M2 _ _ _ _ 1 k 0 d T2 [] [] 0 0 0 0 P1.out rfl rfl (Hr2.out.below M2.low) M2.low.size (rd_apart Hr2.out M2.gp0) (by have := L0.out; omega) (by omega) (by omega) (by omega) (by omega)).mono ?_
  rintro e w3 ⟨C1, e1, C2, e3, rfl, N3⟩
  have hs2 := N2.keep.size
  have hs3 := N3.keep.size
  go_wp2_with fail
  refine (Do_ms (N3.ms.alloc _) _ _ _ 0 5 k m2 [] T2 d [] 0 0 m2 0 P2.out L2.out rfl (Rd.nil _ _ _ _) (Nat.zero_le _) (fun h => absurd h (by omega)) (by have := HN.out; omega) (by omega) (by omega) (by omega) (by omega)).mono ?_
  rintro e w4 ⟨B1, f1, B2, f2, rfl, N4⟩
  have hs4 := N4.keep.size
  rw [World.size_alloc] at hs4
  have a4 := N4.bk (Bk.new w3 _ _) (by omega)
  have P4' := N4.data
  simp only [World.size_alloc, L2.out] at P4'
  go_wp2_with fail
  refine (Do_ms (N4.ms.alloc _) _ _ _ 0 4 0 0 [] T2 [] [] 0 q 0 0 P3.out rfl rfl (Rd.nil _ _ _ _) (Nat.zero_le _) (fun h => absurd h (by omega)) (by have := HN.out; omega) (by omega) (by omega) (by omega) (by omega)).mono ?_
  rintro e w5 ⟨D1, g1, D2, g2, rfl, N5⟩
  have hs5 := N5.keep.size
  rw [World.size_alloc] at hs5
  have a5 := N5.bk (a4.alloc _) (by omega)
  have b5 := N5.bk (Bk.new w4 _ _) (by omega)
  have P5 := (P4'.below ((Below.refl _ _).alloc (Nat.le_refl _) _)).keepF N5.keep (fun b hb => by have : b = gp := hb; omega)
  clear a4 P4'
  go_wp2_with fail
  refine (Do_ms (N5.ms.alloc _) _ _ _ 0 2 k m2 [] t [] [] 0 0 0 0 P4.out rfl rfl (Rd.nil _ _ _ _) (Nat.zero_le _) (fun h => absurd h (by omega)) (by have := HN.out; omega) (by omega) (by omega) (by omega) (by omega)).mono ?_
  rintro e w7 ⟨E1, h1, E2, h3, rfl, N7⟩
  have hs7 := N7.keep.size
  rw [World.size_alloc] at hs7
  have a7 := (N7.bk (a5.alloc _) (by omega)).alloc (.cells #[.int .i64 0, .int .i64 0, .slice E1 0 h1, .slice E2 0 h3] 29)
  have b7 := (N7.bk (b5.alloc _) (by omega)).alloc (.cells #[.int .i64 0, .int .i64 0, .slice E1 0 h1, .slice E2 0 h3] 29)
  have x7 := (N7.bk (Bk.new w5 _ _) (by omega)).alloc (.cells #[.int .i64 0, .int .i64 0, .slice E1 0 h1, .slice E2 0 h3] 29)
  have y7 := Bk.new w7 29 #[.int .i64 0, .int .i64 0, .slice E1 0 h1, .slice E2 0 h3]
  have P7 := ((P5.below ((Below.refl _ _).alloc (Nat.le_refl _) _)).keepF N7.keep (fun b hb => by have : b = gp := hb; omega)).below ((Below.refl _ _).alloc (Nat.le_refl _) (.cells #[.int .i64 0, .int .i64 0, .slice E1 0 h1, .slice E2 0 h3] 29))
  have M := N7.ms.alloc (.cells #[.int .i64 0, .int .i64 0, .slice E1 0 h1, .slice E2 0 h3] 29)
  clear a5 b5 P5 N2 N3 N4 N5 N7 M1 M2 P1 P2 P3 P4
  go_wp2_with fail
  obtain ⟨W, hW⟩ : ∃ W, w7.alloc (.cells #[.int .i64 0, .int .i64 0, .slice E1 0 h1, .slice E2 0 h3] 29) = W := ⟨_, rfl⟩
  rw [hW] at a7 b7 x7 y7 P7 M ⊢
  clear hW
  refine wp_region_any (by kernel_rfl) ?_
  refine wpAny_loose2 [69, 70, 71, 72, 73, 74, 75, 76, 77, 78, 79, 80, 81, 82, 83, 84, 85, 86, 87, 88, 89, 90, 91, 92, 93, 94, 95, 96, 97, 98, 99, 100, 101, 102, 103, 104, 105, 6] Grow (Vs [is (.bool true), is (.bool true), is (.pointer (some ⟨w3.heap.size, 0, none⟩)), is (.int .i64 0), is (.bool true), is (.bool true), is (.bool true), is (.pointer (some ⟨w4.heap.size, 2, none⟩)), is (.slice B1 m2 f1), is (.string ⟨d.toArray⟩), is (.slice A2 m2 c2), is (.string ⟨d.toArray⟩), is (.bool true), is (.bool true), is (.bool true), is (.pointer (some ⟨w5.heap.size, 1, none⟩)), is (.int .i64 (q : Int)), is (.slice A0 m0 c0), is (.int .i64 (m0 : Int)), is (.slice A2 m2 c2), is (.int .i64 (m2 : Int)), is (.int .i64 (q : Int)), is (.bool true), is (.bool true), is (.bool true), is (.pointer (some ⟨w7.heap.size, 0, none⟩)), is (.int .i64 0), is (.bool true), is (.bool true), is (.bool true), is (.pointer (some ⟨g, 0, none⟩)), row 1 m0 (t.map bv), is (.string ⟨t.toArray⟩), is (.slice A0 m0 c0), is (.string ⟨t.toArray⟩), is (.bool true), is (.bool true), is (.bool true)]) _ _ rfl (by kernel_rfl) (Below.refl _ _) (fun _ _ => Grow.trans) (stb_all (by repeat' (first | exact stb_is _ | exact stb_row _ _ _ | (refine List.forall_mem_cons.2 ⟨?_, ?_⟩) | (intro p hp; cases hp)))) ?_ ?_
  · refine steps_of ?_
    refine steps_cons ?_ ?_
    · refine step_on rfl rfl ?_
      intro ev w9 hS hc hf hold hval a K ha hK
      replace hS : Grow W w9 := ⟨hS.os, hS.tape, hS.output, hS.size, hS.block⟩
      go_simp
      refine (told20_any w9).mono ?_
      rintro e w8 ⟨rfl, hb8⟩
      exact hK _ _ hb8 rfl
    refine steps_cons ?_ ?_
    · refine step_on rfl rfl ?_
      intro ev w9 hS hc hf hold hval a K ha hK
      have e69 : ev (.tmp 69) = .bool true := hval 0 69 (by kernel_rfl) rfl
      replace hS : Grow W w9 := ⟨hS.os, hS.tape, hS.output, hS.size, hS.block⟩
      go_simp
      exact hK _ _ (Below.refl _ _) rfl
    refine steps_cons ?_ ?_
    · refine step_guard (d := 70) (b := true) rfl rfl rfl (by kernel_rfl) (fun _ _ _ h => h) ?_
      intro ev w9 hS hc hf hold hval a K ha hK
      have e10 : ev (.tmp 10) = .pointer (some ⟨w3.heap.size, 0, none⟩) := hold 10 (by kernel_rfl)
      replace hS : Grow W w9 := ⟨hS.os, hS.tape, hS.output, hS.size, hS.block⟩
      go_simp
      exact hK _ _ (Below.refl _ _) rfl
    refine steps_cons ?_ ?_
    · refine step_guard (d := 70) (b := true) rfl rfl rfl (by kernel_rfl) (fun _ _ _ h => h) ?_
      intro ev w9 hS hc hf hold hval a K ha hK
      have e71 : ev (.tmp 71) = .pointer (some ⟨w3.heap.size, 0, none⟩) := hval 2 71 (by kernel_rfl) rfl
      replace hS : Grow W w9 := ⟨hS.os, hS.tape, hS.output, hS.size, hS.block⟩
      have c72 : w9.cell? ⟨w3.heap.size, 0, none⟩ = some (.int .i64 0) := ((a7.below hS a7.lt).cell 0).trans rfl
      go_simp
      exact hK _ _ (Below.refl _ _) rfl
    refine steps_cons ?_ ?_
    · refine step_guard (d := 70) (b := true) rfl rfl rfl (by kernel_rfl) (fun _ _ _ h => h) ?_
      intro ev w9 hS hc hf hold hval a K ha hK
      have e72 : ev (.tmp 72) = .int .i64 0 := hval 3 72 (by kernel_rfl) rfl
      replace hS : Grow W w9 := ⟨hS.os, hS.tape, hS.output, hS.size, hS.block⟩
      go_simp
      exact hK _ _ (Below.refl _ _) rfl
    refine steps_cons ?_ ?_
    · refine step_on rfl rfl ?_
      intro ev w9 hS hc hf hold hval a K ha hK
      have e70 : ev (.tmp 70) = .bool true := hval 1 70 (by kernel_rfl) rfl
      have e73 : ev (.tmp 73) = .bool true := hval 4 73 (by kernel_rfl) rfl
      replace hS : Grow W w9 := ⟨hS.os, hS.tape, hS.output, hS.size, hS.block⟩
      go_simp
      exact hK _ _ (Below.refl _ _) rfl
    refine steps_cons ?_ ?_
    · refine step_on rfl rfl ?_
      intro ev w9 hS hc hf hold hval a K ha hK
      have e74 : ev (.tmp 74) = .bool true := hval 5 74 (by kernel_rfl) rfl
      replace hS : Grow W w9 := ⟨hS.os, hS.tape, hS.output, hS.size, hS.block⟩
      go_simp
      exact hK _ _ (Below.refl _ _) rfl
    refine steps_cons ?_ ?_
    · refine step_guard (d := 75) (b := true) rfl rfl rfl (by kernel_rfl) (fun _ _ _ h => h) ?_
      intro ev w9 hS hc hf hold hval a K ha hK
      have e11 : ev (.tmp 11) = .pointer (some ⟨w4.heap.size, 0, none⟩) := hold 11 (by kernel_rfl)
      replace hS : Grow W w9 := ⟨hS.os, hS.tape, hS.output, hS.size, hS.block⟩
      go_simp
      exact hK _ _ (Below.refl _ _) rfl
    refine steps_cons ?_ ?_
    · refine step_guard (d := 75) (b := true) rfl rfl rfl (by kernel_rfl) (fun _ _ _ h => h) ?_
      intro ev w9 hS hc hf hold hval a K ha hK
      have e76 : ev (.tmp 76) = .pointer (some ⟨w4.heap.size, 2, none⟩) := hval 7 76 (by kernel_rfl) rfl
      replace hS : Grow W w9 := ⟨hS.os, hS.tape, hS.output, hS.size, hS.block⟩
      have c77 : w9.cell? ⟨w4.heap.size, 2, none⟩ = some (.slice B1 m2 f1) := ((b7.below hS b7.lt).cell 2).trans rfl
      go_simp
      exact hK _ _ (Below.refl _ _) rfl
    refine steps_cons ?_ ?_
    · refine step_guard (d := 75) (b := true) rfl rfl rfl (by kernel_rfl) (fun _ _ _ h => h) ?_
      intro ev w9 hS hc hf hold hval a K ha hK
      have e77 : ev (.tmp 77) = .slice B1 m2 f1 := hval 8 77 (by kernel_rfl) rfl
      replace hS : Grow W w9 := ⟨hS.os, hS.tape, hS.output, hS.size, hS.block⟩
      have s78 := strOf (P7.rd.below hS)
      go_simp
      exact hK _ _ (Below.refl _ _) rfl
    refine steps_cons ?_ ?_
    · refine step_guard (d := 75) (b := true) rfl rfl rfl (by kernel_rfl) (fun _ _ _ h => h) ?_
      intro ev w9 hS hc hf hold hval a K ha hK
      have e2 : ev (.tmp 2) = .slice A2 m2 c2 := hold 2 (by kernel_rfl)
      replace hS : Grow W w9 := ⟨hS.os, hS.tape, hS.output, hS.size, hS.block⟩
      go_simp
      exact hK _ _ (Below.refl _ _) rfl
    refine steps_cons ?_ ?_
    · refine step_guard (d := 75) (b := true) rfl rfl rfl (by kernel_rfl) (fun _ _ _ h => h) ?_
      intro ev w9 hS hc hf hold hval a K ha hK
      have e79 : ev (.tmp 79) = .slice A2 m2 c2 := hval 10 79 (by kernel_rfl) rfl
      replace hS : Grow W w9 := ⟨hS.os, hS.tape, hS.output, hS.size, hS.block⟩
      have s80 := strOf ((Hr2.out.below M.low).below (Below.mono hS M.low.size))
      go_simp
      exact hK _ _ (Below.refl _ _) rfl
    refine steps_cons ?_ ?_
    · refine step_guard (d := 75) (b := true) rfl rfl rfl (by kernel_rfl) (fun _ _ _ h => h) ?_
      intro ev w9 hS hc hf hold hval a K ha hK
      have e78 : ev (.tmp 78) = .string ⟨d.toArray⟩ := hval 9 78 (by kernel_rfl) rfl
      have e80 : ev (.tmp 80) = .string ⟨d.toArray⟩ := hval 11 80 (by kernel_rfl) rfl
      replace hS : Grow W w9 := ⟨hS.os, hS.tape, hS.output, hS.size, hS.block⟩
      go_simp
      exact hK _ _ (Below.refl _ _) (bool_eq (by simp))
    refine steps_cons ?_ ?_
    · refine step_on rfl rfl ?_
      intro ev w9 hS hc hf hold hval a K ha hK
      have e75 : ev (.tmp 75) = .bool true := hval 6 75 (by kernel_rfl) rfl
      have e81 : ev (.tmp 81) = .bool true := hval 12 81 (by kernel_rfl) rfl
      replace hS : Grow W w9 := ⟨hS.os, hS.tape, hS.output, hS.size, hS.block⟩
      go_simp
      exact hK _ _ (Below.refl _ _) rfl
    refine steps_cons ?_ ?_
    · refine step_on rfl rfl ?_
      intro ev w9 hS hc hf hold hval a K ha hK
      have e82 : ev (.tmp 82) = .bool true := hval 13 82 (by kernel_rfl) rfl
      replace hS : Grow W w9 := ⟨hS.os, hS.tape, hS.output, hS.size, hS.block⟩
      go_simp
      exact hK _ _ (Below.refl _ _) rfl
    refine steps_cons ?_ ?_
    · refine step_guard (d := 83) (b := true) rfl rfl rfl (by kernel_rfl) (fun _ _ _ h => h) ?_
      intro ev w9 hS hc hf hold hval a K ha hK
      have e12 : ev (.tmp 12) = .pointer (some ⟨w5.heap.size, 0, none⟩) := hold 12 (by kernel_rfl)
      replace hS : Grow W w9 := ⟨hS.os, hS.tape, hS.output, hS.size, hS.block⟩
      go_simp
      exact hK _ _ (Below.refl _ _) rfl
    refine steps_cons ?_ ?_
    · refine step_guard (d := 83) (b := true) rfl rfl rfl (by kernel_rfl) (fun _ _ _ h => h) ?_
      intro ev w9 hS hc hf hold hval a K ha hK
      have e84 : ev (.tmp 84) = .pointer (some ⟨w5.heap.size, 1, none⟩) := hval 15 84 (by kernel_rfl) rfl
      replace hS : Grow W w9 := ⟨hS.os, hS.tape, hS.output, hS.size, hS.block⟩
      have c85 : w9.cell? ⟨w5.heap.size, 1, none⟩ = some (.int .i64 (q : Int)) := ((x7.below hS x7.lt).cell 1).trans rfl
      go_simp
      exact hK _ _ (Below.refl _ _) rfl
    refine steps_cons ?_ ?_
    · refine step_guard (d := 83) (b := true) rfl rfl rfl (by kernel_rfl) (fun _ _ _ h => h) ?_
      intro ev w9 hS hc hf hold hval a K ha hK
      have e0 : ev (.tmp 0) = .slice A0 m0 c0 := hold 0 (by kernel_rfl)
      replace hS : Grow W w9 := ⟨hS.os, hS.tape, hS.output, hS.size, hS.block⟩
      go_simp
      exact hK _ _ (Below.refl _ _) rfl
    refine steps_cons ?_ ?_
    · refine step_guard (d := 83) (b := true) rfl rfl rfl (by kernel_rfl) (fun _ _ _ h => h) ?_
      intro ev w9 hS hc hf hold hval a K ha hK
      have e86 : ev (.tmp 86) = .slice A0 m0 c0 := hval 17 86 (by kernel_rfl) rfl
      replace hS : Grow W w9 := ⟨hS.os, hS.tape, hS.output, hS.size, hS.block⟩
      go_simp
      exact hK _ _ (Below.refl _ _) rfl
    refine steps_cons ?_ ?_
    · refine step_guard (d := 83) (b := true) rfl rfl rfl (by kernel_rfl) (fun _ _ _ h => h) ?_
      intro ev w9 hS hc hf hold hval a K ha hK
      have e2 : ev (.tmp 2) = .slice A2 m2 c2 := hold 2 (by kernel_rfl)
      replace hS : Grow W w9 := ⟨hS.os, hS.tape, hS.output, hS.size, hS.block⟩
      go_simp
      exact hK _ _ (Below.refl _ _) rfl
    refine steps_cons ?_ ?_
    · refine step_guard (d := 83) (b := true) rfl rfl rfl (by kernel_rfl) (fun _ _ _ h => h) ?_
      intro ev w9 hS hc hf hold hval a K ha hK
      have e88 : ev (.tmp 88) = .slice A2 m2 c2 := hval 19 88 (by kernel_rfl) rfl
      replace hS : Grow W w9 := ⟨hS.os, hS.tape, hS.output, hS.size, hS.block⟩
      go_simp
      exact hK _ _ (Below.refl _ _) rfl
    refine steps_cons ?_ ?_
    · refine step_guard (d := 83) (b := true) rfl rfl rfl (by kernel_rfl) (fun _ _ _ h => h) ?_
      intro ev w9 hS hc hf hold hval a K ha hK
      have e87 : ev (.tmp 87) = .int .i64 (m0 : Int) := hval 18 87 (by kernel_rfl) rfl
      have e89 : ev (.tmp 89) = .int .i64 (m2 : Int) := hval 20 89 (by kernel_rfl) rfl
      replace hS : Grow W w9 := ⟨hS.os, hS.tape, hS.output, hS.size, hS.block⟩
      go_simp
      exact hK _ _ (Below.refl _ _) (i64_eq (by rw [IntKind.wrap_i64]; omega))
    refine steps_cons ?_ ?_
    · refine step_guard (d := 83) (b := true) rfl rfl rfl (by kernel_rfl) (fun _ _ _ h => h) ?_
      intro ev w9 hS hc hf hold hval a K ha hK
      have e85 : ev (.tmp 85) = .int .i64 (q : Int) := hval 16 85 (by kernel_rfl) rfl
      have e90 : ev (.tmp 90) = .int .i64 (q : Int) := hval 21 90 (by kernel_rfl) rfl
      replace hS : Grow W w9 := ⟨hS.os, hS.tape, hS.output, hS.size, hS.block⟩
      go_simp
      exact hK _ _ (Below.refl _ _) rfl
    refine steps_cons ?_ ?_
    · refine step_on rfl rfl ?_
      intro ev w9 hS hc hf hold hval a K ha hK
      have e83 : ev (.tmp 83) = .bool true := hval 14 83 (by kernel_rfl) rfl
      have e91 : ev (.tmp 91) = .bool true := hval 22 91 (by kernel_rfl) rfl
      replace hS : Grow W w9 := ⟨hS.os, hS.tape, hS.output, hS.size, hS.block⟩
      go_simp
      exact hK _ _ (Below.refl _ _) rfl
    refine steps_cons ?_ ?_
    · refine step_on rfl rfl ?_
      intro ev w9 hS hc hf hold hval a K ha hK
      have e92 : ev (.tmp 92) = .bool true := hval 23 92 (by kernel_rfl) rfl
      replace hS : Grow W w9 := ⟨hS.os, hS.tape, hS.output, hS.size, hS.block⟩
      go_simp
      exact hK _ _ (Below.refl _ _) rfl
    refine steps_cons ?_ ?_
    · refine step_guard (d := 93) (b := true) rfl rfl rfl (by kernel_rfl) (fun _ _ _ h => h) ?_
      intro ev w9 hS hc hf hold hval a K ha hK
      have e13 : ev (.tmp 13) = .pointer (some ⟨w7.heap.size, 0, none⟩) := hold 13 (by kernel_rfl)
      replace hS : Grow W w9 := ⟨hS.os, hS.tape, hS.output, hS.size, hS.block⟩
      go_simp
      exact hK _ _ (Below.refl _ _) rfl
    refine steps_cons ?_ ?_
    · refine step_guard (d := 93) (b := true) rfl rfl rfl (by kernel_rfl) (fun _ _ _ h => h) ?_
      intro ev w9 hS hc hf hold hval a K ha hK
      have e94 : ev (.tmp 94) = .pointer (some ⟨w7.heap.size, 0, none⟩) := hval 25 94 (by kernel_rfl) rfl
      replace hS : Grow W w9 := ⟨hS.os, hS.tape, hS.output, hS.size, hS.block⟩
      have c95 : w9.cell? ⟨w7.heap.size, 0, none⟩ = some (.int .i64 0) := ((y7.below hS y7.lt).cell 0).trans rfl
      go_simp
      exact hK _ _ (Below.refl _ _) rfl
    refine steps_cons ?_ ?_
    · refine step_guard (d := 93) (b := true) rfl rfl rfl (by kernel_rfl) (fun _ _ _ h => h) ?_
      intro ev w9 hS hc hf hold hval a K ha hK
      have e95 : ev (.tmp 95) = .int .i64 0 := hval 26 95 (by kernel_rfl) rfl
      replace hS : Grow W w9 := ⟨hS.os, hS.tape, hS.output, hS.size, hS.block⟩
      go_simp
      exact hK _ _ (Below.refl _ _) rfl
    refine steps_cons ?_ ?_
    · refine step_on rfl rfl ?_
      intro ev w9 hS hc hf hold hval a K ha hK
      have e93 : ev (.tmp 93) = .bool true := hval 24 93 (by kernel_rfl) rfl
      have e96 : ev (.tmp 96) = .bool true := hval 27 96 (by kernel_rfl) rfl
      replace hS : Grow W w9 := ⟨hS.os, hS.tape, hS.output, hS.size, hS.block⟩
      go_simp
      exact hK _ _ (Below.refl _ _) rfl
    refine steps_cons ?_ ?_
    · refine step_on rfl rfl ?_
      intro ev w9 hS hc hf hold hval a K ha hK
      have e97 : ev (.tmp 97) = .bool true := hval 28 97 (by kernel_rfl) rfl
      replace hS : Grow W w9 := ⟨hS.os, hS.tape, hS.output, hS.size, hS.block⟩
      go_simp
      exact hK _ _ (Below.refl _ _) rfl
    refine steps_cons ?_ ?_
    · refine step_guard (d := 98) (b := true) rfl rfl rfl (by kernel_rfl) (fun _ _ _ h => h) ?_
      intro ev w9 hS hc hf hold hval a K ha hK
      have e7 : ev (.tmp 7) = .pointer (some ⟨g, 0, none⟩) := hold 7 (by kernel_rfl)
      replace hS : Grow W w9 := ⟨hS.os, hS.tape, hS.output, hS.size, hS.block⟩
      go_simp
      exact hK _ _ (Below.refl _ _) rfl
    refine steps_cons ?_ ?_
    · refine step_guard (d := 98) (b := true) rfl rfl rfl (by kernel_rfl) (fun _ _ _ h => h) ?_
      intro ev w9 hS hc hf hold hval a K ha hK
      have e99 : ev (.tmp 99) = .pointer (some ⟨g, 0, none⟩) := hval 30 99 (by kernel_rfl) rfl
      replace hS : Grow W w9 := ⟨hS.os, hS.tape, hS.output, hS.size, hS.block⟩
      go_simp
      refine (Text_ms (M.grow hS) m0 L0.out (by have := L0.out; omega)).mono ?_
      rintro e w8 ⟨A9, c9, rfl, hm9, hb9⟩
      exact hK _ _ hb9 (rd_row hm9)
    refine steps_cons ?_ ?_
    · refine step_guard (d := 98) (b := true) rfl rfl rfl (by kernel_rfl) (fun _ _ _ h => h) ?_
      intro ev w9 hS hc hf hold hval a K ha hK
      obtain ⟨A100, c100, e100, hr100, hk100, hm100⟩ : row 1 m0 (t.map bv) (ev (.tmp 100)) w9 := hval 31 100 (by kernel_rfl) rfl
      replace hS : Grow W w9 := ⟨hS.os, hS.tape, hS.output, hS.size, hS.block⟩
      have s101 := strOf hr100
      go_simp
      exact hK _ _ (Below.refl _ _) rfl
    refine steps_cons ?_ ?_
    · refine step_guard (d := 98) (b := true) rfl rfl rfl (by kernel_rfl) (fun _ _ _ h => h) ?_
      intro ev w9 hS hc hf hold hval a K ha hK
      have e0 : ev (.tmp 0) = .slice A0 m0 c0 := hold 0 (by kernel_rfl)
      replace hS : Grow W w9 := ⟨hS.os, hS.tape, hS.output, hS.size, hS.block⟩
      go_simp
      exact hK _ _ (Below.refl _ _) rfl
    refine steps_cons ?_ ?_
    · refine step_guard (d := 98) (b := true) rfl rfl rfl (by kernel_rfl) (fun _ _ _ h => h) ?_
      intro ev w9 hS hc hf hold hval a K ha hK
      have e102 : ev (.tmp 102) = .slice A0 m0 c0 := hval 33 102 (by kernel_rfl) rfl
      replace hS : Grow W w9 := ⟨hS.os, hS.tape, hS.output, hS.size, hS.block⟩
      have s103 := strOf ((Hr0.out.below M.low).below (Below.mono hS M.low.size))
      go_simp
      exact hK _ _ (Below.refl _ _) rfl
    refine steps_cons ?_ ?_
    · refine step_guard (d := 98) (b := true) rfl rfl rfl (by kernel_rfl) (fun _ _ _ h => h) ?_
      intro ev w9 hS hc hf hold hval a K ha hK
      have e101 : ev (.tmp 101) = .string ⟨t.toArray⟩ := hval 32 101 (by kernel_rfl) rfl
      have e103 : ev (.tmp 103) = .string ⟨t.toArray⟩ := hval 34 103 (by kernel_rfl) rfl
      replace hS : Grow W w9 := ⟨hS.os, hS.tape, hS.output, hS.size, hS.block⟩
      go_simp
      exact hK _ _ (Below.refl _ _) (bool_eq (by simp))
    refine steps_cons ?_ ?_
    · refine step_on rfl rfl ?_
      intro ev w9 hS hc hf hold hval a K ha hK
      have e98 : ev (.tmp 98) = .bool true := hval 29 98 (by kernel_rfl) rfl
      have e104 : ev (.tmp 104) = .bool true := hval 35 104 (by kernel_rfl) rfl
      replace hS : Grow W w9 := ⟨hS.os, hS.tape, hS.output, hS.size, hS.block⟩
      go_simp
      exact hK _ _ (Below.refl _ _) rfl
    refine steps_cons ?_ ?_
    · refine step_on rfl rfl ?_
      intro ev w9 hS hc hf hold hval a K ha hK
      have e105 : ev (.tmp 105) = .bool true := hval 36 105 (by kernel_rfl) rfl
      replace hS : Grow W w9 := ⟨hS.os, hS.tape, hS.output, hS.size, hS.block⟩
      go_simp
      exact hK _ _ (Below.refl _ _) rfl
    exact steps_nil
  · intro ev w6 hS hval
    replace hS : Grow W w6 := ⟨hS.os, hS.tape, hS.output, hS.size, hS.block⟩
    have e6 : ev (.tmp 6) = .bool true := hval 37 6 rfl
    simp only [putsOf, List.foldl_cons, List.foldl_nil, Act.put, List.setIfInBounds_toArray, List.set_cons_zero, List.set_cons_succ]
    rw [e6]
    clear hval
    have hfin := ms_end M hS
    go_wp2
    go_ret
    exact ⟨rfl, hfin⟩
end Go.Proofs.Ytmebhlopmgfobaa
