/- The walk of the model's Do, where it only answers. Conditions: sizes of at most 2^39. -/
import Derived.Test.YtmebhlopmgfobaaModDo
namespace Go.Proofs.Ytmebhlopmgfobaa
open Go.RowKit
set_option linter.unusedVariables false
set_option linter.unusedSimpArgs false
set_option maxRecDepth 100000 in
set_option maxHeartbeats 4000000 in
theorem Do_take_ok (g gp : Nat) (AD : Option Addr) (nd cd B : Nat) (p k : Nat) (most : Int) (T D : List UInt8) (w : World) (hg : Bk w g 49 #[.pointer (some ⟨gp, 0, none⟩), .int .i64 most]) (hp : PlS w gp T)
    (hd : Rd w B 1 AD nd (D.map bv)) (hB : B ≤ w.heap.size) (hdne : 0 < nd → ∀ a, AD = some a → a.block ≠ gp) (hgne : g ≠ gp) (hT : T.length ≤ 549755813888) (hD : nd ≤ 549755813888) (hpb : -9223372036854775808 ≤ (p : Int) ∧ (p : Int) ≤ 9223372036854775807) (hkb : -9223372036854775808 ≤ (k : Int) ∧ (k : Int) ≤ 9223372036854775807) (hmb : 0 ≤ most ∧ most ≤ 2147483648)
    (hhas : hasB T.length p k = true) :
    Calls Try.prog 10 #[.pointer (some ⟨g, 0, none⟩), stepV 5 p k AD nd cd] w fun e w' => DoTold gp (T) ⟨0, 0, (T.drop p).take k, []⟩ w w' e := by
  have Hp := Lib.hid hp
  obtain ⟨A, c, hb, hr, hnc, hne⟩ := hp
  obtain ⟨n, hn⟩ : ∃ n, T.length = n := ⟨_, rfl⟩
  rw [hn] at hb hr hnc hT hne
  rw [hn] at hhas
  have hDl : D.length = nd := by simpa using hd.1
  have F := do_start (kind := 5) (p := p) (k := k) (cd := cd) hg hb hr hd hB hgne
  have HF := Lib.hid F
  have Hn := Lib.hid hn
  have Hne := Lib.hid hne
  have Hdne := Lib.hid hdne
  clear hb hr hd hg F hn hne hdne
  obtain ⟨q, hq⟩ : ∃ q, p + k = q := ⟨_, rfl⟩
  obtain ⟨X, hX⟩ : ∃ X, (T.drop p).take k = X := ⟨_, rfl⟩
  rw [hX]
  have hqn : q ≤ n := by
    unfold hasB at hhas
    have := of_decide_eq_true hhas
    omega
  have hXl : X.length = q - p := by
    rw [← hX]
    have := Hn.out
    simp only [List.length_take, List.length_drop]
    omega
  have hcut : ∀ w5 : World, Rd w5 w.heap.size 1 A n (T.map bv) → Rd w5 w.heap.size 1 (cutA A c p 1) (q - p) (X.map bv) := fun w5 hr5 => by
    have h1 := (hr5.cut (k := p) (cap := c) (by omega) hnc).cut_hi (k := q - p) (by omega)
    rw [Nat.mul_one, Nat.mul_one, ← List.map_drop, ← List.map_take, show q - p = k by omega, hX] at h1
    rw [show q - p = k by omega]
    exact h1
  have hcutr := run_cut_lohi (P := Try.prog) 22 5 1 Try.underlying22 size_u8 A n c p q (by omega) (by omega)
  have Hcut := Lib.hid hcut
  have HX := Lib.hid hXl
  clear hX hXl hcut
  unfold stepV
  go_enter Try.func10, Try.ntmps10
  go_wp2
  obtain ⟨W, hW⟩ : ∃ W, (w.alloc (.cells #[.int .i64 5, .int .i64 p, .int .i64 k, .slice AD nd cd] 32)).alloc (.cells #[.int .i64 0, .int .i64 0, .slice none 0 0, .slice none 0 0] 29) = W := ⟨_, rfl⟩
  rw [hW] at HF ⊢
  have F := HF.out
  clear hW HF
  refine wp_region_any (by kernel_rfl) ?_
  refine wpAny_loose2 [55, 56, 57, 58, 59, 60, 61, 62, 63, 64] Grow (Vs [is (.pointer (some ⟨g, 0, none⟩)), is (.pointer (some ⟨g, 0, none⟩)), is (.pointer (some ⟨g, 0, none⟩)), is (.pointer (some ⟨gp, 0, none⟩)), is (.pointer (some ⟨w.heap.size, 1, none⟩)), is (.int .i64 p), is (.pointer (some ⟨w.heap.size, 2, none⟩)), is (.int .i64 k), is (.bool true), is (.bool false)]) _ _ rfl (by kernel_rfl) (Below.refl _ _) (fun _ _ => Grow.trans) (stb_all (by repeat' (first | exact stb_is _ | exact stb_row _ _ _ | (refine List.forall_mem_cons.2 ⟨?_, ?_⟩) | (intro p hp; cases hp)))) ?_ ?_
  · refine steps_of ?_
    refine steps_cons ?_ ?_
    · refine step_on rfl rfl ?_
      intro ev w5 hS hc hf hold hval a K ha hK
      have e0 : ev (.tmp 0) = .pointer (some ⟨g, 0, none⟩) := hold 0 (by kernel_rfl)
      replace hS : Grow W w5 := ⟨hS.os, hS.tape, hS.output, hS.size, hS.block⟩
      go_simp
      exact hK _ _ (Below.refl _ _) rfl
    refine steps_cons ?_ ?_
    · refine step_on rfl rfl ?_
      intro ev w5 hS hc hf hold hval a K ha hK
      have e55 : ev (.tmp 55) = .pointer (some ⟨g, 0, none⟩) := hval 0 55 (by kernel_rfl) rfl
      replace hS : Grow W w5 := ⟨hS.os, hS.tape, hS.output, hS.size, hS.block⟩
      go_simp
      exact hK _ _ (Below.refl _ _) rfl
    refine steps_cons ?_ ?_
    · refine step_on rfl rfl ?_
      intro ev w5 hS hc hf hold hval a K ha hK
      have e56 : ev (.tmp 56) = .pointer (some ⟨g, 0, none⟩) := hval 1 56 (by kernel_rfl) rfl
      replace hS : Grow W w5 := ⟨hS.os, hS.tape, hS.output, hS.size, hS.block⟩
      go_simp
      exact hK _ _ (Below.refl _ _) rfl
    refine steps_cons ?_ ?_
    · refine step_on rfl rfl ?_
      intro ev w5 hS hc hf hold hval a K ha hK
      have e57 : ev (.tmp 57) = .pointer (some ⟨g, 0, none⟩) := hval 2 57 (by kernel_rfl) rfl
      replace hS : Grow W w5 := ⟨hS.os, hS.tape, hS.output, hS.size, hS.block⟩
      have c58 : w5.cell? ⟨g, 0, none⟩ = some (.pointer (some ⟨gp, 0, none⟩)) := ((F.mod.below hS F.mod.lt).cell 0).trans rfl
      go_simp
      exact hK _ _ (Below.refl _ _) rfl
    refine steps_cons ?_ ?_
    · refine step_on rfl rfl ?_
      intro ev w5 hS hc hf hold hval a K ha hK
      have e3 : ev (.tmp 3) = .pointer (some ⟨w.heap.size, 0, none⟩) := hold 3 (by kernel_rfl)
      replace hS : Grow W w5 := ⟨hS.os, hS.tape, hS.output, hS.size, hS.block⟩
      go_simp
      exact hK _ _ (Below.refl _ _) rfl
    refine steps_cons ?_ ?_
    · refine step_on rfl rfl ?_
      intro ev w5 hS hc hf hold hval a K ha hK
      have e59 : ev (.tmp 59) = .pointer (some ⟨w.heap.size, 1, none⟩) := hval 4 59 (by kernel_rfl) rfl
      replace hS : Grow W w5 := ⟨hS.os, hS.tape, hS.output, hS.size, hS.block⟩
      have c60 : w5.cell? ⟨w.heap.size, 1, none⟩ = some (.int .i64 p) := ((F.step.below hS F.step.lt).cell 1).trans rfl
      go_simp
      exact hK _ _ (Below.refl _ _) rfl
    refine steps_cons ?_ ?_
    · refine step_on rfl rfl ?_
      intro ev w5 hS hc hf hold hval a K ha hK
      have e3 : ev (.tmp 3) = .pointer (some ⟨w.heap.size, 0, none⟩) := hold 3 (by kernel_rfl)
      replace hS : Grow W w5 := ⟨hS.os, hS.tape, hS.output, hS.size, hS.block⟩
      go_simp
      exact hK _ _ (Below.refl _ _) rfl
    refine steps_cons ?_ ?_
    · refine step_on rfl rfl ?_
      intro ev w5 hS hc hf hold hval a K ha hK
      have e61 : ev (.tmp 61) = .pointer (some ⟨w.heap.size, 2, none⟩) := hval 6 61 (by kernel_rfl) rfl
      replace hS : Grow W w5 := ⟨hS.os, hS.tape, hS.output, hS.size, hS.block⟩
      have c62 : w5.cell? ⟨w.heap.size, 2, none⟩ = some (.int .i64 k) := ((F.step.below hS F.step.lt).cell 2).trans rfl
      go_simp
      exact hK _ _ (Below.refl _ _) rfl
    refine steps_cons ?_ ?_
    · refine step_on rfl rfl ?_
      intro ev w5 hS hc hf hold hval a K ha hK
      have e58 : ev (.tmp 58) = .pointer (some ⟨gp, 0, none⟩) := hval 3 58 (by kernel_rfl) rfl
      have e60 : ev (.tmp 60) = .int .i64 p := hval 5 60 (by kernel_rfl) rfl
      have e62 : ev (.tmp 62) = .int .i64 k := hval 7 62 (by kernel_rfl) rfl
      replace hS : Grow W w5 := ⟨hS.os, hS.tape, hS.output, hS.size, hS.block⟩
      go_simp
      refine (has_any gp A n c p (k) w5 (((F.pl.below hS F.pl.lt).cell 0).trans rfl) (by omega) hpb hkb).mono ?_
      rintro e w8 ⟨rfl, rfl⟩
      exact hK _ _ (Below.refl _ _) (bool_eq hhas)
    refine steps_cons ?_ ?_
    · refine step_on rfl rfl ?_
      intro ev w5 hS hc hf hold hval a K ha hK
      have e63 : ev (.tmp 63) = .bool true := hval 8 63 (by kernel_rfl) rfl
      replace hS : Grow W w5 := ⟨hS.os, hS.tape, hS.output, hS.size, hS.block⟩
      go_simp
      exact hK _ _ (Below.refl _ _) rfl
    exact steps_nil
  · intro ev w6 hS hval
    replace hS : Grow W w6 := ⟨hS.os, hS.tape, hS.output, hS.size, hS.block⟩
    have e64 : ev (.tmp 64) = .bool false := hval 9 64 rfl
    simp only [putsOf, List.foldl_cons, List.foldl_nil, Act.put, List.setIfInBounds_toArray, List.set_cons_zero, List.set_cons_succ]
    rw [e64]
    clear hval
    have F6 := F.grow hS
    clear F hS
    revert F6
    generalize w6 = W2
    intro F
    have c66 : W2.cell? ⟨w.heap.size, 0, none⟩ = some (.int .i64 5) := (F.step.cell 0).trans rfl
    go_wp2
    refine wp_region_any (by kernel_rfl) ?_
    refine wpAny_keep [69, 70, 71, 72, 73, 74, 75, 76, 77, 78, 79, 80, 81, 82, 83, 84, 85] (fun b => b = w.heap.size + 1) 17 [17] (fun w1 => Bk w1 (w.heap.size + 1) 29 #[.int .i64 0, .int .i64 0, .slice none 0 0, .slice none 0 0]) (ansW (w.heap.size + 1) (w.heap.size + 2) 0 X) [is (.pointer (some ⟨g, 0, none⟩)), is (.pointer (some ⟨g, 0, none⟩)), is (.pointer (some ⟨g, 0, none⟩)), is (.pointer (some ⟨gp, 0, none⟩)), is (.pointer (some ⟨gp, 0, none⟩)), is (.pointer (some ⟨gp, 0, none⟩)), is (.slice A n c), is (.pointer (some ⟨w.heap.size, 1, none⟩)), is (.int .i64 (p : Int)), is (.pointer (some ⟨w.heap.size, 1, none⟩)), is (.int .i64 (p : Int)), is (.pointer (some ⟨w.heap.size, 2, none⟩)), is (.int .i64 (k : Int)), is (.int .i64 (q : Int)), is (.slice (cutA A c p 1) (q - p) (c - p)), madeV (w.heap.size + 2) 5 1 X.length (X.map bv), ansV (w.heap.size + 2) 0 X, anyV] _ _ rfl (by kernel_rfl) (by kernel_rfl) (F.res) (fun w1 w2 h _ hg => Bk.below h hg h.lt) (ansW_stb _ _ _ _) (by repeat' (first | exact stbk_is _ _ | exact stbk_any _ | exact stbk_made (fun b hb => by subst hb; omega) _ _ _ _ | exact stbk_ans (fun b hb => by subst hb; omega) _ _ | (refine List.forall_mem_cons.2 ⟨?_, ?_⟩) | (intro p hp; cases hp))) ?_ ?_
    · refine steps_of ?_
      refine steps_cons ?_ ?_
      · refine step_on3 rfl rfl ?_
        intro ev w5 hS hU hc hf hold hval a K ha hK
        replace hS : Keep (fun b => b = w.heap.size + 1) W2 w5 := ⟨hS.os, hS.tape, hS.output, hS.size, hS.block⟩
        clear hU
        have e0 : ev (.tmp 0) = .pointer (some ⟨g, 0, none⟩) := hold 0 (by kernel_rfl)
        go_simp
        exact hK _ _ (kstep_grow (Below.refl _ _)) rfl
      refine steps_cons ?_ ?_
      · refine step_on3 rfl rfl ?_
        intro ev w5 hS hU hc hf hold hval a K ha hK
        replace hS : Keep (fun b => b = w.heap.size + 1) W2 w5 := ⟨hS.os, hS.tape, hS.output, hS.size, hS.block⟩
        clear hU
        have e69 : ev (.tmp 69) = .pointer (some ⟨g, 0, none⟩) := hval 0 69 (by kernel_rfl) rfl
        go_simp
        exact hK _ _ (kstep_grow (Below.refl _ _)) rfl
      refine steps_cons ?_ ?_
      · refine step_on3 rfl rfl ?_
        intro ev w5 hS hU hc hf hold hval a K ha hK
        replace hS : Keep (fun b => b = w.heap.size + 1) W2 w5 := ⟨hS.os, hS.tape, hS.output, hS.size, hS.block⟩
        clear hU
        have e70 : ev (.tmp 70) = .pointer (some ⟨g, 0, none⟩) := hval 1 70 (by kernel_rfl) rfl
        go_simp
        exact hK _ _ (kstep_grow (Below.refl _ _)) rfl
      refine steps_cons ?_ ?_
      · refine step_on3 rfl rfl ?_
        intro ev w5 hS hU hc hf hold hval a K ha hK
        replace hS : Keep (fun b => b = w.heap.size + 1) W2 w5 := ⟨hS.os, hS.tape, hS.output, hS.size, hS.block⟩
        clear hU
        have e71 : ev (.tmp 71) = .pointer (some ⟨g, 0, none⟩) := hval 2 71 (by kernel_rfl) rfl
        have c72 : w5.cell? ⟨g, 0, none⟩ = some (.pointer (some ⟨gp, 0, none⟩)) := ((hS.bk F.mod (fun h => absurd (show g = w.heap.size + 1 from h) (by have := F.gll; omega))).cell 0).trans rfl
        go_simp
        exact hK _ _ (kstep_grow (Below.refl _ _)) rfl
      refine steps_cons ?_ ?_
      · refine step_on3 rfl rfl ?_
        intro ev w5 hS hU hc hf hold hval a K ha hK
        replace hS : Keep (fun b => b = w.heap.size + 1) W2 w5 := ⟨hS.os, hS.tape, hS.output, hS.size, hS.block⟩
        clear hU
        have e72 : ev (.tmp 72) = .pointer (some ⟨gp, 0, none⟩) := hval 3 72 (by kernel_rfl) rfl
        go_simp
        exact hK _ _ (kstep_grow (Below.refl _ _)) rfl
      refine steps_cons ?_ ?_
      · refine step_on3 rfl rfl ?_
        intro ev w5 hS hU hc hf hold hval a K ha hK
        replace hS : Keep (fun b => b = w.heap.size + 1) W2 w5 := ⟨hS.os, hS.tape, hS.output, hS.size, hS.block⟩
        clear hU
        have e73 : ev (.tmp 73) = .pointer (some ⟨gp, 0, none⟩) := hval 4 73 (by kernel_rfl) rfl
        go_simp
        exact hK _ _ (kstep_grow (Below.refl _ _)) rfl
      refine steps_cons ?_ ?_
      · refine step_on3 rfl rfl ?_
        intro ev w5 hS hU hc hf hold hval a K ha hK
        replace hS : Keep (fun b => b = w.heap.size + 1) W2 w5 := ⟨hS.os, hS.tape, hS.output, hS.size, hS.block⟩
        clear hU
        have e74 : ev (.tmp 74) = .pointer (some ⟨gp, 0, none⟩) := hval 5 74 (by kernel_rfl) rfl
        have c75 : w5.cell? ⟨gp, 0, none⟩ = some (.slice A n c) := ((hS.bk F.pl (fun h => absurd (show gp = w.heap.size + 1 from h) (by have := F.gpl; omega))).cell 0).trans rfl
        go_simp
        exact hK _ _ (kstep_grow (Below.refl _ _)) rfl
      refine steps_cons ?_ ?_
      · refine step_on3 rfl rfl ?_
        intro ev w5 hS hU hc hf hold hval a K ha hK
        replace hS : Keep (fun b => b = w.heap.size + 1) W2 w5 := ⟨hS.os, hS.tape, hS.output, hS.size, hS.block⟩
        clear hU
        have e3 : ev (.tmp 3) = .pointer (some ⟨w.heap.size, 0, none⟩) := hold 3 (by kernel_rfl)
        go_simp
        exact hK _ _ (kstep_grow (Below.refl _ _)) rfl
      refine steps_cons ?_ ?_
      · refine step_on3 rfl rfl ?_
        intro ev w5 hS hU hc hf hold hval a K ha hK
        replace hS : Keep (fun b => b = w.heap.size + 1) W2 w5 := ⟨hS.os, hS.tape, hS.output, hS.size, hS.block⟩
        clear hU
        have e76 : ev (.tmp 76) = .pointer (some ⟨w.heap.size, 1, none⟩) := hval 7 76 (by kernel_rfl) rfl
        have c77 : w5.cell? ⟨w.heap.size, 1, none⟩ = some (.int .i64 (p : Int)) := ((hS.bk F.step (fun h => absurd (show w.heap.size = w.heap.size + 1 from h) (by omega))).cell 1).trans rfl
        go_simp
        exact hK _ _ (kstep_grow (Below.refl _ _)) rfl
      refine steps_cons ?_ ?_
      · refine step_on3 rfl rfl ?_
        intro ev w5 hS hU hc hf hold hval a K ha hK
        replace hS : Keep (fun b => b = w.heap.size + 1) W2 w5 := ⟨hS.os, hS.tape, hS.output, hS.size, hS.block⟩
        clear hU
        have e3 : ev (.tmp 3) = .pointer (some ⟨w.heap.size, 0, none⟩) := hold 3 (by kernel_rfl)
        go_simp
        exact hK _ _ (kstep_grow (Below.refl _ _)) rfl
      refine steps_cons ?_ ?_
      · refine step_on3 rfl rfl ?_
        intro ev w5 hS hU hc hf hold hval a K ha hK
        replace hS : Keep (fun b => b = w.heap.size + 1) W2 w5 := ⟨hS.os, hS.tape, hS.output, hS.size, hS.block⟩
        clear hU
        have e78 : ev (.tmp 78) = .pointer (some ⟨w.heap.size, 1, none⟩) := hval 9 78 (by kernel_rfl) rfl
        have c79 : w5.cell? ⟨w.heap.size, 1, none⟩ = some (.int .i64 (p : Int)) := ((hS.bk F.step (fun h => absurd (show w.heap.size = w.heap.size + 1 from h) (by omega))).cell 1).trans rfl
        go_simp
        exact hK _ _ (kstep_grow (Below.refl _ _)) rfl
      refine steps_cons ?_ ?_
      · refine step_on3 rfl rfl ?_
        intro ev w5 hS hU hc hf hold hval a K ha hK
        replace hS : Keep (fun b => b = w.heap.size + 1) W2 w5 := ⟨hS.os, hS.tape, hS.output, hS.size, hS.block⟩
        clear hU
        have e3 : ev (.tmp 3) = .pointer (some ⟨w.heap.size, 0, none⟩) := hold 3 (by kernel_rfl)
        go_simp
        exact hK _ _ (kstep_grow (Below.refl _ _)) rfl
      refine steps_cons ?_ ?_
      · refine step_on3 rfl rfl ?_
        intro ev w5 hS hU hc hf hold hval a K ha hK
        replace hS : Keep (fun b => b = w.heap.size + 1) W2 w5 := ⟨hS.os, hS.tape, hS.output, hS.size, hS.block⟩
        clear hU
        have e80 : ev (.tmp 80) = .pointer (some ⟨w.heap.size, 2, none⟩) := hval 11 80 (by kernel_rfl) rfl
        have c81 : w5.cell? ⟨w.heap.size, 2, none⟩ = some (.int .i64 (k : Int)) := ((hS.bk F.step (fun h => absurd (show w.heap.size = w.heap.size + 1 from h) (by omega))).cell 2).trans rfl
        go_simp
        exact hK _ _ (kstep_grow (Below.refl _ _)) rfl
      refine steps_cons ?_ ?_
      · refine step_on3 rfl rfl ?_
        intro ev w5 hS hU hc hf hold hval a K ha hK
        replace hS : Keep (fun b => b = w.heap.size + 1) W2 w5 := ⟨hS.os, hS.tape, hS.output, hS.size, hS.block⟩
        clear hU
        have e79 : ev (.tmp 79) = .int .i64 (p : Int) := hval 10 79 (by kernel_rfl) rfl
        have e81 : ev (.tmp 81) = .int .i64 (k : Int) := hval 12 81 (by kernel_rfl) rfl
        go_simp
        exact hK _ _ (kstep_grow (Below.refl _ _)) (i64_eq (by rw [IntKind.wrap_i64]; omega))
      refine steps_cons ?_ ?_
      · refine step_on3 rfl rfl ?_
        intro ev w5 hS hU hc hf hold hval a K ha hK
        replace hS : Keep (fun b => b = w.heap.size + 1) W2 w5 := ⟨hS.os, hS.tape, hS.output, hS.size, hS.block⟩
        clear hU
        have e75 : ev (.tmp 75) = .slice A n c := hval 6 75 (by kernel_rfl) rfl
        have e77 : ev (.tmp 77) = .int .i64 (p : Int) := hval 8 77 (by kernel_rfl) rfl
        have e82 : ev (.tmp 82) = .int .i64 (q : Int) := hval 13 82 (by kernel_rfl) rfl
        go_simp
        exact hK _ _ (kstep_grow (Below.refl _ _)) rfl
      refine steps_cons ?_ ?_
      · refine step_on3 rfl rfl ?_
        intro ev w5 hS hU hc hf hold hval a K ha hK
        replace hS : Keep (fun b => b = w.heap.size + 1) W2 w5 := ⟨hS.os, hS.tape, hS.output, hS.size, hS.block⟩
        clear hU
        have e83 : ev (.tmp 83) = .slice (cutA A c p 1) (q - p) (c - p) := hval 14 83 (by kernel_rfl) rfl
        go_simp
        have hr5 := hS.rd F.rT F.low.size (fun b hb h => absurd (show b = w.heap.size + 1 from h) (by omega))
        have hc5 := Hcut.out w5 hr5
        refine (Clone_any _ _ _ _ X _ hc5 (Nat.le_trans F.low.size hS.size) (by omega)).mono ?_
        rintro e w8 ⟨A9, c9, rfl, hm9, hb9⟩
        rw [← HX.out] at hm9 ⊢
        exact hK _ _ (kstep_grow hb9) ⟨A9, c9, rfl, hm9.mono (by have := hS.size; have := F.res.lt; omega)⟩
      refine steps_cons ?_ ?_
      · refine step_on3 rfl rfl ?_
        intro ev w5 hS hU hc hf hold hval a K ha hK
        replace hS : Keep (fun b => b = w.heap.size + 1) W2 w5 := ⟨hS.os, hS.tape, hS.output, hS.size, hS.block⟩
        clear hU
        have p84 : (madeV (w.heap.size + 2) 5 1 X.length (X.map bv)) (ev (.tmp 84)) w5 := hval 15 84 (by kernel_rfl) rfl
        obtain ⟨A9, c9, e84, hm9⟩ := p84
        go_simp
        exact hK _ _ (kstep_grow (Below.refl _ _)) ⟨A9, c9, rfl, hm9⟩
      refine steps_cons ?_ ?_
      · refine step_on3 rfl rfl ?_
        intro ev w5 hS hU hc hf hold hval a K ha hK
        replace hS : Keep (fun b => b = w.heap.size + 1) W2 w5 := ⟨hS.os, hS.tape, hS.output, hS.size, hS.block⟩
        have hpre := hU rfl
        clear hU
        have e4 : ev (.tmp 4) = .pointer (some ⟨w.heap.size + 1, 0, none⟩) := hold 4 (by kernel_rfl)
        have p85 : (ansV (w.heap.size + 2) 0 X) (ev (.tmp 85)) w5 := hval 16 85 (by kernel_rfl) rfl
        obtain ⟨A9, c9, e85, hm9⟩ := p85
        unfold resC at e85
        have r0 : w5.cell? ⟨w.heap.size + 1, 0, none⟩ = some (.int .i64 0) := (hpre.cell 0).trans rfl
        have f0 := hpre.frozen 0
        have r1 : w5.cell? ⟨w.heap.size + 1, 1, none⟩ = some (.int .i64 0) := (hpre.cell 1).trans rfl
        have f1 := hpre.frozen 1
        have r2 : w5.cell? ⟨w.heap.size + 1, 2, none⟩ = some (.slice none 0 0) := (hpre.cell 2).trans rfl
        have f2 := hpre.frozen 2
        have r3 : w5.cell? ⟨w.heap.size + 1, 3, none⟩ = some (.slice none 0 0) := (hpre.cell 3).trans rfl
        have f3 := hpre.frozen 3
        go_simp
        exact hK (.bool true) _ (kstep_keep at_set) ⟨A9, c9, res_set hpre, hm9.keepF at_set (fun b hb => by subst hb; omega)⟩
      exact steps_nil
    · intro ev w6 hS hval hall
      replace hS : Keep (fun b => b = w.heap.size + 1) W2 w6 := ⟨hS.os, hS.tape, hS.output, hS.size, hS.block⟩
      obtain ⟨vJ, pJ⟩ : ∃ v, (ansW (w.heap.size + 1) (w.heap.size + 2) 0 X) v w6 := hall 17 (by decide)
      simp only [putsOf, List.foldl_cons, List.foldl_nil, Act.put, List.setIfInBounds_toArray, List.set_cons_zero, List.set_cons_succ]
      clear hval hall
      obtain ⟨A9, c9, hb9, hm9⟩ := pJ
      go_wp2
      have hbl : Below w.heap.size w w6 := F.low.trans (hS.to_below F.low.size (fun b hb h => absurd (show b = w.heap.size + 1 from h) (by omega)))
      exact do_ret (A1 := A9) (c1 := c9) (A2 := none) (c2 := 0) (.inl rfl) rfl hb9 (Keep.of_below hbl) (hm9.mono (by omega)) (made_nil _ _ _) (Hp.out.keep hbl)
set_option maxRecDepth 100000 in
set_option maxHeartbeats 4000000 in
theorem Do_count (g gp : Nat) (AD : Option Addr) (nd cd B : Nat) (p k : Int) (most : Int) (T D : List UInt8) (w : World) (hg : Bk w g 49 #[.pointer (some ⟨gp, 0, none⟩), .int .i64 most]) (hp : PlS w gp T)
    (hd : Rd w B 1 AD nd (D.map bv)) (hB : B ≤ w.heap.size) (hdne : 0 < nd → ∀ a, AD = some a → a.block ≠ gp) (hgne : g ≠ gp) (hT : T.length ≤ 549755813888) (hD : nd ≤ 549755813888) (hpb : -9223372036854775808 ≤ (p : Int) ∧ (p : Int) ≤ 9223372036854775807) (hkb : -9223372036854775808 ≤ (k : Int) ∧ (k : Int) ≤ 9223372036854775807) (hmb : 0 ≤ most ∧ most ≤ 2147483648)
     :
    Calls Try.prog 10 #[.pointer (some ⟨g, 0, none⟩), stepV 6 p k AD nd cd] w fun e w' => DoTold gp (T) ⟨0, ((findB T D).length : Int), [], []⟩ w w' e := by
  have Hp := Lib.hid hp
  obtain ⟨A, c, hb, hr, hnc, hne⟩ := hp
  obtain ⟨n, hn⟩ : ∃ n, T.length = n := ⟨_, rfl⟩
  rw [hn] at hb hr hnc hT hne
  have hDl : D.length = nd := by simpa using hd.1
  have F := do_start (kind := 6) (p := p) (k := k) (cd := cd) hg hb hr hd hB hgne
  have HF := Lib.hid F
  have Hn := Lib.hid hn
  have Hne := Lib.hid hne
  have Hdne := Lib.hid hdne
  clear hb hr hd hg F hn hne hdne
  obtain ⟨L, hL⟩ : ∃ L, findB T D = L := ⟨_, rfl⟩
  obtain ⟨N, hN⟩ : ∃ N, L.length = N := ⟨_, rfl⟩
  rw [hL, hN]
  have HL := Lib.hid hL
  have HN := Lib.hid hN
  clear hL hN
  unfold stepV
  go_enter Try.func10, Try.ntmps10
  go_wp2
  obtain ⟨W, hW⟩ : ∃ W, (w.alloc (.cells #[.int .i64 6, .int .i64 p, .int .i64 k, .slice AD nd cd] 32)).alloc (.cells #[.int .i64 0, .int .i64 0, .slice none 0 0, .slice none 0 0] 29) = W := ⟨_, rfl⟩
  rw [hW] at HF ⊢
  have F := HF.out
  clear hW HF
  refine wp_region_any (by kernel_rfl) ?_
  refine wpAny_keep [134, 135, 136, 137, 138, 139, 140, 141, 142] (fun b => b = w.heap.size + 1) 9 [9] (fun w1 => Bk w1 (w.heap.size + 1) 29 #[.int .i64 0, .int .i64 0, .slice none 0 0, .slice none 0 0]) (fun _ w1 => Bk w1 (w.heap.size + 1) 29 #[.int .i64 0, .int .i64 (N : Int), .slice none 0 0, .slice none 0 0]) [is (.pointer (some ⟨g, 0, none⟩)), is (.pointer (some ⟨g, 0, none⟩)), is (.pointer (some ⟨g, 0, none⟩)), is (.pointer (some ⟨gp, 0, none⟩)), is (.pointer (some ⟨w.heap.size, 3, none⟩)), is (.slice AD nd cd), madeV (w.heap.size + 2) 3 1 N (L.map nv), is (.int .i64 (N : Int)), is (.agg #[.int .i64 0, .int .i64 (N : Int), .slice none 0 0, .slice none 0 0]), anyV] _ _ rfl (by kernel_rfl) (by kernel_rfl) (F.res) (fun w1 w2 h _ hg => Bk.below h hg h.lt) (fun _ _ _ h k => Bk.below h k h.lt) (by repeat' (first | exact stbk_is _ _ | exact stbk_any _ | exact stbk_made (fun b hb => by subst hb; omega) _ _ _ _ | (refine List.forall_mem_cons.2 ⟨?_, ?_⟩) | (intro p hp; cases hp))) ?_ ?_
  · refine steps_of ?_
    refine steps_cons ?_ ?_
    · refine step_on3 rfl rfl ?_
      intro ev w5 hS hU hc hf hold hval a K ha hK
      replace hS : Keep (fun b => b = w.heap.size + 1) W w5 := ⟨hS.os, hS.tape, hS.output, hS.size, hS.block⟩
      clear hU
      have e0 : ev (.tmp 0) = .pointer (some ⟨g, 0, none⟩) := hold 0 (by kernel_rfl)
      go_simp
      exact hK _ _ (kstep_grow (Below.refl _ _)) rfl
    refine steps_cons ?_ ?_
    · refine step_on3 rfl rfl ?_
      intro ev w5 hS hU hc hf hold hval a K ha hK
      replace hS : Keep (fun b => b = w.heap.size + 1) W w5 := ⟨hS.os, hS.tape, hS.output, hS.size, hS.block⟩
      clear hU
      have e134 : ev (.tmp 134) = .pointer (some ⟨g, 0, none⟩) := hval 0 134 (by kernel_rfl) rfl
      go_simp
      exact hK _ _ (kstep_grow (Below.refl _ _)) rfl
    refine steps_cons ?_ ?_
    · refine step_on3 rfl rfl ?_
      intro ev w5 hS hU hc hf hold hval a K ha hK
      replace hS : Keep (fun b => b = w.heap.size + 1) W w5 := ⟨hS.os, hS.tape, hS.output, hS.size, hS.block⟩
      clear hU
      have e135 : ev (.tmp 135) = .pointer (some ⟨g, 0, none⟩) := hval 1 135 (by kernel_rfl) rfl
      go_simp
      exact hK _ _ (kstep_grow (Below.refl _ _)) rfl
    refine steps_cons ?_ ?_
    · refine step_on3 rfl rfl ?_
      intro ev w5 hS hU hc hf hold hval a K ha hK
      replace hS : Keep (fun b => b = w.heap.size + 1) W w5 := ⟨hS.os, hS.tape, hS.output, hS.size, hS.block⟩
      clear hU
      have e136 : ev (.tmp 136) = .pointer (some ⟨g, 0, none⟩) := hval 2 136 (by kernel_rfl) rfl
      have c137 : w5.cell? ⟨g, 0, none⟩ = some (.pointer (some ⟨gp, 0, none⟩)) := ((hS.bk F.mod (fun h => absurd (show g = w.heap.size + 1 from h) (by have := F.gll; omega))).cell 0).trans rfl
      go_simp
      exact hK _ _ (kstep_grow (Below.refl _ _)) rfl
    refine steps_cons ?_ ?_
    · refine step_on3 rfl rfl ?_
      intro ev w5 hS hU hc hf hold hval a K ha hK
      replace hS : Keep (fun b => b = w.heap.size + 1) W w5 := ⟨hS.os, hS.tape, hS.output, hS.size, hS.block⟩
      clear hU
      have e3 : ev (.tmp 3) = .pointer (some ⟨w.heap.size, 0, none⟩) := hold 3 (by kernel_rfl)
      go_simp
      exact hK _ _ (kstep_grow (Below.refl _ _)) rfl
    refine steps_cons ?_ ?_
    · refine step_on3 rfl rfl ?_
      intro ev w5 hS hU hc hf hold hval a K ha hK
      replace hS : Keep (fun b => b = w.heap.size + 1) W w5 := ⟨hS.os, hS.tape, hS.output, hS.size, hS.block⟩
      clear hU
      have e138 : ev (.tmp 138) = .pointer (some ⟨w.heap.size, 3, none⟩) := hval 4 138 (by kernel_rfl) rfl
      have c139 : w5.cell? ⟨w.heap.size, 3, none⟩ = some (.slice AD nd cd) := ((hS.bk F.step (fun h => absurd (show w.heap.size = w.heap.size + 1 from h) (by omega))).cell 3).trans rfl
      go_simp
      exact hK _ _ (kstep_grow (Below.refl _ _)) rfl
    refine steps_cons ?_ ?_
    · refine step_on3 rfl rfl ?_
      intro ev w5 hS hU hc hf hold hval a K ha hK
      replace hS : Keep (fun b => b = w.heap.size + 1) W w5 := ⟨hS.os, hS.tape, hS.output, hS.size, hS.block⟩
      clear hU
      have e137 : ev (.tmp 137) = .pointer (some ⟨gp, 0, none⟩) := hval 3 137 (by kernel_rfl) rfl
      have e139 : ev (.tmp 139) = .slice AD nd cd := hval 5 139 (by kernel_rfl) rfl
      go_simp
      have hr5 := hS.rd F.rT F.low.size (fun b hb h => absurd (show b = w.heap.size + 1 from h) (by omega))
      have hd5 := hS.rd F.rD F.low.size (fun b hb h => absurd (show b = w.heap.size + 1 from h) (by omega))
      have hB5 := Nat.le_trans F.low.size hS.size
      have hb5 := hS.bk F.pl (fun h => absurd (show gp = w.heap.size + 1 from h) (by have := F.gpl; omega))
      refine (find_any gp A AD n c nd cd _ _ T D L N w5 hb5 hr5 hB5 hnc hd5 hB5 HL.out HN.out (by omega) (by omega)).mono ?_
      rintro e w8 ⟨A9, c9, rfl, hm9, hb9⟩
      exact hK _ _ (kstep_grow hb9) ⟨A9, c9, rfl, hm9.mono (by have := hS.size; have := F.res.lt; omega)⟩
    refine steps_cons ?_ ?_
    · refine step_on3 rfl rfl ?_
      intro ev w5 hS hU hc hf hold hval a K ha hK
      replace hS : Keep (fun b => b = w.heap.size + 1) W w5 := ⟨hS.os, hS.tape, hS.output, hS.size, hS.block⟩
      clear hU
      have p140 : (madeV (w.heap.size + 2) 3 1 N (L.map nv)) (ev (.tmp 140)) w5 := hval 6 140 (by kernel_rfl) rfl
      obtain ⟨A9, c9, e140, hm9⟩ := p140
      go_simp
      exact hK _ _ (kstep_grow (Below.refl _ _)) rfl
    refine steps_cons ?_ ?_
    · refine step_on3 rfl rfl ?_
      intro ev w5 hS hU hc hf hold hval a K ha hK
      replace hS : Keep (fun b => b = w.heap.size + 1) W w5 := ⟨hS.os, hS.tape, hS.output, hS.size, hS.block⟩
      clear hU
      have e141 : ev (.tmp 141) = .int .i64 (N : Int) := hval 7 141 (by kernel_rfl) rfl
      go_simp
      exact hK _ _ (kstep_grow (Below.refl _ _)) rfl
    refine steps_cons ?_ ?_
    · refine step_on3 rfl rfl ?_
      intro ev w5 hS hU hc hf hold hval a K ha hK
      replace hS : Keep (fun b => b = w.heap.size + 1) W w5 := ⟨hS.os, hS.tape, hS.output, hS.size, hS.block⟩
      have hpre := hU rfl
      clear hU
      have e4 : ev (.tmp 4) = .pointer (some ⟨w.heap.size + 1, 0, none⟩) := hold 4 (by kernel_rfl)
      have e142 : ev (.tmp 142) = .agg #[.int .i64 0, .int .i64 (N : Int), .slice none 0 0, .slice none 0 0] := hval 8 142 (by kernel_rfl) rfl
      have r0 : w5.cell? ⟨w.heap.size + 1, 0, none⟩ = some (.int .i64 0) := (hpre.cell 0).trans rfl
      have f0 := hpre.frozen 0
      have r1 : w5.cell? ⟨w.heap.size + 1, 1, none⟩ = some (.int .i64 0) := (hpre.cell 1).trans rfl
      have f1 := hpre.frozen 1
      have r2 : w5.cell? ⟨w.heap.size + 1, 2, none⟩ = some (.slice none 0 0) := (hpre.cell 2).trans rfl
      have f2 := hpre.frozen 2
      have r3 : w5.cell? ⟨w.heap.size + 1, 3, none⟩ = some (.slice none 0 0) := (hpre.cell 3).trans rfl
      have f3 := hpre.frozen 3
      go_simp
      exact hK (.bool true) _ (kstep_keep at_set) (res_set hpre)
    exact steps_nil
  · intro ev w6 hS hval hall
    replace hS : Keep (fun b => b = w.heap.size + 1) W w6 := ⟨hS.os, hS.tape, hS.output, hS.size, hS.block⟩
    obtain ⟨vJ, pJ⟩ : ∃ v, (fun _ w1 => Bk w1 (w.heap.size + 1) 29 #[.int .i64 0, .int .i64 (N : Int), .slice none 0 0, .slice none 0 0]) v w6 := hall 9 (by decide)
    simp only [putsOf, List.foldl_cons, List.foldl_nil, Act.put, List.setIfInBounds_toArray, List.set_cons_zero, List.set_cons_succ]
    clear hval hall
    go_wp2
    have hbl : Below w.heap.size w w6 := F.low.trans (hS.to_below F.low.size (fun b hb h => absurd (show b = w.heap.size + 1 from h) (by omega)))
    exact do_ret (A1 := none) (c1 := 0) (A2 := none) (c2 := 0) (.inl rfl) rfl pJ (Keep.of_below hbl) (made_nil _ _ _) (made_nil _ _ _) (Hp.out.keep hbl)
set_option maxRecDepth 100000 in
set_option maxHeartbeats 4000000 in
theorem Do_locate (g gp : Nat) (AD : Option Addr) (nd cd B : Nat) (p k : Int) (most : Int) (T D : List UInt8) (w : World) (hg : Bk w g 49 #[.pointer (some ⟨gp, 0, none⟩), .int .i64 most]) (hp : PlS w gp T)
    (hd : Rd w B 1 AD nd (D.map bv)) (hB : B ≤ w.heap.size) (hdne : 0 < nd → ∀ a, AD = some a → a.block ≠ gp) (hgne : g ≠ gp) (hT : T.length ≤ 549755813888) (hD : nd ≤ 549755813888) (hpb : -9223372036854775808 ≤ (p : Int) ∧ (p : Int) ≤ 9223372036854775807) (hkb : -9223372036854775808 ≤ (k : Int) ∧ (k : Int) ≤ 9223372036854775807) (hmb : 0 ≤ most ∧ most ≤ 2147483648)
     :
    Calls Try.prog 10 #[.pointer (some ⟨g, 0, none⟩), stepV 7 p k AD nd cd] w fun e w' => DoTold gp (T) ⟨0, ((findB T D).length : Int), [], findB T D⟩ w w' e := by
  have Hp := Lib.hid hp
  obtain ⟨A, c, hb, hr, hnc, hne⟩ := hp
  obtain ⟨n, hn⟩ : ∃ n, T.length = n := ⟨_, rfl⟩
  rw [hn] at hb hr hnc hT hne
  have hDl : D.length = nd := by simpa using hd.1
  have F := do_start (kind := 7) (p := p) (k := k) (cd := cd) hg hb hr hd hB hgne
  have HF := Lib.hid F
  have Hn := Lib.hid hn
  have Hne := Lib.hid hne
  have Hdne := Lib.hid hdne
  clear hb hr hd hg F hn hne hdne
  obtain ⟨L, hL⟩ : ∃ L, findB T D = L := ⟨_, rfl⟩
  obtain ⟨N, hN⟩ : ∃ N, L.length = N := ⟨_, rfl⟩
  rw [hL, hN]
  have HL := Lib.hid hL
  have HN := Lib.hid hN
  clear hL hN
  unfold stepV
  go_enter Try.func10, Try.ntmps10
  go_wp2
  obtain ⟨W, hW⟩ : ∃ W, (w.alloc (.cells #[.int .i64 7, .int .i64 p, .int .i64 k, .slice AD nd cd] 32)).alloc (.cells #[.int .i64 0, .int .i64 0, .slice none 0 0, .slice none 0 0] 29) = W := ⟨_, rfl⟩
  rw [hW] at HF ⊢
  have F := HF.out
  clear hW HF
  refine wp_region_any (by kernel_rfl) ?_
  refine wpAny_keep [145, 146, 147, 148, 149, 150, 151, 5] (fun _ => False) 7 [] (fun _ => True) (madeV (w.heap.size + 2) 3 1 N (L.map nv)) [is (.pointer (some ⟨g, 0, none⟩)), is (.pointer (some ⟨g, 0, none⟩)), is (.pointer (some ⟨g, 0, none⟩)), is (.pointer (some ⟨gp, 0, none⟩)), is (.pointer (some ⟨w.heap.size, 3, none⟩)), is (.slice AD nd cd), madeV (w.heap.size + 2) 3 1 N (L.map nv), anyV] _ _ rfl (by kernel_rfl) (by kernel_rfl) (trivial) (fun _ _ _ _ _ => trivial) (madeV_stb _ _ _ _ _) (by repeat' (first | exact stbk_is _ _ | exact stbk_any _ | exact stbk_made (fun b hb => hb.elim) _ _ _ _ | (refine List.forall_mem_cons.2 ⟨?_, ?_⟩) | (intro p hp; cases hp))) ?_ ?_
  · refine steps_of ?_
    refine steps_cons ?_ ?_
    · refine step_on3 rfl rfl ?_
      intro ev w5 hS hU hc hf hold hval a K ha hK
      replace hS : Keep (fun _ => False) W w5 := ⟨hS.os, hS.tape, hS.output, hS.size, hS.block⟩
      clear hU
      have e0 : ev (.tmp 0) = .pointer (some ⟨g, 0, none⟩) := hold 0 (by kernel_rfl)
      go_simp
      exact hK _ _ (kstep_grow (Below.refl _ _)) rfl
    refine steps_cons ?_ ?_
    · refine step_on3 rfl rfl ?_
      intro ev w5 hS hU hc hf hold hval a K ha hK
      replace hS : Keep (fun _ => False) W w5 := ⟨hS.os, hS.tape, hS.output, hS.size, hS.block⟩
      clear hU
      have e145 : ev (.tmp 145) = .pointer (some ⟨g, 0, none⟩) := hval 0 145 (by kernel_rfl) rfl
      go_simp
      exact hK _ _ (kstep_grow (Below.refl _ _)) rfl
    refine steps_cons ?_ ?_
    · refine step_on3 rfl rfl ?_
      intro ev w5 hS hU hc hf hold hval a K ha hK
      replace hS : Keep (fun _ => False) W w5 := ⟨hS.os, hS.tape, hS.output, hS.size, hS.block⟩
      clear hU
      have e146 : ev (.tmp 146) = .pointer (some ⟨g, 0, none⟩) := hval 1 146 (by kernel_rfl) rfl
      go_simp
      exact hK _ _ (kstep_grow (Below.refl _ _)) rfl
    refine steps_cons ?_ ?_
    · refine step_on3 rfl rfl ?_
      intro ev w5 hS hU hc hf hold hval a K ha hK
      replace hS : Keep (fun _ => False) W w5 := ⟨hS.os, hS.tape, hS.output, hS.size, hS.block⟩
      clear hU
      have e147 : ev (.tmp 147) = .pointer (some ⟨g, 0, none⟩) := hval 2 147 (by kernel_rfl) rfl
      have c148 : w5.cell? ⟨g, 0, none⟩ = some (.pointer (some ⟨gp, 0, none⟩)) := ((hS.bk F.mod (fun h => h)).cell 0).trans rfl
      go_simp
      exact hK _ _ (kstep_grow (Below.refl _ _)) rfl
    refine steps_cons ?_ ?_
    · refine step_on3 rfl rfl ?_
      intro ev w5 hS hU hc hf hold hval a K ha hK
      replace hS : Keep (fun _ => False) W w5 := ⟨hS.os, hS.tape, hS.output, hS.size, hS.block⟩
      clear hU
      have e3 : ev (.tmp 3) = .pointer (some ⟨w.heap.size, 0, none⟩) := hold 3 (by kernel_rfl)
      go_simp
      exact hK _ _ (kstep_grow (Below.refl _ _)) rfl
    refine steps_cons ?_ ?_
    · refine step_on3 rfl rfl ?_
      intro ev w5 hS hU hc hf hold hval a K ha hK
      replace hS : Keep (fun _ => False) W w5 := ⟨hS.os, hS.tape, hS.output, hS.size, hS.block⟩
      clear hU
      have e149 : ev (.tmp 149) = .pointer (some ⟨w.heap.size, 3, none⟩) := hval 4 149 (by kernel_rfl) rfl
      have c150 : w5.cell? ⟨w.heap.size, 3, none⟩ = some (.slice AD nd cd) := ((hS.bk F.step (fun h => h)).cell 3).trans rfl
      go_simp
      exact hK _ _ (kstep_grow (Below.refl _ _)) rfl
    refine steps_cons ?_ ?_
    · refine step_on3 rfl rfl ?_
      intro ev w5 hS hU hc hf hold hval a K ha hK
      replace hS : Keep (fun _ => False) W w5 := ⟨hS.os, hS.tape, hS.output, hS.size, hS.block⟩
      clear hU
      have e148 : ev (.tmp 148) = .pointer (some ⟨gp, 0, none⟩) := hval 3 148 (by kernel_rfl) rfl
      have e150 : ev (.tmp 150) = .slice AD nd cd := hval 5 150 (by kernel_rfl) rfl
      go_simp
      have hr5 := hS.rd F.rT F.low.size (fun b hb h => h)
      have hd5 := hS.rd F.rD F.low.size (fun b hb h => h)
      have hB5 := Nat.le_trans F.low.size hS.size
      have hb5 := hS.bk F.pl (fun h => h)
      refine (find_any gp A AD n c nd cd _ _ T D L N w5 hb5 hr5 hB5 hnc hd5 hB5 HL.out HN.out (by omega) (by omega)).mono ?_
      rintro e w8 ⟨A9, c9, rfl, hm9, hb9⟩
      exact hK _ _ (kstep_grow hb9) ⟨A9, c9, rfl, hm9.mono (by have := hS.size; have := F.res.lt; omega)⟩
    refine steps_cons ?_ ?_
    · refine step_on3 rfl rfl ?_
      intro ev w5 hS hU hc hf hold hval a K ha hK
      replace hS : Keep (fun _ => False) W w5 := ⟨hS.os, hS.tape, hS.output, hS.size, hS.block⟩
      clear hU
      have p151 : (madeV (w.heap.size + 2) 3 1 N (L.map nv)) (ev (.tmp 151)) w5 := hval 6 151 (by kernel_rfl) rfl
      obtain ⟨A9, c9, e151, hm9⟩ := p151
      go_simp
      exact hK _ _ (kstep_grow (Below.refl _ _)) ⟨A9, c9, rfl, hm9⟩
    exact steps_nil
  · intro ev w6 hS hval hall
    replace hS : Keep (fun _ => False) W w6 := ⟨hS.os, hS.tape, hS.output, hS.size, hS.block⟩
    have p5 : (madeV (w.heap.size + 2) 3 1 N (L.map nv)) (ev (.tmp 5)) w6 := hval 7 5 rfl
    obtain ⟨vJ, pJ⟩ : ∃ v, (madeV (w.heap.size + 2) 3 1 N (L.map nv)) v w6 := hall 7 (by decide)
    simp only [putsOf, List.foldl_cons, List.foldl_nil, Act.put, List.setIfInBounds_toArray, List.set_cons_zero, List.set_cons_succ]
    clear hval hall
    obtain ⟨A9, c9, e5, hm9⟩ := p5
    rw [e5]
    have hbl : Below w.heap.size w w6 := F.low.trans (hS.to_below F.low.size (fun b hb h => h))
    have hres : Bk w6 (w.heap.size + 1) 29 #[.int .i64 0, .int .i64 0, .slice none 0 0, .slice none 0 0] := hS.bk F.res (fun h => h)
    have r0 : w6.cell? ⟨w.heap.size + 1, 0, none⟩ = some (.int .i64 0) := (hres.cell 0).trans rfl
    have f0 := hres.frozen 0
    have r1 : w6.cell? ⟨w.heap.size + 1, 1, none⟩ = some (.int .i64 0) := (hres.cell 1).trans rfl
    have f1 := hres.frozen 1
    have r2 : w6.cell? ⟨w.heap.size + 1, 2, none⟩ = some (.slice none 0 0) := (hres.cell 2).trans rfl
    have f2 := hres.frozen 2
    have r3 : w6.cell? ⟨w.heap.size + 1, 3, none⟩ = some (.slice none 0 0) := (hres.cell 3).trans rfl
    have f3 := hres.frozen 3
    go_wp2
    have hbl2 := grow_set (v0 := .int .i64 0) (v1 := .int .i64 (N : Int)) (v2 := .slice none 0 0) (v3 := .slice A9 N c9) (Nat.le_succ w.heap.size) hbl
    rw [← HN.out] at *
    exact do_ret (s := w.heap.size + 1) (A1 := none) (c1 := 0) (A2 := A9) (c2 := c9) (.inl rfl) rfl (res_set hres) (Keep.of_below hbl2) (made_nil _ _ _) ((hm9.keepF at_set (fun b hb => by subst hb; omega)).mono (by omega)) (Hp.out.keep hbl2)
end Go.Proofs.Ytmebhlopmgfobaa
