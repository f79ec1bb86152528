/- The walk of the model's Do, where it writes. Conditions: sizes of at most 2^39. -/
import Derived.Test.YtmebhlopmgfobaaModDo
namespace Go.Proofs.Ytmebhlopmgfobaa
open Go.RowKit
set_option linter.unusedVariables false
set_option linter.unusedSimpArgs false
set_option maxRecDepth 100000 in
set_option maxHeartbeats 4000000 in
theorem Do_ins_ok (g gp : Nat) (AD : Option Addr) (nd cd B : Nat) (p : Nat) (k : Int) (most : Int) (T D : List UInt8) (w : World) (hg : Bk w g 49 #[.pointer (some ⟨gp, 0, none⟩), .int .i64 most]) (hp : PlS w gp T)
    (hd : Rd w B 1 AD nd (D.map bv)) (hB : B ≤ w.heap.size) (hdne : 0 < nd → ∀ a, AD = some a → a.block ≠ gp) (hgne : g ≠ gp) (hT : T.length ≤ 549755813888) (hD : nd ≤ 549755813888) (hpb : -9223372036854775808 ≤ (p : Int) ∧ (p : Int) ≤ 9223372036854775807) (hkb : -9223372036854775808 ≤ (k : Int) ∧ (k : Int) ≤ 9223372036854775807) (hmb : 0 ≤ most ∧ most ≤ 2147483648)
    (hhas : hasB T.length p 0 = true) (hfull : (nd : Int) ≤ most - (T.length : Int)) :
    Calls Try.prog 10 #[.pointer (some ⟨g, 0, none⟩), stepV 1 p k AD nd cd] w fun e w' => DoTold gp (T.take p ++ (D ++ T.drop (p + 0))) ⟨0, 0, [], []⟩ w w' e := by
  have Hp := Lib.hid hp
  obtain ⟨A, c, hb, hr, hnc, hne⟩ := hp
  obtain ⟨n, hn⟩ : ∃ n, T.length = n := ⟨_, rfl⟩
  rw [hn] at hb hr hnc hT hne
  rw [hn] at hhas hfull
  have hDl : D.length = nd := by simpa using hd.1
  have F := do_start (kind := 1) (p := p) (k := k) (cd := cd) hg hb hr hd hB hgne
  have HF := Lib.hid F
  have Hn := Lib.hid hn
  have Hne := Lib.hid hne
  have Hdne := Lib.hid hdne
  clear hb hr hd hg F hn hne hdne
  obtain ⟨q, hq⟩ : ∃ q, p + 0 = q := ⟨_, rfl⟩
  rw [hq]
  obtain ⟨T2, hT2⟩ : ∃ T2, T.take p ++ (D ++ T.drop q) = T2 := ⟨_, rfl⟩
  rw [hT2]
  obtain ⟨N, hN⟩ : ∃ N, T2.length = N := ⟨_, rfl⟩
  have hqn : q ≤ n := by
    unfold hasB at hhas
    have := of_decide_eq_true hhas
    omega
  have hN2 : N ≤ 1099511627776 := by
    rw [← hN, ← hT2]
    have := Hn.out
    simp only [List.length_append, List.length_take, List.length_drop, List.length_nil]
    omega
  have HT2 := Lib.hid hT2
  have HN := Lib.hid hN
  clear hT2 hN
  unfold stepV
  go_enter Try.func10, Try.ntmps10
  go_wp2
  obtain ⟨W, hW⟩ : ∃ W, (w.alloc (.cells #[.int .i64 1, .int .i64 p, .int .i64 k, .slice AD nd cd] 32)).alloc (.cells #[.int .i64 0, .int .i64 0, .slice none 0 0, .slice none 0 0] 29) = W := ⟨_, rfl⟩
  rw [hW] at HF ⊢
  have F := HF.out
  clear hW HF
  refine wp_region_any (by kernel_rfl) ?_
  refine wpAny_loose2 [15, 16, 17, 18, 19, 20, 21, 22, 14] Grow (Vs [is (.pointer (some ⟨g, 0, none⟩)), is (.pointer (some ⟨g, 0, none⟩)), is (.pointer (some ⟨g, 0, none⟩)), is (.pointer (some ⟨gp, 0, none⟩)), is (.pointer (some ⟨w.heap.size, 1, none⟩)), is (.int .i64 p), is (.bool true), is (.bool false), is (.bool false)]) _ _ rfl (by kernel_rfl) (Below.refl _ _) (fun _ _ => Grow.trans) (stb_all (by repeat' (first | exact stb_is _ | exact stb_row _ _ _ | (refine List.forall_mem_cons.2 ⟨?_, ?_⟩) | (intro p hp; cases hp)))) ?_ ?_
  · refine steps_of ?_
    refine steps_cons ?_ ?_
    · refine step_on rfl rfl ?_
      intro ev w5 hS hc hf hold hval a K ha hK
      have e0 : ev (.tmp 0) = .pointer (some ⟨g, 0, none⟩) := hold 0 (by kernel_rfl)
      replace hS : Grow W w5 := ⟨hS.os, hS.tape, hS.output, hS.size, hS.block⟩
      go_simp
      exact hK _ _ (Below.refl _ _) rfl
    refine steps_cons ?_ ?_
    · refine step_on rfl rfl ?_
      intro ev w5 hS hc hf hold hval a K ha hK
      have e15 : ev (.tmp 15) = .pointer (some ⟨g, 0, none⟩) := hval 0 15 (by kernel_rfl) rfl
      replace hS : Grow W w5 := ⟨hS.os, hS.tape, hS.output, hS.size, hS.block⟩
      go_simp
      exact hK _ _ (Below.refl _ _) rfl
    refine steps_cons ?_ ?_
    · refine step_on rfl rfl ?_
      intro ev w5 hS hc hf hold hval a K ha hK
      have e16 : ev (.tmp 16) = .pointer (some ⟨g, 0, none⟩) := hval 1 16 (by kernel_rfl) rfl
      replace hS : Grow W w5 := ⟨hS.os, hS.tape, hS.output, hS.size, hS.block⟩
      go_simp
      exact hK _ _ (Below.refl _ _) rfl
    refine steps_cons ?_ ?_
    · refine step_on rfl rfl ?_
      intro ev w5 hS hc hf hold hval a K ha hK
      have e17 : ev (.tmp 17) = .pointer (some ⟨g, 0, none⟩) := hval 2 17 (by kernel_rfl) rfl
      replace hS : Grow W w5 := ⟨hS.os, hS.tape, hS.output, hS.size, hS.block⟩
      have c18 : w5.cell? ⟨g, 0, none⟩ = some (.pointer (some ⟨gp, 0, none⟩)) := ((F.mod.below hS F.mod.lt).cell 0).trans rfl
      go_simp
      exact hK _ _ (Below.refl _ _) rfl
    refine steps_cons ?_ ?_
    · refine step_on rfl rfl ?_
      intro ev w5 hS hc hf hold hval a K ha hK
      have e3 : ev (.tmp 3) = .pointer (some ⟨w.heap.size, 0, none⟩) := hold 3 (by kernel_rfl)
      replace hS : Grow W w5 := ⟨hS.os, hS.tape, hS.output, hS.size, hS.block⟩
      go_simp
      exact hK _ _ (Below.refl _ _) rfl
    refine steps_cons ?_ ?_
    · refine step_on rfl rfl ?_
      intro ev w5 hS hc hf hold hval a K ha hK
      have e19 : ev (.tmp 19) = .pointer (some ⟨w.heap.size, 1, none⟩) := hval 4 19 (by kernel_rfl) rfl
      replace hS : Grow W w5 := ⟨hS.os, hS.tape, hS.output, hS.size, hS.block⟩
      have c20 : w5.cell? ⟨w.heap.size, 1, none⟩ = some (.int .i64 p) := ((F.step.below hS F.step.lt).cell 1).trans rfl
      go_simp
      exact hK _ _ (Below.refl _ _) rfl
    refine steps_cons ?_ ?_
    · refine step_on rfl rfl ?_
      intro ev w5 hS hc hf hold hval a K ha hK
      have e18 : ev (.tmp 18) = .pointer (some ⟨gp, 0, none⟩) := hval 3 18 (by kernel_rfl) rfl
      have e20 : ev (.tmp 20) = .int .i64 p := hval 5 20 (by kernel_rfl) rfl
      replace hS : Grow W w5 := ⟨hS.os, hS.tape, hS.output, hS.size, hS.block⟩
      go_simp
      refine (has_any gp A n c p (0) w5 (((F.pl.below hS F.pl.lt).cell 0).trans rfl) (by omega) hpb (by omega)).mono ?_
      rintro e w8 ⟨rfl, rfl⟩
      exact hK _ _ (Below.refl _ _) (bool_eq hhas)
    refine steps_cons ?_ ?_
    · refine step_on rfl rfl ?_
      intro ev w5 hS hc hf hold hval a K ha hK
      have e21 : ev (.tmp 21) = .bool true := hval 6 21 (by kernel_rfl) rfl
      replace hS : Grow W w5 := ⟨hS.os, hS.tape, hS.output, hS.size, hS.block⟩
      go_simp
      exact hK _ _ (Below.refl _ _) rfl
    refine steps_cons ?_ ?_
    · refine step_on rfl rfl ?_
      intro ev w5 hS hc hf hold hval a K ha hK
      have e22 : ev (.tmp 22) = .bool false := hval 7 22 (by kernel_rfl) rfl
      replace hS : Grow W w5 := ⟨hS.os, hS.tape, hS.output, hS.size, hS.block⟩
      go_simp
      exact hK _ _ (Below.refl _ _) rfl
    exact steps_nil
  · intro ev w6 hS hval
    replace hS : Grow W w6 := ⟨hS.os, hS.tape, hS.output, hS.size, hS.block⟩
    have e14 : ev (.tmp 14) = .bool false := hval 8 14 rfl
    simp only [putsOf, List.foldl_cons, List.foldl_nil, Act.put, List.setIfInBounds_toArray, List.set_cons_zero, List.set_cons_succ]
    rw [e14]
    clear hval
    have F6 := F.grow hS
    clear F hS
    revert F6
    generalize w6 = W2
    intro F
    go_wp2
    refine wp_region_any (by kernel_rfl) ?_
    refine wpAny_loose2 [25, 26, 27, 28, 29, 30, 31, 32, 33, 34, 35, 36, 37, 38, 39, 40, 41, 24] Grow (Vs [is (.pointer (some ⟨w.heap.size, 3, none⟩)), is (.slice AD nd cd), is (.int .i64 (nd : Int)), is (.pointer (some ⟨g, 0, none⟩)), is (.pointer (some ⟨g, 0, none⟩)), is (.pointer (some ⟨g, 1, none⟩)), is (.int .i64 most), is (.pointer (some ⟨g, 0, none⟩)), is (.pointer (some ⟨g, 0, none⟩)), is (.pointer (some ⟨g, 0, none⟩)), is (.pointer (some ⟨gp, 0, none⟩)), is (.pointer (some ⟨gp, 0, none⟩)), is (.pointer (some ⟨gp, 0, none⟩)), is (.slice A n c), is (.int .i64 (n : Int)), is (.int .i64 (most - (n : Int))), is (.bool false), is (.bool false)]) _ _ rfl (by kernel_rfl) (Below.refl _ _) (fun _ _ => Grow.trans) (stb_all (by repeat' (first | exact stb_is _ | exact stb_row _ _ _ | (refine List.forall_mem_cons.2 ⟨?_, ?_⟩) | (intro p hp; cases hp)))) ?_ ?_
    · refine steps_of ?_
      refine steps_cons ?_ ?_
      · refine step_on rfl rfl ?_
        intro ev w5 hS hc hf hold hval a K ha hK
        have e3 : ev (.tmp 3) = .pointer (some ⟨w.heap.size, 0, none⟩) := hold 3 (by kernel_rfl)
        replace hS : Grow W2 w5 := ⟨hS.os, hS.tape, hS.output, hS.size, hS.block⟩
        go_simp
        exact hK _ _ (Below.refl _ _) rfl
      refine steps_cons ?_ ?_
      · refine step_on rfl rfl ?_
        intro ev w5 hS hc hf hold hval a K ha hK
        have e25 : ev (.tmp 25) = .pointer (some ⟨w.heap.size, 3, none⟩) := hval 0 25 (by kernel_rfl) rfl
        replace hS : Grow W2 w5 := ⟨hS.os, hS.tape, hS.output, hS.size, hS.block⟩
        have c26 : w5.cell? ⟨w.heap.size, 3, none⟩ = some (.slice AD nd cd) := ((F.step.below hS F.step.lt).cell 3).trans rfl
        go_simp
        exact hK _ _ (Below.refl _ _) rfl
      refine steps_cons ?_ ?_
      · refine step_on rfl rfl ?_
        intro ev w5 hS hc hf hold hval a K ha hK
        have e26 : ev (.tmp 26) = .slice AD nd cd := hval 1 26 (by kernel_rfl) rfl
        replace hS : Grow W2 w5 := ⟨hS.os, hS.tape, hS.output, hS.size, hS.block⟩
        go_simp
        exact hK _ _ (Below.refl _ _) rfl
      refine steps_cons ?_ ?_
      · refine step_on rfl rfl ?_
        intro ev w5 hS hc hf hold hval a K ha hK
        have e0 : ev (.tmp 0) = .pointer (some ⟨g, 0, none⟩) := hold 0 (by kernel_rfl)
        replace hS : Grow W2 w5 := ⟨hS.os, hS.tape, hS.output, hS.size, hS.block⟩
        go_simp
        exact hK _ _ (Below.refl _ _) rfl
      refine steps_cons ?_ ?_
      · refine step_on rfl rfl ?_
        intro ev w5 hS hc hf hold hval a K ha hK
        have e28 : ev (.tmp 28) = .pointer (some ⟨g, 0, none⟩) := hval 3 28 (by kernel_rfl) rfl
        replace hS : Grow W2 w5 := ⟨hS.os, hS.tape, hS.output, hS.size, hS.block⟩
        go_simp
        exact hK _ _ (Below.refl _ _) rfl
      refine steps_cons ?_ ?_
      · refine step_on rfl rfl ?_
        intro ev w5 hS hc hf hold hval a K ha hK
        have e29 : ev (.tmp 29) = .pointer (some ⟨g, 0, none⟩) := hval 4 29 (by kernel_rfl) rfl
        replace hS : Grow W2 w5 := ⟨hS.os, hS.tape, hS.output, hS.size, hS.block⟩
        go_simp
        exact hK _ _ (Below.refl _ _) rfl
      refine steps_cons ?_ ?_
      · refine step_on rfl rfl ?_
        intro ev w5 hS hc hf hold hval a K ha hK
        have e30 : ev (.tmp 30) = .pointer (some ⟨g, 1, none⟩) := hval 5 30 (by kernel_rfl) rfl
        replace hS : Grow W2 w5 := ⟨hS.os, hS.tape, hS.output, hS.size, hS.block⟩
        have c31 : w5.cell? ⟨g, 1, none⟩ = some (.int .i64 most) := ((F.mod.below hS F.mod.lt).cell 1).trans rfl
        go_simp
        exact hK _ _ (Below.refl _ _) rfl
      refine steps_cons ?_ ?_
      · refine step_on rfl rfl ?_
        intro ev w5 hS hc hf hold hval a K ha hK
        have e0 : ev (.tmp 0) = .pointer (some ⟨g, 0, none⟩) := hold 0 (by kernel_rfl)
        replace hS : Grow W2 w5 := ⟨hS.os, hS.tape, hS.output, hS.size, hS.block⟩
        go_simp
        exact hK _ _ (Below.refl _ _) rfl
      refine steps_cons ?_ ?_
      · refine step_on rfl rfl ?_
        intro ev w5 hS hc hf hold hval a K ha hK
        have e32 : ev (.tmp 32) = .pointer (some ⟨g, 0, none⟩) := hval 7 32 (by kernel_rfl) rfl
        replace hS : Grow W2 w5 := ⟨hS.os, hS.tape, hS.output, hS.size, hS.block⟩
        go_simp
        exact hK _ _ (Below.refl _ _) rfl
      refine steps_cons ?_ ?_
      · refine step_on rfl rfl ?_
        intro ev w5 hS hc hf hold hval a K ha hK
        have e33 : ev (.tmp 33) = .pointer (some ⟨g, 0, none⟩) := hval 8 33 (by kernel_rfl) rfl
        replace hS : Grow W2 w5 := ⟨hS.os, hS.tape, hS.output, hS.size, hS.block⟩
        go_simp
        exact hK _ _ (Below.refl _ _) rfl
      refine steps_cons ?_ ?_
      · refine step_on rfl rfl ?_
        intro ev w5 hS hc hf hold hval a K ha hK
        have e34 : ev (.tmp 34) = .pointer (some ⟨g, 0, none⟩) := hval 9 34 (by kernel_rfl) rfl
        replace hS : Grow W2 w5 := ⟨hS.os, hS.tape, hS.output, hS.size, hS.block⟩
        have c35 : w5.cell? ⟨g, 0, none⟩ = some (.pointer (some ⟨gp, 0, none⟩)) := ((F.mod.below hS F.mod.lt).cell 0).trans rfl
        go_simp
        exact hK _ _ (Below.refl _ _) rfl
      refine steps_cons ?_ ?_
      · refine step_on rfl rfl ?_
        intro ev w5 hS hc hf hold hval a K ha hK
        have e35 : ev (.tmp 35) = .pointer (some ⟨gp, 0, none⟩) := hval 10 35 (by kernel_rfl) rfl
        replace hS : Grow W2 w5 := ⟨hS.os, hS.tape, hS.output, hS.size, hS.block⟩
        go_simp
        exact hK _ _ (Below.refl _ _) rfl
      refine steps_cons ?_ ?_
      · refine step_on rfl rfl ?_
        intro ev w5 hS hc hf hold hval a K ha hK
        have e36 : ev (.tmp 36) = .pointer (some ⟨gp, 0, none⟩) := hval 11 36 (by kernel_rfl) rfl
        replace hS : Grow W2 w5 := ⟨hS.os, hS.tape, hS.output, hS.size, hS.block⟩
        go_simp
        exact hK _ _ (Below.refl _ _) rfl
      refine steps_cons ?_ ?_
      · refine step_on rfl rfl ?_
        intro ev w5 hS hc hf hold hval a K ha hK
        have e37 : ev (.tmp 37) = .pointer (some ⟨gp, 0, none⟩) := hval 12 37 (by kernel_rfl) rfl
        replace hS : Grow W2 w5 := ⟨hS.os, hS.tape, hS.output, hS.size, hS.block⟩
        have c38 : w5.cell? ⟨gp, 0, none⟩ = some (.slice A n c) := ((F.pl.below hS F.pl.lt).cell 0).trans rfl
        go_simp
        exact hK _ _ (Below.refl _ _) rfl
      refine steps_cons ?_ ?_
      · refine step_on rfl rfl ?_
        intro ev w5 hS hc hf hold hval a K ha hK
        have e38 : ev (.tmp 38) = .slice A n c := hval 13 38 (by kernel_rfl) rfl
        replace hS : Grow W2 w5 := ⟨hS.os, hS.tape, hS.output, hS.size, hS.block⟩
        go_simp
        exact hK _ _ (Below.refl _ _) rfl
      refine steps_cons ?_ ?_
      · refine step_on rfl rfl ?_
        intro ev w5 hS hc hf hold hval a K ha hK
        have e31 : ev (.tmp 31) = .int .i64 most := hval 6 31 (by kernel_rfl) rfl
        have e39 : ev (.tmp 39) = .int .i64 (n : Int) := hval 14 39 (by kernel_rfl) rfl
        replace hS : Grow W2 w5 := ⟨hS.os, hS.tape, hS.output, hS.size, hS.block⟩
        go_simp
        exact hK _ _ (Below.refl _ _) (i64_eq (by rw [IntKind.wrap_i64]; omega))
      refine steps_cons ?_ ?_
      · refine step_on rfl rfl ?_
        intro ev w5 hS hc hf hold hval a K ha hK
        have e27 : ev (.tmp 27) = .int .i64 (nd : Int) := hval 2 27 (by kernel_rfl) rfl
        have e40 : ev (.tmp 40) = .int .i64 (most - (n : Int)) := hval 15 40 (by kernel_rfl) rfl
        replace hS : Grow W2 w5 := ⟨hS.os, hS.tape, hS.output, hS.size, hS.block⟩
        go_simp
        exact hK _ _ (Below.refl _ _) (bool_eq (by simp <;> omega))
      refine steps_cons ?_ ?_
      · refine step_on rfl rfl ?_
        intro ev w5 hS hc hf hold hval a K ha hK
        have e41 : ev (.tmp 41) = .bool false := hval 16 41 (by kernel_rfl) rfl
        replace hS : Grow W2 w5 := ⟨hS.os, hS.tape, hS.output, hS.size, hS.block⟩
        go_simp
        exact hK _ _ (Below.refl _ _) rfl
      exact steps_nil
    · intro ev w6 hS hval
      replace hS : Grow W2 w6 := ⟨hS.os, hS.tape, hS.output, hS.size, hS.block⟩
      have e24 : ev (.tmp 24) = .bool false := hval 17 24 rfl
      simp only [putsOf, List.foldl_cons, List.foldl_nil, Act.put, List.setIfInBounds_toArray, List.set_cons_zero, List.set_cons_succ]
      rw [e24]
      clear hval
      have F6 := F.grow hS
      clear F hS
      revert F6
      generalize w6 = W3
      intro F
      go_wp2
      refine wp_region_any (by kernel_rfl) ?_
      refine wpAny_keep [43, 44, 45, 46, 47, 48, 49, 50, 51] (fun b => b = gp) 8 [8] (fun w1 => Bk w1 gp 47 #[.slice A n c]) (splV gp (w.heap.size + 2) N T2) [is (.pointer (some ⟨g, 0, none⟩)), is (.pointer (some ⟨g, 0, none⟩)), is (.pointer (some ⟨g, 0, none⟩)), is (.pointer (some ⟨gp, 0, none⟩)), is (.pointer (some ⟨w.heap.size, 1, none⟩)), is (.int .i64 (p : Int)), is (.pointer (some ⟨w.heap.size, 3, none⟩)), is (.slice AD nd cd), anyV] _ _ rfl (by kernel_rfl) (by kernel_rfl) (F.pl) (fun w1 w2 h _ hg => Bk.below h hg h.lt) (splV_stb _ _ _ _) (by repeat' (first | exact stbk_is _ _ | exact stbk_any _ | (refine List.forall_mem_cons.2 ⟨?_, ?_⟩) | (intro p hp; cases hp))) ?_ ?_
      · refine steps_of ?_
        refine steps_cons ?_ ?_
        · refine step_on3 rfl rfl ?_
          intro ev w5 hS hU hc hf hold hval a K ha hK
          replace hS : Keep (fun b => b = gp) W3 w5 := ⟨hS.os, hS.tape, hS.output, hS.size, hS.block⟩
          clear hU
          have e0 : ev (.tmp 0) = .pointer (some ⟨g, 0, none⟩) := hold 0 (by kernel_rfl)
          go_simp
          exact hK _ _ (kstep_grow (Below.refl _ _)) rfl
        refine steps_cons ?_ ?_
        · refine step_on3 rfl rfl ?_
          intro ev w5 hS hU hc hf hold hval a K ha hK
          replace hS : Keep (fun b => b = gp) W3 w5 := ⟨hS.os, hS.tape, hS.output, hS.size, hS.block⟩
          clear hU
          have e43 : ev (.tmp 43) = .pointer (some ⟨g, 0, none⟩) := hval 0 43 (by kernel_rfl) rfl
          go_simp
          exact hK _ _ (kstep_grow (Below.refl _ _)) rfl
        refine steps_cons ?_ ?_
        · refine step_on3 rfl rfl ?_
          intro ev w5 hS hU hc hf hold hval a K ha hK
          replace hS : Keep (fun b => b = gp) W3 w5 := ⟨hS.os, hS.tape, hS.output, hS.size, hS.block⟩
          clear hU
          have e44 : ev (.tmp 44) = .pointer (some ⟨g, 0, none⟩) := hval 1 44 (by kernel_rfl) rfl
          go_simp
          exact hK _ _ (kstep_grow (Below.refl _ _)) rfl
        refine steps_cons ?_ ?_
        · refine step_on3 rfl rfl ?_
          intro ev w5 hS hU hc hf hold hval a K ha hK
          replace hS : Keep (fun b => b = gp) W3 w5 := ⟨hS.os, hS.tape, hS.output, hS.size, hS.block⟩
          clear hU
          have e45 : ev (.tmp 45) = .pointer (some ⟨g, 0, none⟩) := hval 2 45 (by kernel_rfl) rfl
          have c46 : w5.cell? ⟨g, 0, none⟩ = some (.pointer (some ⟨gp, 0, none⟩)) := ((hS.bk F.mod (fun h => F.gne h)).cell 0).trans rfl
          go_simp
          exact hK _ _ (kstep_grow (Below.refl _ _)) rfl
        refine steps_cons ?_ ?_
        · refine step_on3 rfl rfl ?_
          intro ev w5 hS hU hc hf hold hval a K ha hK
          replace hS : Keep (fun b => b = gp) W3 w5 := ⟨hS.os, hS.tape, hS.output, hS.size, hS.block⟩
          clear hU
          have e3 : ev (.tmp 3) = .pointer (some ⟨w.heap.size, 0, none⟩) := hold 3 (by kernel_rfl)
          go_simp
          exact hK _ _ (kstep_grow (Below.refl _ _)) rfl
        refine steps_cons ?_ ?_
        · refine step_on3 rfl rfl ?_
          intro ev w5 hS hU hc hf hold hval a K ha hK
          replace hS : Keep (fun b => b = gp) W3 w5 := ⟨hS.os, hS.tape, hS.output, hS.size, hS.block⟩
          clear hU
          have e47 : ev (.tmp 47) = .pointer (some ⟨w.heap.size, 1, none⟩) := hval 4 47 (by kernel_rfl) rfl
          have c48 : w5.cell? ⟨w.heap.size, 1, none⟩ = some (.int .i64 (p : Int)) := ((hS.bk F.step (fun h => absurd (show w.heap.size = gp from h) (by have := F.gpl; omega))).cell 1).trans rfl
          go_simp
          exact hK _ _ (kstep_grow (Below.refl _ _)) rfl
        refine steps_cons ?_ ?_
        · refine step_on3 rfl rfl ?_
          intro ev w5 hS hU hc hf hold hval a K ha hK
          replace hS : Keep (fun b => b = gp) W3 w5 := ⟨hS.os, hS.tape, hS.output, hS.size, hS.block⟩
          clear hU
          have e3 : ev (.tmp 3) = .pointer (some ⟨w.heap.size, 0, none⟩) := hold 3 (by kernel_rfl)
          go_simp
          exact hK _ _ (kstep_grow (Below.refl _ _)) rfl
        refine steps_cons ?_ ?_
        · refine step_on3 rfl rfl ?_
          intro ev w5 hS hU hc hf hold hval a K ha hK
          replace hS : Keep (fun b => b = gp) W3 w5 := ⟨hS.os, hS.tape, hS.output, hS.size, hS.block⟩
          clear hU
          have e49 : ev (.tmp 49) = .pointer (some ⟨w.heap.size, 3, none⟩) := hval 6 49 (by kernel_rfl) rfl
          have c50 : w5.cell? ⟨w.heap.size, 3, none⟩ = some (.slice AD nd cd) := ((hS.bk F.step (fun h => absurd (show w.heap.size = gp from h) (by have := F.gpl; omega))).cell 3).trans rfl
          go_simp
          exact hK _ _ (kstep_grow (Below.refl _ _)) rfl
        refine steps_cons ?_ ?_
        · refine step_on3 rfl rfl ?_
          intro ev w5 hS hU hc hf hold hval a K ha hK
          replace hS : Keep (fun b => b = gp) W3 w5 := ⟨hS.os, hS.tape, hS.output, hS.size, hS.block⟩
          have hpre := hU rfl
          clear hU
          have e46 : ev (.tmp 46) = .pointer (some ⟨gp, 0, none⟩) := hval 3 46 (by kernel_rfl) rfl
          have e48 : ev (.tmp 48) = .int .i64 (p : Int) := hval 5 48 (by kernel_rfl) rfl
          have e50 : ev (.tmp 50) = .slice AD nd cd := hval 7 50 (by kernel_rfl) rfl
          go_simp
          have hr5 := Rd.keepF F.rT hS F.low.size Hne.out
          have hd5 := Rd.keepF F.rD hS F.low.size Hdne.out
          refine (splice_any gp A AD n c nd cd p 0 N w5.heap.size T D T2 w5 hpre hr5 Hne.out hnc hd5 (Nat.le_refl _) Hdne.out q hq hqn HT2.out HN.out (by omega) hN2).mono ?_
          rintro e w8 ⟨rfl, hk8, A9, c9, hb9, hm9⟩
          exact hK _ _ (kstep_keep hk8) ⟨rfl, A9, c9, hb9, hm9.mono (by have := hS.size; have := F.res.lt; omega)⟩
        exact steps_nil
      · intro ev w6 hS hval hall
        replace hS : Keep (fun b => b = gp) W3 w6 := ⟨hS.os, hS.tape, hS.output, hS.size, hS.block⟩
        obtain ⟨vJ, pJ⟩ : ∃ v, (splV gp (w.heap.size + 2) N T2) v w6 := hall 8 (by decide)
        simp only [putsOf, List.foldl_cons, List.foldl_nil, Act.put, List.setIfInBounds_toArray, List.set_cons_zero, List.set_cons_succ]
        clear hval hall
        obtain ⟨rfl, A9, c9, hb9, hm9⟩ := pJ
        have hgs := F.gpl
        have hres := hS.bk F.res (fun h => absurd (show w.heap.size + 1 = gp from h) (by omega))
        have r0 : w6.cell? ⟨w.heap.size + 1, 0, none⟩ = some (.int .i64 0) := (hres.cell 0).trans rfl
        have f0 := hres.frozen 0
        have r1 : w6.cell? ⟨w.heap.size + 1, 1, none⟩ = some (.int .i64 0) := (hres.cell 1).trans rfl
        have f1 := hres.frozen 1
        have r2 : w6.cell? ⟨w.heap.size + 1, 2, none⟩ = some (.slice none 0 0) := (hres.cell 2).trans rfl
        have f2 := hres.frozen 2
        have r3 : w6.cell? ⟨w.heap.size + 1, 3, none⟩ = some (.slice none 0 0) := (hres.cell 3).trans rfl
        have f3 := hres.frozen 3
        go_wp2
        have hbl := keep_set (v0 := .int .i64 0) (v1 := .int .i64 0) (v2 := .slice none 0 0) (v3 := .slice none 0 0) (Nat.le_succ w.heap.size) ((Keep.of_below F.low).trans hS)
        have hset := at_set (W := w6) (s := w.heap.size + 1) (v0 := .int .i64 0) (v1 := .int .i64 0) (v2 := .slice none 0 0) (v3 := .slice none 0 0)
        exact do_ret (s := w.heap.size + 1) (A1 := none) (c1 := 0) (A2 := none) (c2 := 0) (.inl rfl) rfl (res_set hres) hbl (made_nil _ _ _) (made_nil _ _ _) (pls_made (hset.bk hb9 (fun h => absurd (show gp = w.heap.size + 1 from h) (by omega))) (hm9.keepF hset (fun b hb => by subst hb; omega)) HN.out (by omega))
set_option maxRecDepth 100000 in
set_option maxHeartbeats 4000000 in
theorem Do_del_ok (g gp : Nat) (AD : Option Addr) (nd cd B : Nat) (p k : Nat) (most : Int) (T D : List UInt8) (w : World) (hg : Bk w g 49 #[.pointer (some ⟨gp, 0, none⟩), .int .i64 most]) (hp : PlS w gp T)
    (hd : Rd w B 1 AD nd (D.map bv)) (hB : B ≤ w.heap.size) (hdne : 0 < nd → ∀ a, AD = some a → a.block ≠ gp) (hgne : g ≠ gp) (hT : T.length ≤ 549755813888) (hD : nd ≤ 549755813888) (hpb : -9223372036854775808 ≤ (p : Int) ∧ (p : Int) ≤ 9223372036854775807) (hkb : -9223372036854775808 ≤ (k : Int) ∧ (k : Int) ≤ 9223372036854775807) (hmb : 0 ≤ most ∧ most ≤ 2147483648)
    (hhas : hasB T.length p k = true) :
    Calls Try.prog 10 #[.pointer (some ⟨g, 0, none⟩), stepV 2 p k AD nd cd] w fun e w' => DoTold gp (T.take p ++ ([] ++ T.drop (p + k))) ⟨0, 0, [], []⟩ w w' e := by
  have Hp := Lib.hid hp
  obtain ⟨A, c, hb, hr, hnc, hne⟩ := hp
  obtain ⟨n, hn⟩ : ∃ n, T.length = n := ⟨_, rfl⟩
  rw [hn] at hb hr hnc hT hne
  rw [hn] at hhas
  have hDl : D.length = nd := by simpa using hd.1
  have F := do_start (kind := 2) (p := p) (k := k) (cd := cd) hg hb hr hd hB hgne
  have HF := Lib.hid F
  have Hn := Lib.hid hn
  have Hne := Lib.hid hne
  have Hdne := Lib.hid hdne
  clear hb hr hd hg F hn hne hdne
  obtain ⟨q, hq⟩ : ∃ q, p + k = q := ⟨_, rfl⟩
  rw [hq]
  obtain ⟨T2, hT2⟩ : ∃ T2, T.take p ++ ([] ++ T.drop q) = T2 := ⟨_, rfl⟩
  rw [hT2]
  obtain ⟨N, hN⟩ : ∃ N, T2.length = N := ⟨_, rfl⟩
  have hqn : q ≤ n := by
    unfold hasB at hhas
    have := of_decide_eq_true hhas
    omega
  have hN2 : N ≤ 1099511627776 := by
    rw [← hN, ← hT2]
    have := Hn.out
    simp only [List.length_append, List.length_take, List.length_drop, List.length_nil]
    omega
  have HT2 := Lib.hid hT2
  have HN := Lib.hid hN
  clear hT2 hN
  unfold stepV
  go_enter Try.func10, Try.ntmps10
  go_wp2
  obtain ⟨W, hW⟩ : ∃ W, (w.alloc (.cells #[.int .i64 2, .int .i64 p, .int .i64 k, .slice AD nd cd] 32)).alloc (.cells #[.int .i64 0, .int .i64 0, .slice none 0 0, .slice none 0 0] 29) = W := ⟨_, rfl⟩
  rw [hW] at HF ⊢
  have F := HF.out
  clear hW HF
  refine wp_region_any (by kernel_rfl) ?_
  refine wpAny_loose2 [55, 56, 57, 58, 59, 60, 61, 62, 63, 64] Grow (Vs [is (.pointer (some ⟨g, 0, none⟩)), is (.pointer (some ⟨g, 0, none⟩)), is (.pointer (some ⟨g, 0, none⟩)), is (.pointer (some ⟨gp, 0, none⟩)), is (.pointer (some ⟨w.heap.size, 1, none⟩)), is (.int .i64 p), is (.pointer (some ⟨w.heap.size, 2, none⟩)), is (.int .i64 k), is (.bool true), is (.bool false)]) _ _ rfl (by kernel_rfl) (Below.refl _ _) (fun _ _ => Grow.trans) (stb_all (by repeat' (first | exact stb_is _ | exact stb_row _ _ _ | (refine List.forall_mem_cons.2 ⟨?_, ?_⟩) | (intro p hp; cases hp)))) ?_ ?_
  · refine steps_of ?_
    refine steps_cons ?_ ?_
    · refine step_on rfl rfl ?_
      intro ev w5 hS hc hf hold hval a K ha hK
      have e0 : ev (.tmp 0) = .pointer (some ⟨g, 0, none⟩) := hold 0 (by kernel_rfl)
      replace hS : Grow W w5 := ⟨hS.os, hS.tape, hS.output, hS.size, hS.block⟩
      go_simp
      exact hK _ _ (Below.refl _ _) rfl
    refine steps_cons ?_ ?_
    · refine step_on rfl rfl ?_
      intro ev w5 hS hc hf hold hval a K ha hK
      have e55 : ev (.tmp 55) = .pointer (some ⟨g, 0, none⟩) := hval 0 55 (by kernel_rfl) rfl
      replace hS : Grow W w5 := ⟨hS.os, hS.tape, hS.output, hS.size, hS.block⟩
      go_simp
      exact hK _ _ (Below.refl _ _) rfl
    refine steps_cons ?_ ?_
    · refine step_on rfl rfl ?_
      intro ev w5 hS hc hf hold hval a K ha hK
      have e56 : ev (.tmp 56) = .pointer (some ⟨g, 0, none⟩) := hval 1 56 (by kernel_rfl) rfl
      replace hS : Grow W w5 := ⟨hS.os, hS.tape, hS.output, hS.size, hS.block⟩
      go_simp
      exact hK _ _ (Below.refl _ _) rfl
    refine steps_cons ?_ ?_
    · refine step_on rfl rfl ?_
      intro ev w5 hS hc hf hold hval a K ha hK
      have e57 : ev (.tmp 57) = .pointer (some ⟨g, 0, none⟩) := hval 2 57 (by kernel_rfl) rfl
      replace hS : Grow W w5 := ⟨hS.os, hS.tape, hS.output, hS.size, hS.block⟩
      have c58 : w5.cell? ⟨g, 0, none⟩ = some (.pointer (some ⟨gp, 0, none⟩)) := ((F.mod.below hS F.mod.lt).cell 0).trans rfl
      go_simp
      exact hK _ _ (Below.refl _ _) rfl
    refine steps_cons ?_ ?_
    · refine step_on rfl rfl ?_
      intro ev w5 hS hc hf hold hval a K ha hK
      have e3 : ev (.tmp 3) = .pointer (some ⟨w.heap.size, 0, none⟩) := hold 3 (by kernel_rfl)
      replace hS : Grow W w5 := ⟨hS.os, hS.tape, hS.output, hS.size, hS.block⟩
      go_simp
      exact hK _ _ (Below.refl _ _) rfl
    refine steps_cons ?_ ?_
    · refine step_on rfl rfl ?_
      intro ev w5 hS hc hf hold hval a K ha hK
      have e59 : ev (.tmp 59) = .pointer (some ⟨w.heap.size, 1, none⟩) := hval 4 59 (by kernel_rfl) rfl
      replace hS : Grow W w5 := ⟨hS.os, hS.tape, hS.output, hS.size, hS.block⟩
      have c60 : w5.cell? ⟨w.heap.size, 1, none⟩ = some (.int .i64 p) := ((F.step.below hS F.step.lt).cell 1).trans rfl
      go_simp
      exact hK _ _ (Below.refl _ _) rfl
    refine steps_cons ?_ ?_
    · refine step_on rfl rfl ?_
      intro ev w5 hS hc hf hold hval a K ha hK
      have e3 : ev (.tmp 3) = .pointer (some ⟨w.heap.size, 0, none⟩) := hold 3 (by kernel_rfl)
      replace hS : Grow W w5 := ⟨hS.os, hS.tape, hS.output, hS.size, hS.block⟩
      go_simp
      exact hK _ _ (Below.refl _ _) rfl
    refine steps_cons ?_ ?_
    · refine step_on rfl rfl ?_
      intro ev w5 hS hc hf hold hval a K ha hK
      have e61 : ev (.tmp 61) = .pointer (some ⟨w.heap.size, 2, none⟩) := hval 6 61 (by kernel_rfl) rfl
      replace hS : Grow W w5 := ⟨hS.os, hS.tape, hS.output, hS.size, hS.block⟩
      have c62 : w5.cell? ⟨w.heap.size, 2, none⟩ = some (.int .i64 k) := ((F.step.below hS F.step.lt).cell 2).trans rfl
      go_simp
      exact hK _ _ (Below.refl _ _) rfl
    refine steps_cons ?_ ?_
    · refine step_on rfl rfl ?_
      intro ev w5 hS hc hf hold hval a K ha hK
      have e58 : ev (.tmp 58) = .pointer (some ⟨gp, 0, none⟩) := hval 3 58 (by kernel_rfl) rfl
      have e60 : ev (.tmp 60) = .int .i64 p := hval 5 60 (by kernel_rfl) rfl
      have e62 : ev (.tmp 62) = .int .i64 k := hval 7 62 (by kernel_rfl) rfl
      replace hS : Grow W w5 := ⟨hS.os, hS.tape, hS.output, hS.size, hS.block⟩
      go_simp
      refine (has_any gp A n c p (k) w5 (((F.pl.below hS F.pl.lt).cell 0).trans rfl) (by omega) hpb hkb).mono ?_
      rintro e w8 ⟨rfl, rfl⟩
      exact hK _ _ (Below.refl _ _) (bool_eq hhas)
    refine steps_cons ?_ ?_
    · refine step_on rfl rfl ?_
      intro ev w5 hS hc hf hold hval a K ha hK
      have e63 : ev (.tmp 63) = .bool true := hval 8 63 (by kernel_rfl) rfl
      replace hS : Grow W w5 := ⟨hS.os, hS.tape, hS.output, hS.size, hS.block⟩
      go_simp
      exact hK _ _ (Below.refl _ _) rfl
    exact steps_nil
  · intro ev w6 hS hval
    replace hS : Grow W w6 := ⟨hS.os, hS.tape, hS.output, hS.size, hS.block⟩
    have e64 : ev (.tmp 64) = .bool false := hval 9 64 rfl
    simp only [putsOf, List.foldl_cons, List.foldl_nil, Act.put, List.setIfInBounds_toArray, List.set_cons_zero, List.set_cons_succ]
    rw [e64]
    clear hval
    have F6 := F.grow hS
    clear F hS
    revert F6
    generalize w6 = W2
    intro F
    have c66 : W2.cell? ⟨w.heap.size, 0, none⟩ = some (.int .i64 2) := (F.step.cell 0).trans rfl
    go_wp2
    refine wp_region_any (by kernel_rfl) ?_
    refine wpAny_keep [86, 87, 88, 89, 90, 91, 92, 93, 94] (fun b => b = gp) 8 [8] (fun w1 => Bk w1 gp 47 #[.slice A n c]) (splV gp (w.heap.size + 2) N T2) [is (.pointer (some ⟨g, 0, none⟩)), is (.pointer (some ⟨g, 0, none⟩)), is (.pointer (some ⟨g, 0, none⟩)), is (.pointer (some ⟨gp, 0, none⟩)), is (.pointer (some ⟨w.heap.size, 1, none⟩)), is (.int .i64 (p : Int)), is (.pointer (some ⟨w.heap.size, 2, none⟩)), is (.int .i64 (k : Int)), anyV] _ _ rfl (by kernel_rfl) (by kernel_rfl) (F.pl) (fun w1 w2 h _ hg => Bk.below h hg h.lt) (splV_stb _ _ _ _) (by repeat' (first | exact stbk_is _ _ | exact stbk_any _ | (refine List.forall_mem_cons.2 ⟨?_, ?_⟩) | (intro p hp; cases hp))) ?_ ?_
    · refine steps_of ?_
      refine steps_cons ?_ ?_
      · refine step_on3 rfl rfl ?_
        intro ev w5 hS hU hc hf hold hval a K ha hK
        replace hS : Keep (fun b => b = gp) W2 w5 := ⟨hS.os, hS.tape, hS.output, hS.size, hS.block⟩
        clear hU
        have e0 : ev (.tmp 0) = .pointer (some ⟨g, 0, none⟩) := hold 0 (by kernel_rfl)
        go_simp
        exact hK _ _ (kstep_grow (Below.refl _ _)) rfl
      refine steps_cons ?_ ?_
      · refine step_on3 rfl rfl ?_
        intro ev w5 hS hU hc hf hold hval a K ha hK
        replace hS : Keep (fun b => b = gp) W2 w5 := ⟨hS.os, hS.tape, hS.output, hS.size, hS.block⟩
        clear hU
        have e86 : ev (.tmp 86) = .pointer (some ⟨g, 0, none⟩) := hval 0 86 (by kernel_rfl) rfl
        go_simp
        exact hK _ _ (kstep_grow (Below.refl _ _)) rfl
      refine steps_cons ?_ ?_
      · refine step_on3 rfl rfl ?_
        intro ev w5 hS hU hc hf hold hval a K ha hK
        replace hS : Keep (fun b => b = gp) W2 w5 := ⟨hS.os, hS.tape, hS.output, hS.size, hS.block⟩
        clear hU
        have e87 : ev (.tmp 87) = .pointer (some ⟨g, 0, none⟩) := hval 1 87 (by kernel_rfl) rfl
        go_simp
        exact hK _ _ (kstep_grow (Below.refl _ _)) rfl
      refine steps_cons ?_ ?_
      · refine step_on3 rfl rfl ?_
        intro ev w5 hS hU hc hf hold hval a K ha hK
        replace hS : Keep (fun b => b = gp) W2 w5 := ⟨hS.os, hS.tape, hS.output, hS.size, hS.block⟩
        clear hU
        have e88 : ev (.tmp 88) = .pointer (some ⟨g, 0, none⟩) := hval 2 88 (by kernel_rfl) rfl
        have c89 : w5.cell? ⟨g, 0, none⟩ = some (.pointer (some ⟨gp, 0, none⟩)) := ((hS.bk F.mod (fun h => F.gne h)).cell 0).trans rfl
        go_simp
        exact hK _ _ (kstep_grow (Below.refl _ _)) rfl
      refine steps_cons ?_ ?_
      · refine step_on3 rfl rfl ?_
        intro ev w5 hS hU hc hf hold hval a K ha hK
        replace hS : Keep (fun b => b = gp) W2 w5 := ⟨hS.os, hS.tape, hS.output, hS.size, hS.block⟩
        clear hU
        have e3 : ev (.tmp 3) = .pointer (some ⟨w.heap.size, 0, none⟩) := hold 3 (by kernel_rfl)
        go_simp
        exact hK _ _ (kstep_grow (Below.refl _ _)) rfl
      refine steps_cons ?_ ?_
      · refine step_on3 rfl rfl ?_
        intro ev w5 hS hU hc hf hold hval a K ha hK
        replace hS : Keep (fun b => b = gp) W2 w5 := ⟨hS.os, hS.tape, hS.output, hS.size, hS.block⟩
        clear hU
        have e90 : ev (.tmp 90) = .pointer (some ⟨w.heap.size, 1, none⟩) := hval 4 90 (by kernel_rfl) rfl
        have c91 : w5.cell? ⟨w.heap.size, 1, none⟩ = some (.int .i64 (p : Int)) := ((hS.bk F.step (fun h => absurd (show w.heap.size = gp from h) (by have := F.gpl; omega))).cell 1).trans rfl
        go_simp
        exact hK _ _ (kstep_grow (Below.refl _ _)) rfl
      refine steps_cons ?_ ?_
      · refine step_on3 rfl rfl ?_
        intro ev w5 hS hU hc hf hold hval a K ha hK
        replace hS : Keep (fun b => b = gp) W2 w5 := ⟨hS.os, hS.tape, hS.output, hS.size, hS.block⟩
        clear hU
        have e3 : ev (.tmp 3) = .pointer (some ⟨w.heap.size, 0, none⟩) := hold 3 (by kernel_rfl)
        go_simp
        exact hK _ _ (kstep_grow (Below.refl _ _)) rfl
      refine steps_cons ?_ ?_
      · refine step_on3 rfl rfl ?_
        intro ev w5 hS hU hc hf hold hval a K ha hK
        replace hS : Keep (fun b => b = gp) W2 w5 := ⟨hS.os, hS.tape, hS.output, hS.size, hS.block⟩
        clear hU
        have e92 : ev (.tmp 92) = .pointer (some ⟨w.heap.size, 2, none⟩) := hval 6 92 (by kernel_rfl) rfl
        have c93 : w5.cell? ⟨w.heap.size, 2, none⟩ = some (.int .i64 (k : Int)) := ((hS.bk F.step (fun h => absurd (show w.heap.size = gp from h) (by have := F.gpl; omega))).cell 2).trans rfl
        go_simp
        exact hK _ _ (kstep_grow (Below.refl _ _)) rfl
      refine steps_cons ?_ ?_
      · refine step_on3 rfl rfl ?_
        intro ev w5 hS hU hc hf hold hval a K ha hK
        replace hS : Keep (fun b => b = gp) W2 w5 := ⟨hS.os, hS.tape, hS.output, hS.size, hS.block⟩
        have hpre := hU rfl
        clear hU
        have e89 : ev (.tmp 89) = .pointer (some ⟨gp, 0, none⟩) := hval 3 89 (by kernel_rfl) rfl
        have e91 : ev (.tmp 91) = .int .i64 (p : Int) := hval 5 91 (by kernel_rfl) rfl
        have e93 : ev (.tmp 93) = .int .i64 (k : Int) := hval 7 93 (by kernel_rfl) rfl
        go_simp
        have hr5 := Rd.keepF F.rT hS F.low.size Hne.out
        have hd5 := Rd.keepF F.rD hS F.low.size Hdne.out
        refine (splice_any gp A none n c 0 0 p k N w5.heap.size T [] T2 w5 hpre hr5 Hne.out hnc (Rd.nil _ _ _ _) (Nat.le_refl _) (fun _ a ha => by cases ha) q hq hqn HT2.out HN.out (by omega) hN2).mono ?_
        rintro e w8 ⟨rfl, hk8, A9, c9, hb9, hm9⟩
        exact hK _ _ (kstep_keep hk8) ⟨rfl, A9, c9, hb9, hm9.mono (by have := hS.size; have := F.res.lt; omega)⟩
      exact steps_nil
    · intro ev w6 hS hval hall
      replace hS : Keep (fun b => b = gp) W2 w6 := ⟨hS.os, hS.tape, hS.output, hS.size, hS.block⟩
      obtain ⟨vJ, pJ⟩ : ∃ v, (splV gp (w.heap.size + 2) N T2) v w6 := hall 8 (by decide)
      simp only [putsOf, List.foldl_cons, List.foldl_nil, Act.put, List.setIfInBounds_toArray, List.set_cons_zero, List.set_cons_succ]
      clear hval hall
      obtain ⟨rfl, A9, c9, hb9, hm9⟩ := pJ
      have hgs := F.gpl
      have hres := hS.bk F.res (fun h => absurd (show w.heap.size + 1 = gp from h) (by omega))
      have r0 : w6.cell? ⟨w.heap.size + 1, 0, none⟩ = some (.int .i64 0) := (hres.cell 0).trans rfl
      have f0 := hres.frozen 0
      have r1 : w6.cell? ⟨w.heap.size + 1, 1, none⟩ = some (.int .i64 0) := (hres.cell 1).trans rfl
      have f1 := hres.frozen 1
      have r2 : w6.cell? ⟨w.heap.size + 1, 2, none⟩ = some (.slice none 0 0) := (hres.cell 2).trans rfl
      have f2 := hres.frozen 2
      have r3 : w6.cell? ⟨w.heap.size + 1, 3, none⟩ = some (.slice none 0 0) := (hres.cell 3).trans rfl
      have f3 := hres.frozen 3
      go_wp2
      have hbl := keep_set (v0 := .int .i64 0) (v1 := .int .i64 0) (v2 := .slice none 0 0) (v3 := .slice none 0 0) (Nat.le_succ w.heap.size) ((Keep.of_below F.low).trans hS)
      have hset := at_set (W := w6) (s := w.heap.size + 1) (v0 := .int .i64 0) (v1 := .int .i64 0) (v2 := .slice none 0 0) (v3 := .slice none 0 0)
      exact do_ret (s := w.heap.size + 1) (A1 := none) (c1 := 0) (A2 := none) (c2 := 0) (.inl rfl) rfl (res_set hres) hbl (made_nil _ _ _) (made_nil _ _ _) (pls_made (hset.bk hb9 (fun h => absurd (show gp = w.heap.size + 1 from h) (by omega))) (hm9.keepF hset (fun b hb => by subst hb; omega)) HN.out (by omega))
set_option maxRecDepth 100000 in
set_option maxHeartbeats 4000000 in
theorem Do_set_ok (g gp : Nat) (AD : Option Addr) (nd cd B : Nat) (p : Nat) (k : Int) (most : Int) (T D : List UInt8) (w : World) (hg : Bk w g 49 #[.pointer (some ⟨gp, 0, none⟩), .int .i64 most]) (hp : PlS w gp T)
    (hd : Rd w B 1 AD nd (D.map bv)) (hB : B ≤ w.heap.size) (hdne : 0 < nd → ∀ a, AD = some a → a.block ≠ gp) (hgne : g ≠ gp) (hT : T.length ≤ 549755813888) (hD : nd ≤ 549755813888) (hpb : -9223372036854775808 ≤ (p : Int) ∧ (p : Int) ≤ 9223372036854775807) (hkb : -9223372036854775808 ≤ (k : Int) ∧ (k : Int) ≤ 9223372036854775807) (hmb : 0 ≤ most ∧ most ≤ 2147483648)
    (hhas : hasB T.length p nd = true) :
    Calls Try.prog 10 #[.pointer (some ⟨g, 0, none⟩), stepV 3 p k AD nd cd] w fun e w' => DoTold gp (T.take p ++ (D ++ T.drop (p + nd))) ⟨0, 0, [], []⟩ w w' e := by
  have Hp := Lib.hid hp
  obtain ⟨A, c, hb, hr, hnc, hne⟩ := hp
  obtain ⟨n, hn⟩ : ∃ n, T.length = n := ⟨_, rfl⟩
  rw [hn] at hb hr hnc hT hne
  rw [hn] at hhas
  have hDl : D.length = nd := by simpa using hd.1
  have F := do_start (kind := 3) (p := p) (k := k) (cd := cd) hg hb hr hd hB hgne
  have HF := Lib.hid F
  have Hn := Lib.hid hn
  have Hne := Lib.hid hne
  have Hdne := Lib.hid hdne
  clear hb hr hd hg F hn hne hdne
  obtain ⟨q, hq⟩ : ∃ q, p + nd = q := ⟨_, rfl⟩
  rw [hq]
  obtain ⟨T2, hT2⟩ : ∃ T2, T.take p ++ (D ++ T.drop q) = T2 := ⟨_, rfl⟩
  rw [hT2]
  obtain ⟨N, hN⟩ : ∃ N, T2.length = N := ⟨_, rfl⟩
  have hqn : q ≤ n := by
    unfold hasB at hhas
    have := of_decide_eq_true hhas
    omega
  have hN2 : N ≤ 1099511627776 := by
    rw [← hN, ← hT2]
    have := Hn.out
    simp only [List.length_append, List.length_take, List.length_drop, List.length_nil]
    omega
  have HT2 := Lib.hid hT2
  have HN := Lib.hid hN
  clear hT2 hN
  unfold stepV
  go_enter Try.func10, Try.ntmps10
  go_wp2
  obtain ⟨W, hW⟩ : ∃ W, (w.alloc (.cells #[.int .i64 3, .int .i64 p, .int .i64 k, .slice AD nd cd] 32)).alloc (.cells #[.int .i64 0, .int .i64 0, .slice none 0 0, .slice none 0 0] 29) = W := ⟨_, rfl⟩
  rw [hW] at HF ⊢
  have F := HF.out
  clear hW HF
  refine wp_region_any (by kernel_rfl) ?_
  refine wpAny_loose2 [97, 98, 99, 100, 101, 102, 103, 104, 105, 106, 107] Grow (Vs [is (.pointer (some ⟨g, 0, none⟩)), is (.pointer (some ⟨g, 0, none⟩)), is (.pointer (some ⟨g, 0, none⟩)), is (.pointer (some ⟨gp, 0, none⟩)), is (.pointer (some ⟨w.heap.size, 1, none⟩)), is (.int .i64 p), is (.pointer (some ⟨w.heap.size, 3, none⟩)), is (.slice AD nd cd), is (.int .i64 (nd : Int)), is (.bool true), is (.bool false)]) _ _ rfl (by kernel_rfl) (Below.refl _ _) (fun _ _ => Grow.trans) (stb_all (by repeat' (first | exact stb_is _ | exact stb_row _ _ _ | (refine List.forall_mem_cons.2 ⟨?_, ?_⟩) | (intro p hp; cases hp)))) ?_ ?_
  · refine steps_of ?_
    refine steps_cons ?_ ?_
    · refine step_on rfl rfl ?_
      intro ev w5 hS hc hf hold hval a K ha hK
      have e0 : ev (.tmp 0) = .pointer (some ⟨g, 0, none⟩) := hold 0 (by kernel_rfl)
      replace hS : Grow W w5 := ⟨hS.os, hS.tape, hS.output, hS.size, hS.block⟩
      go_simp
      exact hK _ _ (Below.refl _ _) rfl
    refine steps_cons ?_ ?_
    · refine step_on rfl rfl ?_
      intro ev w5 hS hc hf hold hval a K ha hK
      have e97 : ev (.tmp 97) = .pointer (some ⟨g, 0, none⟩) := hval 0 97 (by kernel_rfl) rfl
      replace hS : Grow W w5 := ⟨hS.os, hS.tape, hS.output, hS.size, hS.block⟩
      go_simp
      exact hK _ _ (Below.refl _ _) rfl
    refine steps_cons ?_ ?_
    · refine step_on rfl rfl ?_
      intro ev w5 hS hc hf hold hval a K ha hK
      have e98 : ev (.tmp 98) = .pointer (some ⟨g, 0, none⟩) := hval 1 98 (by kernel_rfl) rfl
      replace hS : Grow W w5 := ⟨hS.os, hS.tape, hS.output, hS.size, hS.block⟩
      go_simp
      exact hK _ _ (Below.refl _ _) rfl
    refine steps_cons ?_ ?_
    · refine step_on rfl rfl ?_
      intro ev w5 hS hc hf hold hval a K ha hK
      have e99 : ev (.tmp 99) = .pointer (some ⟨g, 0, none⟩) := hval 2 99 (by kernel_rfl) rfl
      replace hS : Grow W w5 := ⟨hS.os, hS.tape, hS.output, hS.size, hS.block⟩
      have c100 : w5.cell? ⟨g, 0, none⟩ = some (.pointer (some ⟨gp, 0, none⟩)) := ((F.mod.below hS F.mod.lt).cell 0).trans rfl
      go_simp
      exact hK _ _ (Below.refl _ _) rfl
    refine steps_cons ?_ ?_
    · refine step_on rfl rfl ?_
      intro ev w5 hS hc hf hold hval a K ha hK
      have e3 : ev (.tmp 3) = .pointer (some ⟨w.heap.size, 0, none⟩) := hold 3 (by kernel_rfl)
      replace hS : Grow W w5 := ⟨hS.os, hS.tape, hS.output, hS.size, hS.block⟩
      go_simp
      exact hK _ _ (Below.refl _ _) rfl
    refine steps_cons ?_ ?_
    · refine step_on rfl rfl ?_
      intro ev w5 hS hc hf hold hval a K ha hK
      have e101 : ev (.tmp 101) = .pointer (some ⟨w.heap.size, 1, none⟩) := hval 4 101 (by kernel_rfl) rfl
      replace hS : Grow W w5 := ⟨hS.os, hS.tape, hS.output, hS.size, hS.block⟩
      have c102 : w5.cell? ⟨w.heap.size, 1, none⟩ = some (.int .i64 p) := ((F.step.below hS F.step.lt).cell 1).trans rfl
      go_simp
      exact hK _ _ (Below.refl _ _) rfl
    refine steps_cons ?_ ?_
    · refine step_on rfl rfl ?_
      intro ev w5 hS hc hf hold hval a K ha hK
      have e3 : ev (.tmp 3) = .pointer (some ⟨w.heap.size, 0, none⟩) := hold 3 (by kernel_rfl)
      replace hS : Grow W w5 := ⟨hS.os, hS.tape, hS.output, hS.size, hS.block⟩
      go_simp
      exact hK _ _ (Below.refl _ _) rfl
    refine steps_cons ?_ ?_
    · refine step_on rfl rfl ?_
      intro ev w5 hS hc hf hold hval a K ha hK
      have e103 : ev (.tmp 103) = .pointer (some ⟨w.heap.size, 3, none⟩) := hval 6 103 (by kernel_rfl) rfl
      replace hS : Grow W w5 := ⟨hS.os, hS.tape, hS.output, hS.size, hS.block⟩
      have c104 : w5.cell? ⟨w.heap.size, 3, none⟩ = some (.slice AD nd cd) := ((F.step.below hS F.step.lt).cell 3).trans rfl
      go_simp
      exact hK _ _ (Below.refl _ _) rfl
    refine steps_cons ?_ ?_
    · refine step_on rfl rfl ?_
      intro ev w5 hS hc hf hold hval a K ha hK
      have e104 : ev (.tmp 104) = .slice AD nd cd := hval 7 104 (by kernel_rfl) rfl
      replace hS : Grow W w5 := ⟨hS.os, hS.tape, hS.output, hS.size, hS.block⟩
      go_simp
      exact hK _ _ (Below.refl _ _) rfl
    refine steps_cons ?_ ?_
    · refine step_on rfl rfl ?_
      intro ev w5 hS hc hf hold hval a K ha hK
      have e100 : ev (.tmp 100) = .pointer (some ⟨gp, 0, none⟩) := hval 3 100 (by kernel_rfl) rfl
      have e102 : ev (.tmp 102) = .int .i64 p := hval 5 102 (by kernel_rfl) rfl
      have e105 : ev (.tmp 105) = .int .i64 (nd : Int) := hval 8 105 (by kernel_rfl) rfl
      replace hS : Grow W w5 := ⟨hS.os, hS.tape, hS.output, hS.size, hS.block⟩
      go_simp
      refine (has_any gp A n c p (nd) w5 (((F.pl.below hS F.pl.lt).cell 0).trans rfl) (by omega) hpb (by omega)).mono ?_
      rintro e w8 ⟨rfl, rfl⟩
      exact hK _ _ (Below.refl _ _) (bool_eq hhas)
    refine steps_cons ?_ ?_
    · refine step_on rfl rfl ?_
      intro ev w5 hS hc hf hold hval a K ha hK
      have e106 : ev (.tmp 106) = .bool true := hval 9 106 (by kernel_rfl) rfl
      replace hS : Grow W w5 := ⟨hS.os, hS.tape, hS.output, hS.size, hS.block⟩
      go_simp
      exact hK _ _ (Below.refl _ _) rfl
    exact steps_nil
  · intro ev w6 hS hval
    replace hS : Grow W w6 := ⟨hS.os, hS.tape, hS.output, hS.size, hS.block⟩
    have e107 : ev (.tmp 107) = .bool false := hval 10 107 rfl
    simp only [putsOf, List.foldl_cons, List.foldl_nil, Act.put, List.setIfInBounds_toArray, List.set_cons_zero, List.set_cons_succ]
    rw [e107]
    clear hval
    have F6 := F.grow hS
    clear F hS
    revert F6
    generalize w6 = W2
    intro F
    go_wp2
    refine wp_region_any (by kernel_rfl) ?_
    refine wpAny_keep [109, 110, 111, 112, 113, 114, 115, 116, 117, 118, 119, 120] (fun b => b = gp) 11 [11] (fun w1 => Bk w1 gp 47 #[.slice A n c]) (splV gp (w.heap.size + 2) N T2) [is (.pointer (some ⟨g, 0, none⟩)), is (.pointer (some ⟨g, 0, none⟩)), is (.pointer (some ⟨g, 0, none⟩)), is (.pointer (some ⟨gp, 0, none⟩)), is (.pointer (some ⟨w.heap.size, 1, none⟩)), is (.int .i64 (p : Int)), is (.pointer (some ⟨w.heap.size, 3, none⟩)), is (.slice AD nd cd), is (.int .i64 (nd : Int)), is (.pointer (some ⟨w.heap.size, 3, none⟩)), is (.slice AD nd cd), anyV] _ _ rfl (by kernel_rfl) (by kernel_rfl) (F.pl) (fun w1 w2 h _ hg => Bk.below h hg h.lt) (splV_stb _ _ _ _) (by repeat' (first | exact stbk_is _ _ | exact stbk_any _ | (refine List.forall_mem_cons.2 ⟨?_, ?_⟩) | (intro p hp; cases hp))) ?_ ?_
    · refine steps_of ?_
      refine steps_cons ?_ ?_
      · refine step_on3 rfl rfl ?_
        intro ev w5 hS hU hc hf hold hval a K ha hK
        replace hS : Keep (fun b => b = gp) W2 w5 := ⟨hS.os, hS.tape, hS.output, hS.size, hS.block⟩
        clear hU
        have e0 : ev (.tmp 0) = .pointer (some ⟨g, 0, none⟩) := hold 0 (by kernel_rfl)
        go_simp
        exact hK _ _ (kstep_grow (Below.refl _ _)) rfl
      refine steps_cons ?_ ?_
      · refine step_on3 rfl rfl ?_
        intro ev w5 hS hU hc hf hold hval a K ha hK
        replace hS : Keep (fun b => b = gp) W2 w5 := ⟨hS.os, hS.tape, hS.output, hS.size, hS.block⟩
        clear hU
        have e109 : ev (.tmp 109) = .pointer (some ⟨g, 0, none⟩) := hval 0 109 (by kernel_rfl) rfl
        go_simp
        exact hK _ _ (kstep_grow (Below.refl _ _)) rfl
      refine steps_cons ?_ ?_
      · refine step_on3 rfl rfl ?_
        intro ev w5 hS hU hc hf hold hval a K ha hK
        replace hS : Keep (fun b => b = gp) W2 w5 := ⟨hS.os, hS.tape, hS.output, hS.size, hS.block⟩
        clear hU
        have e110 : ev (.tmp 110) = .pointer (some ⟨g, 0, none⟩) := hval 1 110 (by kernel_rfl) rfl
        go_simp
        exact hK _ _ (kstep_grow (Below.refl _ _)) rfl
      refine steps_cons ?_ ?_
      · refine step_on3 rfl rfl ?_
        intro ev w5 hS hU hc hf hold hval a K ha hK
        replace hS : Keep (fun b => b = gp) W2 w5 := ⟨hS.os, hS.tape, hS.output, hS.size, hS.block⟩
        clear hU
        have e111 : ev (.tmp 111) = .pointer (some ⟨g, 0, none⟩) := hval 2 111 (by kernel_rfl) rfl
        have c112 : w5.cell? ⟨g, 0, none⟩ = some (.pointer (some ⟨gp, 0, none⟩)) := ((hS.bk F.mod (fun h => F.gne h)).cell 0).trans rfl
        go_simp
        exact hK _ _ (kstep_grow (Below.refl _ _)) rfl
      refine steps_cons ?_ ?_
      · refine step_on3 rfl rfl ?_
        intro ev w5 hS hU hc hf hold hval a K ha hK
        replace hS : Keep (fun b => b = gp) W2 w5 := ⟨hS.os, hS.tape, hS.output, hS.size, hS.block⟩
        clear hU
        have e3 : ev (.tmp 3) = .pointer (some ⟨w.heap.size, 0, none⟩) := hold 3 (by kernel_rfl)
        go_simp
        exact hK _ _ (kstep_grow (Below.refl _ _)) rfl
      refine steps_cons ?_ ?_
      · refine step_on3 rfl rfl ?_
        intro ev w5 hS hU hc hf hold hval a K ha hK
        replace hS : Keep (fun b => b = gp) W2 w5 := ⟨hS.os, hS.tape, hS.output, hS.size, hS.block⟩
        clear hU
        have e113 : ev (.tmp 113) = .pointer (some ⟨w.heap.size, 1, none⟩) := hval 4 113 (by kernel_rfl) rfl
        have c114 : w5.cell? ⟨w.heap.size, 1, none⟩ = some (.int .i64 (p : Int)) := ((hS.bk F.step (fun h => absurd (show w.heap.size = gp from h) (by have := F.gpl; omega))).cell 1).trans rfl
        go_simp
        exact hK _ _ (kstep_grow (Below.refl _ _)) rfl
      refine steps_cons ?_ ?_
      · refine step_on3 rfl rfl ?_
        intro ev w5 hS hU hc hf hold hval a K ha hK
        replace hS : Keep (fun b => b = gp) W2 w5 := ⟨hS.os, hS.tape, hS.output, hS.size, hS.block⟩
        clear hU
        have e3 : ev (.tmp 3) = .pointer (some ⟨w.heap.size, 0, none⟩) := hold 3 (by kernel_rfl)
        go_simp
        exact hK _ _ (kstep_grow (Below.refl _ _)) rfl
      refine steps_cons ?_ ?_
      · refine step_on3 rfl rfl ?_
        intro ev w5 hS hU hc hf hold hval a K ha hK
        replace hS : Keep (fun b => b = gp) W2 w5 := ⟨hS.os, hS.tape, hS.output, hS.size, hS.block⟩
        clear hU
        have e115 : ev (.tmp 115) = .pointer (some ⟨w.heap.size, 3, none⟩) := hval 6 115 (by kernel_rfl) rfl
        have c116 : w5.cell? ⟨w.heap.size, 3, none⟩ = some (.slice AD nd cd) := ((hS.bk F.step (fun h => absurd (show w.heap.size = gp from h) (by have := F.gpl; omega))).cell 3).trans rfl
        go_simp
        exact hK _ _ (kstep_grow (Below.refl _ _)) rfl
      refine steps_cons ?_ ?_
      · refine step_on3 rfl rfl ?_
        intro ev w5 hS hU hc hf hold hval a K ha hK
        replace hS : Keep (fun b => b = gp) W2 w5 := ⟨hS.os, hS.tape, hS.output, hS.size, hS.block⟩
        clear hU
        have e116 : ev (.tmp 116) = .slice AD nd cd := hval 7 116 (by kernel_rfl) rfl
        go_simp
        exact hK _ _ (kstep_grow (Below.refl _ _)) rfl
      refine steps_cons ?_ ?_
      · refine step_on3 rfl rfl ?_
        intro ev w5 hS hU hc hf hold hval a K ha hK
        replace hS : Keep (fun b => b = gp) W2 w5 := ⟨hS.os, hS.tape, hS.output, hS.size, hS.block⟩
        clear hU
        have e3 : ev (.tmp 3) = .pointer (some ⟨w.heap.size, 0, none⟩) := hold 3 (by kernel_rfl)
        go_simp
        exact hK _ _ (kstep_grow (Below.refl _ _)) rfl
      refine steps_cons ?_ ?_
      · refine step_on3 rfl rfl ?_
        intro ev w5 hS hU hc hf hold hval a K ha hK
        replace hS : Keep (fun b => b = gp) W2 w5 := ⟨hS.os, hS.tape, hS.output, hS.size, hS.block⟩
        clear hU
        have e118 : ev (.tmp 118) = .pointer (some ⟨w.heap.size, 3, none⟩) := hval 9 118 (by kernel_rfl) rfl
        have c119 : w5.cell? ⟨w.heap.size, 3, none⟩ = some (.slice AD nd cd) := ((hS.bk F.step (fun h => absurd (show w.heap.size = gp from h) (by have := F.gpl; omega))).cell 3).trans rfl
        go_simp
        exact hK _ _ (kstep_grow (Below.refl _ _)) rfl
      refine steps_cons ?_ ?_
      · refine step_on3 rfl rfl ?_
        intro ev w5 hS hU hc hf hold hval a K ha hK
        replace hS : Keep (fun b => b = gp) W2 w5 := ⟨hS.os, hS.tape, hS.output, hS.size, hS.block⟩
        have hpre := hU rfl
        clear hU
        have e112 : ev (.tmp 112) = .pointer (some ⟨gp, 0, none⟩) := hval 3 112 (by kernel_rfl) rfl
        have e114 : ev (.tmp 114) = .int .i64 (p : Int) := hval 5 114 (by kernel_rfl) rfl
        have e117 : ev (.tmp 117) = .int .i64 (nd : Int) := hval 8 117 (by kernel_rfl) rfl
        have e119 : ev (.tmp 119) = .slice AD nd cd := hval 10 119 (by kernel_rfl) rfl
        go_simp
        have hr5 := Rd.keepF F.rT hS F.low.size Hne.out
        have hd5 := Rd.keepF F.rD hS F.low.size Hdne.out
        refine (splice_any gp A AD n c nd cd p nd N w5.heap.size T D T2 w5 hpre hr5 Hne.out hnc hd5 (Nat.le_refl _) Hdne.out q hq hqn HT2.out HN.out (by omega) hN2).mono ?_
        rintro e w8 ⟨rfl, hk8, A9, c9, hb9, hm9⟩
        exact hK _ _ (kstep_keep hk8) ⟨rfl, A9, c9, hb9, hm9.mono (by have := hS.size; have := F.res.lt; omega)⟩
      exact steps_nil
    · intro ev w6 hS hval hall
      replace hS : Keep (fun b => b = gp) W2 w6 := ⟨hS.os, hS.tape, hS.output, hS.size, hS.block⟩
      obtain ⟨vJ, pJ⟩ : ∃ v, (splV gp (w.heap.size + 2) N T2) v w6 := hall 11 (by decide)
      simp only [putsOf, List.foldl_cons, List.foldl_nil, Act.put, List.setIfInBounds_toArray, List.set_cons_zero, List.set_cons_succ]
      clear hval hall
      obtain ⟨rfl, A9, c9, hb9, hm9⟩ := pJ
      have hgs := F.gpl
      have hres := hS.bk F.res (fun h => absurd (show w.heap.size + 1 = gp from h) (by omega))
      have r0 : w6.cell? ⟨w.heap.size + 1, 0, none⟩ = some (.int .i64 0) := (hres.cell 0).trans rfl
      have f0 := hres.frozen 0
      have r1 : w6.cell? ⟨w.heap.size + 1, 1, none⟩ = some (.int .i64 0) := (hres.cell 1).trans rfl
      have f1 := hres.frozen 1
      have r2 : w6.cell? ⟨w.heap.size + 1, 2, none⟩ = some (.slice none 0 0) := (hres.cell 2).trans rfl
      have f2 := hres.frozen 2
      have r3 : w6.cell? ⟨w.heap.size + 1, 3, none⟩ = some (.slice none 0 0) := (hres.cell 3).trans rfl
      have f3 := hres.frozen 3
      go_wp2
      have hbl := keep_set (v0 := .int .i64 0) (v1 := .int .i64 0) (v2 := .slice none 0 0) (v3 := .slice none 0 0) (Nat.le_succ w.heap.size) ((Keep.of_below F.low).trans hS)
      have hset := at_set (W := w6) (s := w.heap.size + 1) (v0 := .int .i64 0) (v1 := .int .i64 0) (v2 := .slice none 0 0) (v3 := .slice none 0 0)
      exact do_ret (s := w.heap.size + 1) (A1 := none) (c1 := 0) (A2 := none) (c2 := 0) (.inl rfl) rfl (res_set hres) hbl (made_nil _ _ _) (made_nil _ _ _) (pls_made (hset.bk hb9 (fun h => absurd (show gp = w.heap.size + 1 from h) (by omega))) (hm9.keepF hset (fun b hb => by subst hb; omega)) HN.out (by omega))
end Go.Proofs.Ytmebhlopmgfobaa
