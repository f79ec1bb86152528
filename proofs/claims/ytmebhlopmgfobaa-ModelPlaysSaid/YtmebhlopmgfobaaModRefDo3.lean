/- The walk of scrimshawref16's plain text's Do, where it answers. Conditions: sizes of at most 2^39. -/
import Derived.Test.YtmebhlopmgfobaaModRefDo
namespace Go.Proofs.Ytmebhlopmgfobaa
open Go.RowKit
set_option linter.unusedVariables false
set_option linter.unusedSimpArgs false
set_option maxRecDepth 100000 in
set_option maxHeartbeats 4000000 in
theorem Ref_take_ok (gx : Nat) (AD : Option Addr) (nd cd B : Nat) (p k : Nat) (most : Int) (T D : List UInt8) (n : Nat) (hn : T.length = n) (w : World) (hg : Bk w gx 40 #[.string ⟨T.toArray⟩, .int .i64 most])
    (hd : Rd w B 1 AD nd (D.map bv)) (hB : B ≤ w.heap.size) (hdne : 0 < nd → ∀ a, AD = some a → a.block ≠ gx) (hT : n ≤ 549755813888) (hD : nd ≤ 549755813888) (hpb : -9223372036854775808 ≤ (p : Int) ∧ (p : Int) ≤ 9223372036854775807) (hkb : -9223372036854775808 ≤ (k : Int) ∧ (k : Int) ≤ 9223372036854775807) (hmb : 0 ≤ most ∧ most ≤ 2147483648)
    (h1 : p + k ≤ n) :
    Calls Try.prog 13 #[.pointer (some ⟨gx, 0, none⟩), stepV 5 p k AD nd cd] w fun e w' => RefTold gx most (T) ⟨0, 0, (T.drop p).take k, []⟩ w w' e := by
  have hDl : D.length = nd := by simpa using hd.1
  have F := ref_start (kind := 5) (p := p) (k := k) (cd := cd) hg hd hB
  have HF := Lib.hid F
  have Hg := Lib.hid hg
  have Hn := Lib.hid hn
  have Hdne := Lib.hid hdne
  have hgl := hg.lt
  have z0 : (⟨T.toArray⟩ : ByteArray).size = n := (ba_size T).trans hn
  have y0 : w.cell? ⟨gx, 0, none⟩ = some (.string ⟨T.toArray⟩) := (hg.cell 0).trans rfl
  clear hd hg F hn hdne
  obtain ⟨q, hq⟩ : ∃ q, p + k = q := ⟨_, rfl⟩
  obtain ⟨X, hX⟩ : ∃ X, (T.drop p).take k = X := ⟨_, rfl⟩
  have hX2 : (T.drop p).take (q - p) = X := by rw [show q - p = k by omega]; exact hX
  rw [hX]
  have HX := Lib.hid hX2
  clear hX hX2
  have a1 := fun w => at_lohi T w p q (by omega) (by have := Hn.out; omega)
  have b1 := fun w => sub_lohi T w p q (by omega) (by have := Hn.out; omega)
  have d0 : ¬ ((p : Int) < 0) := by omega
  have d1 : ¬ ((p : Int) > (n : Int)) := by omega
  have d2 : ¬ ((k : Int) > (n : Int) - (p : Int)) := by omega
  have d3 : ¬ ((k : Int) < 0) := by omega
  unfold stepV
  go_enter Try.func13, Try.ntmps13
  go_wp2
  obtain ⟨W, hW⟩ : ∃ W, (w.alloc (.cells #[.int .i64 5, .int .i64 p, .int .i64 k, .slice AD nd cd] 32)).alloc (.cells #[.int .i64 0, .int .i64 0, .slice none 0 0, .slice none 0 0] 29) = W := ⟨_, rfl⟩
  rw [hW] at HF ⊢
  have F := HF.out
  clear hW HF
  refine wp_region_any (by kernel_rfl) ?_
  refine wpAny_keep [90, 91, 92, 93, 94, 95, 96, 97, 98, 99, 100, 101, 102, 103] (fun b => b = w.heap.size + 1) 14 [14] (fun w1 => Bk w1 (w.heap.size + 1) 29 #[.int .i64 0, .int .i64 0, .slice none 0 0, .slice none 0 0]) (ansNW (w.heap.size + 1) (w.heap.size + 2) X) [is (.pointer (some ⟨gx, 0, none⟩)), is (.pointer (some ⟨gx, 0, none⟩)), is (.pointer (some ⟨gx, 0, none⟩)), is (.string ⟨T.toArray⟩), is (.pointer (some ⟨w.heap.size, 1, none⟩)), is (.int .i64 (p : Int)), is (.pointer (some ⟨w.heap.size, 1, none⟩)), is (.int .i64 (p : Int)), is (.pointer (some ⟨w.heap.size, 2, none⟩)), is (.int .i64 (k : Int)), is (.int .i64 (q : Int)), is (.string ⟨X.toArray⟩), newV (w.heap.size + 2) 1 X.length (X.map bv), ansN (w.heap.size + 2) X, anyV] _ _ rfl (by kernel_rfl) (by kernel_rfl) (F.res) (fun w1 w2 h _ hg => Bk.below h hg h.lt) (ansNW_stb _ _ _) (by repeat' (first | exact stbk_is _ _ | exact stbk_any _ | exact stbk_new (fun b hb => by subst hb; omega) _ _ _ | exact stbk_ansN (fun b hb => by subst hb; omega) _ | (refine List.forall_mem_cons.2 ⟨?_, ?_⟩) | (intro p hp; cases hp))) ?_ ?_
  · refine steps_of ?_
    refine steps_cons ?_ ?_
    · refine step_on3 rfl rfl ?_
      intro ev w5 hS hU hc hf hold hval a K ha hK
      replace hS : Keep (fun b => b = w.heap.size + 1) W w5 := ⟨hS.os, hS.tape, hS.output, hS.size, hS.block⟩
      clear hU
      have e0 : ev (.tmp 0) = .pointer (some ⟨gx, 0, none⟩) := hold 0 (by kernel_rfl)
      go_simp
      exact hK _ _ (kstep_grow (Below.refl _ _)) rfl
    refine steps_cons ?_ ?_
    · refine step_on3 rfl rfl ?_
      intro ev w5 hS hU hc hf hold hval a K ha hK
      replace hS : Keep (fun b => b = w.heap.size + 1) W w5 := ⟨hS.os, hS.tape, hS.output, hS.size, hS.block⟩
      clear hU
      have e90 : ev (.tmp 90) = .pointer (some ⟨gx, 0, none⟩) := hval 0 90 (by kernel_rfl) rfl
      go_simp
      exact hK _ _ (kstep_grow (Below.refl _ _)) rfl
    refine steps_cons ?_ ?_
    · refine step_on3 rfl rfl ?_
      intro ev w5 hS hU hc hf hold hval a K ha hK
      replace hS : Keep (fun b => b = w.heap.size + 1) W w5 := ⟨hS.os, hS.tape, hS.output, hS.size, hS.block⟩
      clear hU
      have e91 : ev (.tmp 91) = .pointer (some ⟨gx, 0, none⟩) := hval 1 91 (by kernel_rfl) rfl
      go_simp
      exact hK _ _ (kstep_grow (Below.refl _ _)) rfl
    refine steps_cons ?_ ?_
    · refine step_on3 rfl rfl ?_
      intro ev w5 hS hU hc hf hold hval a K ha hK
      replace hS : Keep (fun b => b = w.heap.size + 1) W w5 := ⟨hS.os, hS.tape, hS.output, hS.size, hS.block⟩
      clear hU
      have e92 : ev (.tmp 92) = .pointer (some ⟨gx, 0, none⟩) := hval 2 92 (by kernel_rfl) rfl
      have c93 : w5.cell? ⟨gx, 0, none⟩ = some (.string ⟨T.toArray⟩) := ((hS.bk F.mod (fun h => absurd (show gx = w.heap.size + 1 from h) (by have := F.gxl; omega))).cell 0).trans rfl
      go_simp
      exact hK _ _ (kstep_grow (Below.refl _ _)) rfl
    refine steps_cons ?_ ?_
    · refine step_on3 rfl rfl ?_
      intro ev w5 hS hU hc hf hold hval a K ha hK
      replace hS : Keep (fun b => b = w.heap.size + 1) W w5 := ⟨hS.os, hS.tape, hS.output, hS.size, hS.block⟩
      clear hU
      have e3 : ev (.tmp 3) = .pointer (some ⟨w.heap.size, 0, none⟩) := hold 3 (by kernel_rfl)
      go_simp
      exact hK _ _ (kstep_grow (Below.refl _ _)) rfl
    refine steps_cons ?_ ?_
    · refine step_on3 rfl rfl ?_
      intro ev w5 hS hU hc hf hold hval a K ha hK
      replace hS : Keep (fun b => b = w.heap.size + 1) W w5 := ⟨hS.os, hS.tape, hS.output, hS.size, hS.block⟩
      clear hU
      have e94 : ev (.tmp 94) = .pointer (some ⟨w.heap.size, 1, none⟩) := hval 4 94 (by kernel_rfl) rfl
      have c95 : w5.cell? ⟨w.heap.size, 1, none⟩ = some (.int .i64 (p : Int)) := ((hS.bk F.step (fun h => absurd (show w.heap.size = w.heap.size + 1 from h) (by omega))).cell 1).trans rfl
      go_simp
      exact hK _ _ (kstep_grow (Below.refl _ _)) rfl
    refine steps_cons ?_ ?_
    · refine step_on3 rfl rfl ?_
      intro ev w5 hS hU hc hf hold hval a K ha hK
      replace hS : Keep (fun b => b = w.heap.size + 1) W w5 := ⟨hS.os, hS.tape, hS.output, hS.size, hS.block⟩
      clear hU
      have e3 : ev (.tmp 3) = .pointer (some ⟨w.heap.size, 0, none⟩) := hold 3 (by kernel_rfl)
      go_simp
      exact hK _ _ (kstep_grow (Below.refl _ _)) rfl
    refine steps_cons ?_ ?_
    · refine step_on3 rfl rfl ?_
      intro ev w5 hS hU hc hf hold hval a K ha hK
      replace hS : Keep (fun b => b = w.heap.size + 1) W w5 := ⟨hS.os, hS.tape, hS.output, hS.size, hS.block⟩
      clear hU
      have e96 : ev (.tmp 96) = .pointer (some ⟨w.heap.size, 1, none⟩) := hval 6 96 (by kernel_rfl) rfl
      have c97 : w5.cell? ⟨w.heap.size, 1, none⟩ = some (.int .i64 (p : Int)) := ((hS.bk F.step (fun h => absurd (show w.heap.size = w.heap.size + 1 from h) (by omega))).cell 1).trans rfl
      go_simp
      exact hK _ _ (kstep_grow (Below.refl _ _)) rfl
    refine steps_cons ?_ ?_
    · refine step_on3 rfl rfl ?_
      intro ev w5 hS hU hc hf hold hval a K ha hK
      replace hS : Keep (fun b => b = w.heap.size + 1) W w5 := ⟨hS.os, hS.tape, hS.output, hS.size, hS.block⟩
      clear hU
      have e3 : ev (.tmp 3) = .pointer (some ⟨w.heap.size, 0, none⟩) := hold 3 (by kernel_rfl)
      go_simp
      exact hK _ _ (kstep_grow (Below.refl _ _)) rfl
    refine steps_cons ?_ ?_
    · refine step_on3 rfl rfl ?_
      intro ev w5 hS hU hc hf hold hval a K ha hK
      replace hS : Keep (fun b => b = w.heap.size + 1) W w5 := ⟨hS.os, hS.tape, hS.output, hS.size, hS.block⟩
      clear hU
      have e98 : ev (.tmp 98) = .pointer (some ⟨w.heap.size, 2, none⟩) := hval 8 98 (by kernel_rfl) rfl
      have c99 : w5.cell? ⟨w.heap.size, 2, none⟩ = some (.int .i64 (k : Int)) := ((hS.bk F.step (fun h => absurd (show w.heap.size = w.heap.size + 1 from h) (by omega))).cell 2).trans rfl
      go_simp
      exact hK _ _ (kstep_grow (Below.refl _ _)) rfl
    refine steps_cons ?_ ?_
    · refine step_on3 rfl rfl ?_
      intro ev w5 hS hU hc hf hold hval a K ha hK
      replace hS : Keep (fun b => b = w.heap.size + 1) W w5 := ⟨hS.os, hS.tape, hS.output, hS.size, hS.block⟩
      clear hU
      have e97 : ev (.tmp 97) = .int .i64 (p : Int) := hval 7 97 (by kernel_rfl) rfl
      have e99 : ev (.tmp 99) = .int .i64 (k : Int) := hval 9 99 (by kernel_rfl) rfl
      go_simp
      exact hK _ _ (kstep_grow (Below.refl _ _)) (i64_eq (by rw [IntKind.wrap_i64]; omega))
    refine steps_cons ?_ ?_
    · refine step_on3 rfl rfl ?_
      intro ev w5 hS hU hc hf hold hval a K ha hK
      replace hS : Keep (fun b => b = w.heap.size + 1) W w5 := ⟨hS.os, hS.tape, hS.output, hS.size, hS.block⟩
      clear hU
      have e93 : ev (.tmp 93) = .string ⟨T.toArray⟩ := hval 3 93 (by kernel_rfl) rfl
      have e95 : ev (.tmp 95) = .int .i64 (p : Int) := hval 5 95 (by kernel_rfl) rfl
      have e100 : ev (.tmp 100) = .int .i64 (q : Int) := hval 10 100 (by kernel_rfl) rfl
      go_simp
      exact hK _ _ (kstep_grow (Below.refl _ _)) (congrArg (fun x : List UInt8 => Value.string ⟨x.toArray⟩) HX.out)
    refine steps_cons ?_ ?_
    · refine step_on3 rfl rfl ?_
      intro ev w5 hS hU hc hf hold hval a K ha hK
      replace hS : Keep (fun b => b = w.heap.size + 1) W w5 := ⟨hS.os, hS.tape, hS.output, hS.size, hS.block⟩
      clear hU
      have e101 : ev (.tmp 101) = .string ⟨X.toArray⟩ := hval 11 101 (by kernel_rfl) rfl
      have kb := run_bytes_of_string (P := Try.prog) w5 9 22 5 ⟨X.toArray⟩ Try.underlying9 Try.underlying22 Try.underlying5
      rw [ba_size X] at kb
      go_simp
      exact hK _ _ (kstep_grow ((Below.refl _ _).drew.alloc (Nat.le_refl _) _)) ⟨_, _, rfl, (rd_bytes w5 X _ _ _ _ _ rfl rfl).mono (by have := hS.size; have := F.res.lt; omega)⟩
    refine steps_cons ?_ ?_
    · refine step_on3 rfl rfl ?_
      intro ev w5 hS hU hc hf hold hval a K ha hK
      replace hS : Keep (fun b => b = w.heap.size + 1) W w5 := ⟨hS.os, hS.tape, hS.output, hS.size, hS.block⟩
      clear hU
      have p102 : (newV (w.heap.size + 2) 1 X.length (X.map bv)) (ev (.tmp 102)) w5 := hval 12 102 (by kernel_rfl) rfl
      obtain ⟨A9, c9, e102, hm9⟩ := p102
      go_simp
      exact hK _ _ (kstep_grow (Below.refl _ _)) ⟨A9, c9, rfl, hm9⟩
    refine steps_cons ?_ ?_
    · refine step_on3 rfl rfl ?_
      intro ev w5 hS hU hc hf hold hval a K ha hK
      replace hS : Keep (fun b => b = w.heap.size + 1) W w5 := ⟨hS.os, hS.tape, hS.output, hS.size, hS.block⟩
      have hpre := hU rfl
      clear hU
      have e4 : ev (.tmp 4) = .pointer (some ⟨w.heap.size + 1, 0, none⟩) := hold 4 (by kernel_rfl)
      have p103 : (ansN (w.heap.size + 2) X) (ev (.tmp 103)) w5 := hval 13 103 (by kernel_rfl) rfl
      obtain ⟨A9, c9, e103, hm9⟩ := p103
      unfold resC at e103
      have r0 : w5.cell? ⟨w.heap.size + 1, 0, none⟩ = some (.int .i64 0) := (hpre.cell 0).trans rfl
      have f0 := hpre.frozen 0
      have r1 : w5.cell? ⟨w.heap.size + 1, 1, none⟩ = some (.int .i64 0) := (hpre.cell 1).trans rfl
      have f1 := hpre.frozen 1
      have r2 : w5.cell? ⟨w.heap.size + 1, 2, none⟩ = some (.slice none 0 0) := (hpre.cell 2).trans rfl
      have f2 := hpre.frozen 2
      have r3 : w5.cell? ⟨w.heap.size + 1, 3, none⟩ = some (.slice none 0 0) := (hpre.cell 3).trans rfl
      have f3 := hpre.frozen 3
      go_simp
      exact hK (.bool true) _ (kstep_keep at_set) ⟨A9, c9, res_set hpre, hm9.keepF at_set (fun b hb => by subst hb; omega)⟩
    exact steps_nil
  · intro ev w6 hS hval hall
    replace hS : Keep (fun b => b = w.heap.size + 1) W w6 := ⟨hS.os, hS.tape, hS.output, hS.size, hS.block⟩
    obtain ⟨vJ, pJ⟩ : ∃ v, (ansNW (w.heap.size + 1) (w.heap.size + 2) X) v w6 := hall 14 (by decide)
    simp only [putsOf, List.foldl_cons, List.foldl_nil, Act.put, List.setIfInBounds_toArray, List.set_cons_zero, List.set_cons_succ]
    clear hval hall
    obtain ⟨A9, c9, hb9, hm9⟩ := pJ
    go_wp2
    have hbl : Below w.heap.size w w6 := F.low.trans (hS.to_below F.low.size (fun b hb h => absurd (show b = w.heap.size + 1 from h) (by omega)))
    exact ref_ret (A1 := A9) (c1 := c9) (A2 := none) (c2 := 0) rfl hb9 (Keep.of_below hbl) (hm9.mono (by omega)) (made_nil _ _ _) (Hg.out.below hbl hgl)
set_option maxRecDepth 100000 in
set_option maxHeartbeats 4000000 in
theorem Ref_count (gx : Nat) (AD : Option Addr) (nd cd B : Nat) (p k : Int) (most : Int) (T D : List UInt8) (n : Nat) (hn : T.length = n) (w : World) (hg : Bk w gx 40 #[.string ⟨T.toArray⟩, .int .i64 most])
    (hd : Rd w B 1 AD nd (D.map bv)) (hB : B ≤ w.heap.size) (hdne : 0 < nd → ∀ a, AD = some a → a.block ≠ gx) (hT : n ≤ 549755813888) (hD : nd ≤ 549755813888) (hpb : -9223372036854775808 ≤ (p : Int) ∧ (p : Int) ≤ 9223372036854775807) (hkb : -9223372036854775808 ≤ (k : Int) ∧ (k : Int) ≤ 9223372036854775807) (hmb : 0 ≤ most ∧ most ≤ 2147483648)
     :
    Calls Try.prog 13 #[.pointer (some ⟨gx, 0, none⟩), stepV 6 p k AD nd cd] w fun e w' => RefTold gx most (T) ⟨0, ((findB T D).length : Int), [], []⟩ w w' e := by
  have hDl : D.length = nd := by simpa using hd.1
  have F := ref_start (kind := 6) (p := p) (k := k) (cd := cd) hg hd hB
  have HF := Lib.hid F
  have Hg := Lib.hid hg
  have Hn := Lib.hid hn
  have Hdne := Lib.hid hdne
  have hgl := hg.lt
  have z0 : (⟨T.toArray⟩ : ByteArray).size = n := (ba_size T).trans hn
  have y0 : w.cell? ⟨gx, 0, none⟩ = some (.string ⟨T.toArray⟩) := (hg.cell 0).trans rfl
  clear hd hg F hn hdne
  obtain ⟨L, hL⟩ : ∃ L, findB T D = L := ⟨_, rfl⟩
  obtain ⟨N, hN⟩ : ∃ N, L.length = N := ⟨_, rfl⟩
  rw [hL, hN]
  have HL := Lib.hid hL
  have HN := Lib.hid hN
  clear hL hN
  unfold stepV
  go_enter Try.func13, Try.ntmps13
  go_wp2
  obtain ⟨W, hW⟩ : ∃ W, (w.alloc (.cells #[.int .i64 6, .int .i64 p, .int .i64 k, .slice AD nd cd] 32)).alloc (.cells #[.int .i64 0, .int .i64 0, .slice none 0 0, .slice none 0 0] 29) = W := ⟨_, rfl⟩
  rw [hW] at HF ⊢
  have F := HF.out
  clear hW HF
  refine wp_region_any (by kernel_rfl) ?_
  refine wpAny_keep [179, 180, 181, 182, 183, 184, 185, 186, 187, 188] (fun b => b = w.heap.size + 1) 10 [10] (fun w1 => Bk w1 (w.heap.size + 1) 29 #[.int .i64 0, .int .i64 0, .slice none 0 0, .slice none 0 0]) (fun _ w1 => Bk w1 (w.heap.size + 1) 29 #[.int .i64 0, .int .i64 (N : Int), .slice none 0 0, .slice none 0 0]) [is (.pointer (some ⟨gx, 0, none⟩)), is (.pointer (some ⟨gx, 0, none⟩)), is (.pointer (some ⟨gx, 0, none⟩)), is (.string ⟨T.toArray⟩), is (.pointer (some ⟨w.heap.size, 3, none⟩)), is (.slice AD nd cd), is (.string ⟨D.toArray⟩), newV (w.heap.size + 2) 1 N (L.map nv), is (.int .i64 (N : Int)), is (.agg #[.int .i64 0, .int .i64 (N : Int), .slice none 0 0, .slice none 0 0]), anyV] _ _ rfl (by kernel_rfl) (by kernel_rfl) (F.res) (fun w1 w2 h _ hg => Bk.below h hg h.lt) (fun _ _ _ h k => Bk.below h k h.lt) (by repeat' (first | exact stbk_is _ _ | exact stbk_any _ | exact stbk_new (fun b hb => by subst hb; omega) _ _ _ | (refine List.forall_mem_cons.2 ⟨?_, ?_⟩) | (intro p hp; cases hp))) ?_ ?_
  · refine steps_of ?_
    refine steps_cons ?_ ?_
    · refine step_on3 rfl rfl ?_
      intro ev w5 hS hU hc hf hold hval a K ha hK
      replace hS : Keep (fun b => b = w.heap.size + 1) W w5 := ⟨hS.os, hS.tape, hS.output, hS.size, hS.block⟩
      clear hU
      have e0 : ev (.tmp 0) = .pointer (some ⟨gx, 0, none⟩) := hold 0 (by kernel_rfl)
      go_simp
      exact hK _ _ (kstep_grow (Below.refl _ _)) rfl
    refine steps_cons ?_ ?_
    · refine step_on3 rfl rfl ?_
      intro ev w5 hS hU hc hf hold hval a K ha hK
      replace hS : Keep (fun b => b = w.heap.size + 1) W w5 := ⟨hS.os, hS.tape, hS.output, hS.size, hS.block⟩
      clear hU
      have e179 : ev (.tmp 179) = .pointer (some ⟨gx, 0, none⟩) := hval 0 179 (by kernel_rfl) rfl
      go_simp
      exact hK _ _ (kstep_grow (Below.refl _ _)) rfl
    refine steps_cons ?_ ?_
    · refine step_on3 rfl rfl ?_
      intro ev w5 hS hU hc hf hold hval a K ha hK
      replace hS : Keep (fun b => b = w.heap.size + 1) W w5 := ⟨hS.os, hS.tape, hS.output, hS.size, hS.block⟩
      clear hU
      have e180 : ev (.tmp 180) = .pointer (some ⟨gx, 0, none⟩) := hval 1 180 (by kernel_rfl) rfl
      go_simp
      exact hK _ _ (kstep_grow (Below.refl _ _)) rfl
    refine steps_cons ?_ ?_
    · refine step_on3 rfl rfl ?_
      intro ev w5 hS hU hc hf hold hval a K ha hK
      replace hS : Keep (fun b => b = w.heap.size + 1) W w5 := ⟨hS.os, hS.tape, hS.output, hS.size, hS.block⟩
      clear hU
      have e181 : ev (.tmp 181) = .pointer (some ⟨gx, 0, none⟩) := hval 2 181 (by kernel_rfl) rfl
      have c182 : w5.cell? ⟨gx, 0, none⟩ = some (.string ⟨T.toArray⟩) := ((hS.bk F.mod (fun h => absurd (show gx = w.heap.size + 1 from h) (by have := F.gxl; omega))).cell 0).trans rfl
      go_simp
      exact hK _ _ (kstep_grow (Below.refl _ _)) rfl
    refine steps_cons ?_ ?_
    · refine step_on3 rfl rfl ?_
      intro ev w5 hS hU hc hf hold hval a K ha hK
      replace hS : Keep (fun b => b = w.heap.size + 1) W w5 := ⟨hS.os, hS.tape, hS.output, hS.size, hS.block⟩
      clear hU
      have e3 : ev (.tmp 3) = .pointer (some ⟨w.heap.size, 0, none⟩) := hold 3 (by kernel_rfl)
      go_simp
      exact hK _ _ (kstep_grow (Below.refl _ _)) rfl
    refine steps_cons ?_ ?_
    · refine step_on3 rfl rfl ?_
      intro ev w5 hS hU hc hf hold hval a K ha hK
      replace hS : Keep (fun b => b = w.heap.size + 1) W w5 := ⟨hS.os, hS.tape, hS.output, hS.size, hS.block⟩
      clear hU
      have e183 : ev (.tmp 183) = .pointer (some ⟨w.heap.size, 3, none⟩) := hval 4 183 (by kernel_rfl) rfl
      have c184 : w5.cell? ⟨w.heap.size, 3, none⟩ = some (.slice AD nd cd) := ((hS.bk F.step (fun h => absurd (show w.heap.size = w.heap.size + 1 from h) (by omega))).cell 3).trans rfl
      go_simp
      exact hK _ _ (kstep_grow (Below.refl _ _)) rfl
    refine steps_cons ?_ ?_
    · refine step_on3 rfl rfl ?_
      intro ev w5 hS hU hc hf hold hval a K ha hK
      replace hS : Keep (fun b => b = w.heap.size + 1) W w5 := ⟨hS.os, hS.tape, hS.output, hS.size, hS.block⟩
      clear hU
      have e184 : ev (.tmp 184) = .slice AD nd cd := hval 5 184 (by kernel_rfl) rfl
      have s185 := strOf (hS.rd F.rD F.low.size (fun b hb h => absurd (show b = w.heap.size + 1 from h) (by omega)))
      go_simp
      exact hK _ _ (kstep_grow (Below.refl _ _)) rfl
    refine steps_cons ?_ ?_
    · refine step_on3 rfl rfl ?_
      intro ev w5 hS hU hc hf hold hval a K ha hK
      replace hS : Keep (fun b => b = w.heap.size + 1) W w5 := ⟨hS.os, hS.tape, hS.output, hS.size, hS.block⟩
      clear hU
      have e182 : ev (.tmp 182) = .string ⟨T.toArray⟩ := hval 3 182 (by kernel_rfl) rfl
      have e185 : ev (.tmp 185) = .string ⟨D.toArray⟩ := hval 6 185 (by kernel_rfl) rfl
      go_simp
      refine (Places_any T D n nd L N w5 Hn.out hDl HL.out HN.out (by omega) (by omega)).mono ?_
      rintro e w8 ⟨A9, c9, rfl, hm9, hb9⟩
      exact hK _ _ (kstep_grow hb9) ⟨A9, c9, rfl, (RdN.of_made hm9).mono (by have := hS.size; have := F.res.lt; omega)⟩
    refine steps_cons ?_ ?_
    · refine step_on3 rfl rfl ?_
      intro ev w5 hS hU hc hf hold hval a K ha hK
      replace hS : Keep (fun b => b = w.heap.size + 1) W w5 := ⟨hS.os, hS.tape, hS.output, hS.size, hS.block⟩
      clear hU
      have p186 : (newV (w.heap.size + 2) 1 N (L.map nv)) (ev (.tmp 186)) w5 := hval 7 186 (by kernel_rfl) rfl
      obtain ⟨A9, c9, e186, hm9⟩ := p186
      go_simp
      exact hK _ _ (kstep_grow (Below.refl _ _)) rfl
    refine steps_cons ?_ ?_
    · refine step_on3 rfl rfl ?_
      intro ev w5 hS hU hc hf hold hval a K ha hK
      replace hS : Keep (fun b => b = w.heap.size + 1) W w5 := ⟨hS.os, hS.tape, hS.output, hS.size, hS.block⟩
      clear hU
      have e187 : ev (.tmp 187) = .int .i64 (N : Int) := hval 8 187 (by kernel_rfl) rfl
      go_simp
      exact hK _ _ (kstep_grow (Below.refl _ _)) rfl
    refine steps_cons ?_ ?_
    · refine step_on3 rfl rfl ?_
      intro ev w5 hS hU hc hf hold hval a K ha hK
      replace hS : Keep (fun b => b = w.heap.size + 1) W w5 := ⟨hS.os, hS.tape, hS.output, hS.size, hS.block⟩
      have hpre := hU rfl
      clear hU
      have e4 : ev (.tmp 4) = .pointer (some ⟨w.heap.size + 1, 0, none⟩) := hold 4 (by kernel_rfl)
      have e188 : ev (.tmp 188) = .agg #[.int .i64 0, .int .i64 (N : Int), .slice none 0 0, .slice none 0 0] := hval 9 188 (by kernel_rfl) rfl
      have r0 : w5.cell? ⟨w.heap.size + 1, 0, none⟩ = some (.int .i64 0) := (hpre.cell 0).trans rfl
      have f0 := hpre.frozen 0
      have r1 : w5.cell? ⟨w.heap.size + 1, 1, none⟩ = some (.int .i64 0) := (hpre.cell 1).trans rfl
      have f1 := hpre.frozen 1
      have r2 : w5.cell? ⟨w.heap.size + 1, 2, none⟩ = some (.slice none 0 0) := (hpre.cell 2).trans rfl
      have f2 := hpre.frozen 2
      have r3 : w5.cell? ⟨w.heap.size + 1, 3, none⟩ = some (.slice none 0 0) := (hpre.cell 3).trans rfl
      have f3 := hpre.frozen 3
      go_simp
      exact hK (.bool true) _ (kstep_keep at_set) (res_set hpre)
    exact steps_nil
  · intro ev w6 hS hval hall
    replace hS : Keep (fun b => b = w.heap.size + 1) W w6 := ⟨hS.os, hS.tape, hS.output, hS.size, hS.block⟩
    obtain ⟨vJ, pJ⟩ : ∃ v, (fun _ w1 => Bk w1 (w.heap.size + 1) 29 #[.int .i64 0, .int .i64 (N : Int), .slice none 0 0, .slice none 0 0]) v w6 := hall 10 (by decide)
    simp only [putsOf, List.foldl_cons, List.foldl_nil, Act.put, List.setIfInBounds_toArray, List.set_cons_zero, List.set_cons_succ]
    clear hval hall
    go_wp2
    have hbl : Below w.heap.size w w6 := F.low.trans (hS.to_below F.low.size (fun b hb h => absurd (show b = w.heap.size + 1 from h) (by omega)))
    exact ref_ret (A1 := none) (c1 := 0) (A2 := none) (c2 := 0) rfl pJ (Keep.of_below hbl) (RdN.nil _ _ _ _) (made_nil _ _ _) (Hg.out.below hbl hgl)
set_option maxRecDepth 100000 in
set_option maxHeartbeats 4000000 in
theorem Ref_locate (gx : Nat) (AD : Option Addr) (nd cd B : Nat) (p k : Int) (most : Int) (T D : List UInt8) (n : Nat) (hn : T.length = n) (w : World) (hg : Bk w gx 40 #[.string ⟨T.toArray⟩, .int .i64 most])
    (hd : Rd w B 1 AD nd (D.map bv)) (hB : B ≤ w.heap.size) (hdne : 0 < nd → ∀ a, AD = some a → a.block ≠ gx) (hT : n ≤ 549755813888) (hD : nd ≤ 549755813888) (hpb : -9223372036854775808 ≤ (p : Int) ∧ (p : Int) ≤ 9223372036854775807) (hkb : -9223372036854775808 ≤ (k : Int) ∧ (k : Int) ≤ 9223372036854775807) (hmb : 0 ≤ most ∧ most ≤ 2147483648)
     :
    Calls Try.prog 13 #[.pointer (some ⟨gx, 0, none⟩), stepV 7 p k AD nd cd] w fun e w' => RefTold gx most (T) ⟨0, ((findB T D).length : Int), [], findB T D⟩ w w' e := by
  have hDl : D.length = nd := by simpa using hd.1
  have F := ref_start (kind := 7) (p := p) (k := k) (cd := cd) hg hd hB
  have HF := Lib.hid F
  have Hg := Lib.hid hg
  have Hn := Lib.hid hn
  have Hdne := Lib.hid hdne
  have hgl := hg.lt
  have z0 : (⟨T.toArray⟩ : ByteArray).size = n := (ba_size T).trans hn
  have y0 : w.cell? ⟨gx, 0, none⟩ = some (.string ⟨T.toArray⟩) := (hg.cell 0).trans rfl
  clear hd hg F hn hdne
  obtain ⟨L, hL⟩ : ∃ L, findB T D = L := ⟨_, rfl⟩
  obtain ⟨N, hN⟩ : ∃ N, L.length = N := ⟨_, rfl⟩
  rw [hL, hN]
  have HL := Lib.hid hL
  have HN := Lib.hid hN
  clear hL hN
  unfold stepV
  go_enter Try.func13, Try.ntmps13
  go_wp2
  obtain ⟨W, hW⟩ : ∃ W, (w.alloc (.cells #[.int .i64 7, .int .i64 p, .int .i64 k, .slice AD nd cd] 32)).alloc (.cells #[.int .i64 0, .int .i64 0, .slice none 0 0, .slice none 0 0] 29) = W := ⟨_, rfl⟩
  rw [hW] at HF ⊢
  have F := HF.out
  clear hW HF
  refine wp_region_any (by kernel_rfl) ?_
  refine wpAny_keep [191, 192, 193, 194, 195, 196, 197, 198, 6] (fun _ => False) 8 [] (fun _ => True) (madeV (w.heap.size + 2) 3 1 N (L.map nv)) [is (.pointer (some ⟨gx, 0, none⟩)), is (.pointer (some ⟨gx, 0, none⟩)), is (.pointer (some ⟨gx, 0, none⟩)), is (.string ⟨T.toArray⟩), is (.pointer (some ⟨w.heap.size, 3, none⟩)), is (.slice AD nd cd), is (.string ⟨D.toArray⟩), madeV (w.heap.size + 2) 3 1 N (L.map nv), anyV] _ _ rfl (by kernel_rfl) (by kernel_rfl) (trivial) (fun _ _ _ _ _ => trivial) (madeV_stb _ _ _ _ _) (by repeat' (first | exact stbk_is _ _ | exact stbk_any _ | exact stbk_made (fun b hb => hb.elim) _ _ _ _ | (refine List.forall_mem_cons.2 ⟨?_, ?_⟩) | (intro p hp; cases hp))) ?_ ?_
  · refine steps_of ?_
    refine steps_cons ?_ ?_
    · refine step_on3 rfl rfl ?_
      intro ev w5 hS hU hc hf hold hval a K ha hK
      replace hS : Keep (fun _ => False) W w5 := ⟨hS.os, hS.tape, hS.output, hS.size, hS.block⟩
      clear hU
      have e0 : ev (.tmp 0) = .pointer (some ⟨gx, 0, none⟩) := hold 0 (by kernel_rfl)
      go_simp
      exact hK _ _ (kstep_grow (Below.refl _ _)) rfl
    refine steps_cons ?_ ?_
    · refine step_on3 rfl rfl ?_
      intro ev w5 hS hU hc hf hold hval a K ha hK
      replace hS : Keep (fun _ => False) W w5 := ⟨hS.os, hS.tape, hS.output, hS.size, hS.block⟩
      clear hU
      have e191 : ev (.tmp 191) = .pointer (some ⟨gx, 0, none⟩) := hval 0 191 (by kernel_rfl) rfl
      go_simp
      exact hK _ _ (kstep_grow (Below.refl _ _)) rfl
    refine steps_cons ?_ ?_
    · refine step_on3 rfl rfl ?_
      intro ev w5 hS hU hc hf hold hval a K ha hK
      replace hS : Keep (fun _ => False) W w5 := ⟨hS.os, hS.tape, hS.output, hS.size, hS.block⟩
      clear hU
      have e192 : ev (.tmp 192) = .pointer (some ⟨gx, 0, none⟩) := hval 1 192 (by kernel_rfl) rfl
      go_simp
      exact hK _ _ (kstep_grow (Below.refl _ _)) rfl
    refine steps_cons ?_ ?_
    · refine step_on3 rfl rfl ?_
      intro ev w5 hS hU hc hf hold hval a K ha hK
      replace hS : Keep (fun _ => False) W w5 := ⟨hS.os, hS.tape, hS.output, hS.size, hS.block⟩
      clear hU
      have e193 : ev (.tmp 193) = .pointer (some ⟨gx, 0, none⟩) := hval 2 193 (by kernel_rfl) rfl
      have c194 : w5.cell? ⟨gx, 0, none⟩ = some (.string ⟨T.toArray⟩) := ((hS.bk F.mod (fun h => h)).cell 0).trans rfl
      go_simp
      exact hK _ _ (kstep_grow (Below.refl _ _)) rfl
    refine steps_cons ?_ ?_
    · refine step_on3 rfl rfl ?_
      intro ev w5 hS hU hc hf hold hval a K ha hK
      replace hS : Keep (fun _ => False) W w5 := ⟨hS.os, hS.tape, hS.output, hS.size, hS.block⟩
      clear hU
      have e3 : ev (.tmp 3) = .pointer (some ⟨w.heap.size, 0, none⟩) := hold 3 (by kernel_rfl)
      go_simp
      exact hK _ _ (kstep_grow (Below.refl _ _)) rfl
    refine steps_cons ?_ ?_
    · refine step_on3 rfl rfl ?_
      intro ev w5 hS hU hc hf hold hval a K ha hK
      replace hS : Keep (fun _ => False) W w5 := ⟨hS.os, hS.tape, hS.output, hS.size, hS.block⟩
      clear hU
      have e195 : ev (.tmp 195) = .pointer (some ⟨w.heap.size, 3, none⟩) := hval 4 195 (by kernel_rfl) rfl
      have c196 : w5.cell? ⟨w.heap.size, 3, none⟩ = some (.slice AD nd cd) := ((hS.bk F.step (fun h => h)).cell 3).trans rfl
      go_simp
      exact hK _ _ (kstep_grow (Below.refl _ _)) rfl
    refine steps_cons ?_ ?_
    · refine step_on3 rfl rfl ?_
      intro ev w5 hS hU hc hf hold hval a K ha hK
      replace hS : Keep (fun _ => False) W w5 := ⟨hS.os, hS.tape, hS.output, hS.size, hS.block⟩
      clear hU
      have e196 : ev (.tmp 196) = .slice AD nd cd := hval 5 196 (by kernel_rfl) rfl
      have s197 := strOf (hS.rd F.rD F.low.size (fun b hb h => h))
      go_simp
      exact hK _ _ (kstep_grow (Below.refl _ _)) rfl
    refine steps_cons ?_ ?_
    · refine step_on3 rfl rfl ?_
      intro ev w5 hS hU hc hf hold hval a K ha hK
      replace hS : Keep (fun _ => False) W w5 := ⟨hS.os, hS.tape, hS.output, hS.size, hS.block⟩
      clear hU
      have e194 : ev (.tmp 194) = .string ⟨T.toArray⟩ := hval 3 194 (by kernel_rfl) rfl
      have e197 : ev (.tmp 197) = .string ⟨D.toArray⟩ := hval 6 197 (by kernel_rfl) rfl
      go_simp
      refine (Places_any T D n nd L N w5 Hn.out hDl HL.out HN.out (by omega) (by omega)).mono ?_
      rintro e w8 ⟨A9, c9, rfl, hm9, hb9⟩
      exact hK _ _ (kstep_grow hb9) ⟨A9, c9, rfl, hm9.mono (by have := hS.size; have := F.res.lt; omega)⟩
    refine steps_cons ?_ ?_
    · refine step_on3 rfl rfl ?_
      intro ev w5 hS hU hc hf hold hval a K ha hK
      replace hS : Keep (fun _ => False) W w5 := ⟨hS.os, hS.tape, hS.output, hS.size, hS.block⟩
      clear hU
      have p198 : (madeV (w.heap.size + 2) 3 1 N (L.map nv)) (ev (.tmp 198)) w5 := hval 7 198 (by kernel_rfl) rfl
      obtain ⟨A9, c9, e198, hm9⟩ := p198
      go_simp
      exact hK _ _ (kstep_grow (Below.refl _ _)) ⟨A9, c9, rfl, hm9⟩
    exact steps_nil
  · intro ev w6 hS hval hall
    replace hS : Keep (fun _ => False) W w6 := ⟨hS.os, hS.tape, hS.output, hS.size, hS.block⟩
    have p6 : (madeV (w.heap.size + 2) 3 1 N (L.map nv)) (ev (.tmp 6)) w6 := hval 8 6 rfl
    obtain ⟨vJ, pJ⟩ : ∃ v, (madeV (w.heap.size + 2) 3 1 N (L.map nv)) v w6 := hall 8 (by decide)
    simp only [putsOf, List.foldl_cons, List.foldl_nil, Act.put, List.setIfInBounds_toArray, List.set_cons_zero, List.set_cons_succ]
    clear hval hall
    obtain ⟨A9, c9, e6, hm9⟩ := p6
    rw [e6]
    have hbl : Below w.heap.size w w6 := F.low.trans (hS.to_below F.low.size (fun b hb h => h))
    have hres : Bk w6 (w.heap.size + 1) 29 #[.int .i64 0, .int .i64 0, .slice none 0 0, .slice none 0 0] := hS.bk F.res (fun h => h)
    have r0 : w6.cell? ⟨w.heap.size + 1, 0, none⟩ = some (.int .i64 0) := (hres.cell 0).trans rfl
    have f0 := hres.frozen 0
    have r1 : w6.cell? ⟨w.heap.size + 1, 1, none⟩ = some (.int .i64 0) := (hres.cell 1).trans rfl
    have f1 := hres.frozen 1
    have r2 : w6.cell? ⟨w.heap.size + 1, 2, none⟩ = some (.slice none 0 0) := (hres.cell 2).trans rfl
    have f2 := hres.frozen 2
    have r3 : w6.cell? ⟨w.heap.size + 1, 3, none⟩ = some (.slice none 0 0) := (hres.cell 3).trans rfl
    have f3 := hres.frozen 3
    go_wp2
    have hbl2 := grow_set (v0 := .int .i64 0) (v1 := .int .i64 (N : Int)) (v2 := .slice none 0 0) (v3 := .slice A9 N c9) (Nat.le_succ w.heap.size) hbl
    rw [← HN.out] at *
    exact ref_ret (s := w.heap.size + 1) (A1 := none) (c1 := 0) (A2 := A9) (c2 := c9) rfl (res_set hres) (Keep.of_below hbl2) (RdN.nil _ _ _ _) ((hm9.keepF at_set (fun b hb => by subst hb; omega)).mono (by omega)) (Hg.out.below hbl2 hgl)
set_option maxRecDepth 100000 in
set_option maxHeartbeats 4000000 in
theorem Ref_other (gx : Nat) (AD : Option Addr) (nd cd B : Nat) (kind p k : Int) (most : Int) (T D : List UInt8) (n : Nat) (hn : T.length = n) (w : World) (hg : Bk w gx 40 #[.string ⟨T.toArray⟩, .int .i64 most])
    (hd : Rd w B 1 AD nd (D.map bv)) (hB : B ≤ w.heap.size) (hdne : 0 < nd → ∀ a, AD = some a → a.block ≠ gx) (hT : n ≤ 549755813888) (hD : nd ≤ 549755813888) (hpb : -9223372036854775808 ≤ (p : Int) ∧ (p : Int) ≤ 9223372036854775807) (hkb : -9223372036854775808 ≤ (k : Int) ∧ (k : Int) ≤ 9223372036854775807) (hmb : 0 ≤ most ∧ most ≤ 2147483648)
    (hk : kind < 1 ∨ 8 < kind) :
    Calls Try.prog 13 #[.pointer (some ⟨gx, 0, none⟩), stepV kind p k AD nd cd] w fun e w' => RefTold gx most (T) ⟨1, 0, [], []⟩ w w' e := by
  have hDl : D.length = nd := by simpa using hd.1
  have F := ref_start (kind := kind) (p := p) (k := k) (cd := cd) hg hd hB
  have HF := Lib.hid F
  have Hg := Lib.hid hg
  have Hn := Lib.hid hn
  have Hdne := Lib.hid hdne
  have hgl := hg.lt
  have z0 : (⟨T.toArray⟩ : ByteArray).size = n := (ba_size T).trans hn
  have y0 : w.cell? ⟨gx, 0, none⟩ = some (.string ⟨T.toArray⟩) := (hg.cell 0).trans rfl
  clear hd hg F hn hdne
  have t1 : (kind == 1) = false := by rw [beq_eq_false_iff_ne]; omega
  have t2 : (kind == 2) = false := by rw [beq_eq_false_iff_ne]; omega
  have t3 : (kind == 3) = false := by rw [beq_eq_false_iff_ne]; omega
  have t4 : (kind == 4) = false := by rw [beq_eq_false_iff_ne]; omega
  have t5 : (kind == 5) = false := by rw [beq_eq_false_iff_ne]; omega
  have t6 : (kind == 6) = false := by rw [beq_eq_false_iff_ne]; omega
  have t7 : (kind == 7) = false := by rw [beq_eq_false_iff_ne]; omega
  have t8 : (kind == 8) = false := by rw [beq_eq_false_iff_ne]; omega
  clear hk
  unfold stepV
  go_enter Try.func13, Try.ntmps13
  go_wp2
  exact ref_ret (A1 := none) (c1 := 0) (A2 := none) (c2 := 0) rfl (ref_new w kind p k AD nd cd #[.int .i64 1, .int .i64 0, .slice none 0 0, .slice none 0 0]) (Keep.of_below (ref_low _ _ _ _ _ _ _ _)) (RdN.nil _ _ _ _) (made_nil _ _ _) ((Hg.out.alloc _).alloc _)
end Go.Proofs.Ytmebhlopmgfobaa
