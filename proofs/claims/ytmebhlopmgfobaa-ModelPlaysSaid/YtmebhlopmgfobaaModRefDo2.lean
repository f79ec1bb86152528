/- The walk of scrimshawref16's plain text's Do, where it puts in. Conditions: sizes of at most 2^39. -/
import Derived.Test.YtmebhlopmgfobaaModRefDo
namespace Go.Proofs.Ytmebhlopmgfobaa
open Go.RowKit
set_option linter.unusedVariables false
set_option linter.unusedSimpArgs false
set_option maxRecDepth 100000 in
set_option maxHeartbeats 4000000 in
theorem Ref_ins_full (gx : Nat) (AD : Option Addr) (nd cd B : Nat) (p k : Int) (most : Int) (T D : List UInt8) (n : Nat) (hn : T.length = n) (w : World) (hg : Bk w gx 40 #[.string ⟨T.toArray⟩, .int .i64 most])
    (hd : Rd w B 1 AD nd (D.map bv)) (hB : B ≤ w.heap.size) (hdne : 0 < nd → ∀ a, AD = some a → a.block ≠ gx) (hT : n ≤ 549755813888) (hD : nd ≤ 549755813888) (hpb : -9223372036854775808 ≤ (p : Int) ∧ (p : Int) ≤ 9223372036854775807) (hkb : -9223372036854775808 ≤ (k : Int) ∧ (k : Int) ≤ 9223372036854775807) (hmb : 0 ≤ most ∧ most ≤ 2147483648)
    (h0 : ¬ (p < 0)) (h1 : ¬ (p > (n : Int))) (hf : most - (n : Int) < (nd : Int)) :
    Calls Try.prog 13 #[.pointer (some ⟨gx, 0, none⟩), stepV 1 p k AD nd cd] w fun e w' => RefTold gx most (T) ⟨3, 0, [], []⟩ w w' e := by
  have hDl : D.length = nd := by simpa using hd.1
  have F := ref_start (kind := 1) (p := p) (k := k) (cd := cd) hg hd hB
  have HF := Lib.hid F
  have Hg := Lib.hid hg
  have Hn := Lib.hid hn
  have Hdne := Lib.hid hdne
  have hgl := hg.lt
  have z0 : (⟨T.toArray⟩ : ByteArray).size = n := (ba_size T).trans hn
  have y0 : w.cell? ⟨gx, 0, none⟩ = some (.string ⟨T.toArray⟩) := (hg.cell 0).trans rfl
  clear hd hg F hn hdne
  unfold stepV
  go_enter Try.func13, Try.ntmps13
  go_wp2
  obtain ⟨W, hW⟩ : ∃ W, (w.alloc (.cells #[.int .i64 1, .int .i64 p, .int .i64 k, .slice AD nd cd] 32)).alloc (.cells #[.int .i64 0, .int .i64 0, .slice none 0 0, .slice none 0 0] 29) = W := ⟨_, rfl⟩
  rw [hW] at HF ⊢
  have F := HF.out
  clear hW HF
  refine wp_region_any (by kernel_rfl) ?_
  refine wpAny_loose2 [27, 28, 29, 30, 31, 32, 33, 34, 35, 36] Grow (Vs [is (.pointer (some ⟨w.heap.size, 3, none⟩)), is (.slice AD nd cd), is (.int .i64 (nd : Int)), is (.pointer (some ⟨gx, 0, none⟩)), is (.pointer (some ⟨gx, 0, none⟩)), is (.pointer (some ⟨gx, 1, none⟩)), is (.int .i64 most), is (.int .i64 (n : Int)), is (.int .i64 (most - (n : Int))), is (.bool true)]) _ _ rfl (by kernel_rfl) (Below.refl _ _) (fun _ _ => Grow.trans) (stb_all (by repeat' (first | exact stb_is _ | exact stb_row _ _ _ | (refine List.forall_mem_cons.2 ⟨?_, ?_⟩) | (intro p hp; cases hp)))) ?_ ?_
  · refine steps_of ?_
    refine steps_cons ?_ ?_
    · refine step_on rfl rfl ?_
      intro ev w5 hS hc hf hold hval a K ha hK
      have e3 : ev (.tmp 3) = .pointer (some ⟨w.heap.size, 0, none⟩) := hold 3 (by kernel_rfl)
      replace hS : Grow W w5 := ⟨hS.os, hS.tape, hS.output, hS.size, hS.block⟩
      go_simp
      exact hK _ _ (Below.refl _ _) rfl
    refine steps_cons ?_ ?_
    · refine step_on rfl rfl ?_
      intro ev w5 hS hc hf hold hval a K ha hK
      have e27 : ev (.tmp 27) = .pointer (some ⟨w.heap.size, 3, none⟩) := hval 0 27 (by kernel_rfl) rfl
      replace hS : Grow W w5 := ⟨hS.os, hS.tape, hS.output, hS.size, hS.block⟩
      have c28 : w5.cell? ⟨w.heap.size, 3, none⟩ = some (.slice AD nd cd) := ((F.step.below hS F.step.lt).cell 3).trans rfl
      go_simp
      exact hK _ _ (Below.refl _ _) rfl
    refine steps_cons ?_ ?_
    · refine step_on rfl rfl ?_
      intro ev w5 hS hc hf hold hval a K ha hK
      have e28 : ev (.tmp 28) = .slice AD nd cd := hval 1 28 (by kernel_rfl) rfl
      replace hS : Grow W w5 := ⟨hS.os, hS.tape, hS.output, hS.size, hS.block⟩
      go_simp
      exact hK _ _ (Below.refl _ _) rfl
    refine steps_cons ?_ ?_
    · refine step_on rfl rfl ?_
      intro ev w5 hS hc hf hold hval a K ha hK
      have e0 : ev (.tmp 0) = .pointer (some ⟨gx, 0, none⟩) := hold 0 (by kernel_rfl)
      replace hS : Grow W w5 := ⟨hS.os, hS.tape, hS.output, hS.size, hS.block⟩
      go_simp
      exact hK _ _ (Below.refl _ _) rfl
    refine steps_cons ?_ ?_
    · refine step_on rfl rfl ?_
      intro ev w5 hS hc hf hold hval a K ha hK
      have e30 : ev (.tmp 30) = .pointer (some ⟨gx, 0, none⟩) := hval 3 30 (by kernel_rfl) rfl
      replace hS : Grow W w5 := ⟨hS.os, hS.tape, hS.output, hS.size, hS.block⟩
      go_simp
      exact hK _ _ (Below.refl _ _) rfl
    refine steps_cons ?_ ?_
    · refine step_on rfl rfl ?_
      intro ev w5 hS hc hf hold hval a K ha hK
      have e31 : ev (.tmp 31) = .pointer (some ⟨gx, 0, none⟩) := hval 4 31 (by kernel_rfl) rfl
      replace hS : Grow W w5 := ⟨hS.os, hS.tape, hS.output, hS.size, hS.block⟩
      go_simp
      exact hK _ _ (Below.refl _ _) rfl
    refine steps_cons ?_ ?_
    · refine step_on rfl rfl ?_
      intro ev w5 hS hc hf hold hval a K ha hK
      have e32 : ev (.tmp 32) = .pointer (some ⟨gx, 1, none⟩) := hval 5 32 (by kernel_rfl) rfl
      replace hS : Grow W w5 := ⟨hS.os, hS.tape, hS.output, hS.size, hS.block⟩
      have c33 : w5.cell? ⟨gx, 1, none⟩ = some (.int .i64 most) := ((F.mod.below hS F.mod.lt).cell 1).trans rfl
      go_simp
      exact hK _ _ (Below.refl _ _) rfl
    refine steps_cons ?_ ?_
    · refine step_on rfl rfl ?_
      intro ev w5 hS hc hf hold hval a K ha hK
      have e5 : ev (.tmp 5) = .int .i64 (n : Int) := hold 5 (by kernel_rfl)
      replace hS : Grow W w5 := ⟨hS.os, hS.tape, hS.output, hS.size, hS.block⟩
      go_simp
      exact hK _ _ (Below.refl _ _) rfl
    refine steps_cons ?_ ?_
    · refine step_on rfl rfl ?_
      intro ev w5 hS hc hf hold hval a K ha hK
      have e33 : ev (.tmp 33) = .int .i64 most := hval 6 33 (by kernel_rfl) rfl
      have e34 : ev (.tmp 34) = .int .i64 (n : Int) := hval 7 34 (by kernel_rfl) rfl
      replace hS : Grow W w5 := ⟨hS.os, hS.tape, hS.output, hS.size, hS.block⟩
      go_simp
      exact hK _ _ (Below.refl _ _) (i64_eq (by rw [IntKind.wrap_i64]; omega))
    refine steps_cons ?_ ?_
    · refine step_on rfl rfl ?_
      intro ev w5 hS hc hf hold hval a K ha hK
      have e29 : ev (.tmp 29) = .int .i64 (nd : Int) := hval 2 29 (by kernel_rfl) rfl
      have e35 : ev (.tmp 35) = .int .i64 (most - (n : Int)) := hval 8 35 (by kernel_rfl) rfl
      replace hS : Grow W w5 := ⟨hS.os, hS.tape, hS.output, hS.size, hS.block⟩
      go_simp
      exact hK _ _ (Below.refl _ _) (bool_eq (by simp <;> omega))
    exact steps_nil
  · intro ev w6 hS hval
    replace hS : Grow W w6 := ⟨hS.os, hS.tape, hS.output, hS.size, hS.block⟩
    have e36 : ev (.tmp 36) = .bool true := hval 9 36 rfl
    simp only [putsOf, List.foldl_cons, List.foldl_nil, Act.put, List.setIfInBounds_toArray, List.set_cons_zero, List.set_cons_succ]
    rw [e36]
    clear hval
    have hF := F.grow hS
    have hres := hF.res
    have r0 : w6.cell? ⟨w.heap.size + 1, 0, none⟩ = some (.int .i64 0) := (hres.cell 0).trans rfl
    have f0 := hres.frozen 0
    have r1 : w6.cell? ⟨w.heap.size + 1, 1, none⟩ = some (.int .i64 0) := (hres.cell 1).trans rfl
    have f1 := hres.frozen 1
    have r2 : w6.cell? ⟨w.heap.size + 1, 2, none⟩ = some (.slice none 0 0) := (hres.cell 2).trans rfl
    have f2 := hres.frozen 2
    have r3 : w6.cell? ⟨w.heap.size + 1, 3, none⟩ = some (.slice none 0 0) := (hres.cell 3).trans rfl
    have f3 := hres.frozen 3
    go_wp2
    have hbl := grow_set (v0 := .int .i64 3) (v1 := .int .i64 0) (v2 := .slice none 0 0) (v3 := .slice none 0 0) (Nat.le_succ w.heap.size) hF.low
    exact ref_ret (s := w.heap.size + 1) (A1 := none) (c1 := 0) (A2 := none) (c2 := 0) rfl (res_set hres) (Keep.of_below hbl) (RdN.nil _ _ _ _) (made_nil _ _ _) (Hg.out.below hbl hgl)
set_option maxRecDepth 100000 in
set_option maxHeartbeats 4000000 in
theorem Ref_ins_ok (gx : Nat) (AD : Option Addr) (nd cd B : Nat) (p : Nat) (k : Int) (most : Int) (T D : List UInt8) (n : Nat) (hn : T.length = n) (w : World) (hg : Bk w gx 40 #[.string ⟨T.toArray⟩, .int .i64 most])
    (hd : Rd w B 1 AD nd (D.map bv)) (hB : B ≤ w.heap.size) (hdne : 0 < nd → ∀ a, AD = some a → a.block ≠ gx) (hT : n ≤ 549755813888) (hD : nd ≤ 549755813888) (hpb : -9223372036854775808 ≤ (p : Int) ∧ (p : Int) ≤ 9223372036854775807) (hkb : -9223372036854775808 ≤ (k : Int) ∧ (k : Int) ≤ 9223372036854775807) (hmb : 0 ≤ most ∧ most ≤ 2147483648)
    (h1 : p ≤ n) (hf : (nd : Int) ≤ most - (n : Int)) :
    Calls Try.prog 13 #[.pointer (some ⟨gx, 0, none⟩), stepV 1 p k AD nd cd] w fun e w' => RefTold gx most (T.take p ++ (D ++ T.drop (p + 0))) ⟨0, 0, [], []⟩ w w' e := by
  have hDl : D.length = nd := by simpa using hd.1
  have F := ref_start (kind := 1) (p := p) (k := k) (cd := cd) hg hd hB
  have HF := Lib.hid F
  have Hg := Lib.hid hg
  have Hn := Lib.hid hn
  have Hdne := Lib.hid hdne
  have hgl := hg.lt
  have z0 : (⟨T.toArray⟩ : ByteArray).size = n := (ba_size T).trans hn
  have y0 : w.cell? ⟨gx, 0, none⟩ = some (.string ⟨T.toArray⟩) := (hg.cell 0).trans rfl
  clear hd hg F hn hdne
  obtain ⟨T2, hT2⟩ : ∃ T2, (T.take p ++ D) ++ T.drop p = T2 := ⟨_, rfl⟩
  have hT2' : T.take p ++ (D ++ T.drop (p + 0)) = T2 := by rw [Nat.add_zero, ← List.append_assoc]; exact hT2
  rw [hT2']
  have HT2 := Lib.hid hT2
  clear hT2 hT2'
  have a1 := fun w => at_hi T w p (by have := Hn.out; omega)
  have a2 := fun w => at_lo T w p (by have := Hn.out; omega)
  have b1 := fun w => sub_hi T w p (by have := Hn.out; omega)
  have b2 := fun w => sub_lo T w p (by have := Hn.out; omega)
  have d0 : ¬ ((p : Int) < 0) := by omega
  have d1 : ¬ ((p : Int) > (n : Int)) := by omega
  unfold stepV
  go_enter Try.func13, Try.ntmps13
  go_wp2
  obtain ⟨W, hW⟩ : ∃ W, (w.alloc (.cells #[.int .i64 1, .int .i64 p, .int .i64 k, .slice AD nd cd] 32)).alloc (.cells #[.int .i64 0, .int .i64 0, .slice none 0 0, .slice none 0 0] 29) = W := ⟨_, rfl⟩
  rw [hW] at HF ⊢
  have F := HF.out
  clear hW HF
  refine wp_region_any (by kernel_rfl) ?_
  refine wpAny_loose2 [27, 28, 29, 30, 31, 32, 33, 34, 35, 36] Grow (Vs [is (.pointer (some ⟨w.heap.size, 3, none⟩)), is (.slice AD nd cd), is (.int .i64 (nd : Int)), is (.pointer (some ⟨gx, 0, none⟩)), is (.pointer (some ⟨gx, 0, none⟩)), is (.pointer (some ⟨gx, 1, none⟩)), is (.int .i64 most), is (.int .i64 (n : Int)), is (.int .i64 (most - (n : Int))), is (.bool false)]) _ _ rfl (by kernel_rfl) (Below.refl _ _) (fun _ _ => Grow.trans) (stb_all (by repeat' (first | exact stb_is _ | exact stb_row _ _ _ | (refine List.forall_mem_cons.2 ⟨?_, ?_⟩) | (intro p hp; cases hp)))) ?_ ?_
  · refine steps_of ?_
    refine steps_cons ?_ ?_
    · refine step_on rfl rfl ?_
      intro ev w5 hS hc hf hold hval a K ha hK
      have e3 : ev (.tmp 3) = .pointer (some ⟨w.heap.size, 0, none⟩) := hold 3 (by kernel_rfl)
      replace hS : Grow W w5 := ⟨hS.os, hS.tape, hS.output, hS.size, hS.block⟩
      go_simp
      exact hK _ _ (Below.refl _ _) rfl
    refine steps_cons ?_ ?_
    · refine step_on rfl rfl ?_
      intro ev w5 hS hc hf hold hval a K ha hK
      have e27 : ev (.tmp 27) = .pointer (some ⟨w.heap.size, 3, none⟩) := hval 0 27 (by kernel_rfl) rfl
      replace hS : Grow W w5 := ⟨hS.os, hS.tape, hS.output, hS.size, hS.block⟩
      have c28 : w5.cell? ⟨w.heap.size, 3, none⟩ = some (.slice AD nd cd) := ((F.step.below hS F.step.lt).cell 3).trans rfl
      go_simp
      exact hK _ _ (Below.refl _ _) rfl
    refine steps_cons ?_ ?_
    · refine step_on rfl rfl ?_
      intro ev w5 hS hc hf hold hval a K ha hK
      have e28 : ev (.tmp 28) = .slice AD nd cd := hval 1 28 (by kernel_rfl) rfl
      replace hS : Grow W w5 := ⟨hS.os, hS.tape, hS.output, hS.size, hS.block⟩
      go_simp
      exact hK _ _ (Below.refl _ _) rfl
    refine steps_cons ?_ ?_
    · refine step_on rfl rfl ?_
      intro ev w5 hS hc hf hold hval a K ha hK
      have e0 : ev (.tmp 0) = .pointer (some ⟨gx, 0, none⟩) := hold 0 (by kernel_rfl)
      replace hS : Grow W w5 := ⟨hS.os, hS.tape, hS.output, hS.size, hS.block⟩
      go_simp
      exact hK _ _ (Below.refl _ _) rfl
    refine steps_cons ?_ ?_
    · refine step_on rfl rfl ?_
      intro ev w5 hS hc hf hold hval a K ha hK
      have e30 : ev (.tmp 30) = .pointer (some ⟨gx, 0, none⟩) := hval 3 30 (by kernel_rfl) rfl
      replace hS : Grow W w5 := ⟨hS.os, hS.tape, hS.output, hS.size, hS.block⟩
      go_simp
      exact hK _ _ (Below.refl _ _) rfl
    refine steps_cons ?_ ?_
    · refine step_on rfl rfl ?_
      intro ev w5 hS hc hf hold hval a K ha hK
      have e31 : ev (.tmp 31) = .pointer (some ⟨gx, 0, none⟩) := hval 4 31 (by kernel_rfl) rfl
      replace hS : Grow W w5 := ⟨hS.os, hS.tape, hS.output, hS.size, hS.block⟩
      go_simp
      exact hK _ _ (Below.refl _ _) rfl
    refine steps_cons ?_ ?_
    · refine step_on rfl rfl ?_
      intro ev w5 hS hc hf hold hval a K ha hK
      have e32 : ev (.tmp 32) = .pointer (some ⟨gx, 1, none⟩) := hval 5 32 (by kernel_rfl) rfl
      replace hS : Grow W w5 := ⟨hS.os, hS.tape, hS.output, hS.size, hS.block⟩
      have c33 : w5.cell? ⟨gx, 1, none⟩ = some (.int .i64 most) := ((F.mod.below hS F.mod.lt).cell 1).trans rfl
      go_simp
      exact hK _ _ (Below.refl _ _) rfl
    refine steps_cons ?_ ?_
    · refine step_on rfl rfl ?_
      intro ev w5 hS hc hf hold hval a K ha hK
      have e5 : ev (.tmp 5) = .int .i64 (n : Int) := hold 5 (by kernel_rfl)
      replace hS : Grow W w5 := ⟨hS.os, hS.tape, hS.output, hS.size, hS.block⟩
      go_simp
      exact hK _ _ (Below.refl _ _) rfl
    refine steps_cons ?_ ?_
    · refine step_on rfl rfl ?_
      intro ev w5 hS hc hf hold hval a K ha hK
      have e33 : ev (.tmp 33) = .int .i64 most := hval 6 33 (by kernel_rfl) rfl
      have e34 : ev (.tmp 34) = .int .i64 (n : Int) := hval 7 34 (by kernel_rfl) rfl
      replace hS : Grow W w5 := ⟨hS.os, hS.tape, hS.output, hS.size, hS.block⟩
      go_simp
      exact hK _ _ (Below.refl _ _) (i64_eq (by rw [IntKind.wrap_i64]; omega))
    refine steps_cons ?_ ?_
    · refine step_on rfl rfl ?_
      intro ev w5 hS hc hf hold hval a K ha hK
      have e29 : ev (.tmp 29) = .int .i64 (nd : Int) := hval 2 29 (by kernel_rfl) rfl
      have e35 : ev (.tmp 35) = .int .i64 (most - (n : Int)) := hval 8 35 (by kernel_rfl) rfl
      replace hS : Grow W w5 := ⟨hS.os, hS.tape, hS.output, hS.size, hS.block⟩
      go_simp
      exact hK _ _ (Below.refl _ _) (bool_eq (by simp <;> omega))
    exact steps_nil
  · intro ev w6 hS hval
    replace hS : Grow W w6 := ⟨hS.os, hS.tape, hS.output, hS.size, hS.block⟩
    have e36 : ev (.tmp 36) = .bool false := hval 9 36 rfl
    simp only [putsOf, List.foldl_cons, List.foldl_nil, Act.put, List.setIfInBounds_toArray, List.set_cons_zero, List.set_cons_succ]
    rw [e36]
    clear hval
    have F6 := F.grow hS
    clear F hS
    revert F6
    generalize w6 = W2
    intro F
    go_wp2
    refine wp_region_any (by kernel_rfl) ?_
    refine wpAny_keep [38, 39, 40, 41, 42, 43, 44, 45, 46, 47, 48, 49, 50, 51, 52, 53, 54, 55, 56, 57, 58, 59] (fun b => b = gx) 22 [4, 15, 22] (fun w1 => Bk w1 gx 40 #[.string ⟨T.toArray⟩, .int .i64 most]) (fun _ w1 => Bk w1 gx 40 #[.string ⟨T2.toArray⟩, .int .i64 most]) [is (.pointer (some ⟨gx, 0, none⟩)), is (.pointer (some ⟨gx, 0, none⟩)), is (.pointer (some ⟨gx, 0, none⟩)), is (.pointer (some ⟨gx, 0, none⟩)), is (.string ⟨T.toArray⟩), is (.pointer (some ⟨w.heap.size, 1, none⟩)), is (.int .i64 (p : Int)), is (.string ⟨(T.take p).toArray⟩), is (.pointer (some ⟨w.heap.size, 3, none⟩)), is (.slice AD nd cd), is (.string ⟨D.toArray⟩), is (.string ⟨(T.take p ++ D).toArray⟩), is (.pointer (some ⟨gx, 0, none⟩)), is (.pointer (some ⟨gx, 0, none⟩)), is (.pointer (some ⟨gx, 0, none⟩)), is (.string ⟨T.toArray⟩), is (.pointer (some ⟨w.heap.size, 1, none⟩)), is (.int .i64 (p : Int)), is (.string ⟨(T.drop p).toArray⟩), is (.string ⟨T2.toArray⟩), is (.pointer (some ⟨gx, 0, none⟩)), is (.pointer (some ⟨gx, 0, none⟩)), anyV] _ _ rfl (by kernel_rfl) (by kernel_rfl) (F.mod) (fun w1 w2 h _ hg => Bk.below h hg h.lt) (fun _ _ _ h k => Bk.below h k h.lt) (by repeat' (first | exact stbk_is _ _ | exact stbk_any _ | (refine List.forall_mem_cons.2 ⟨?_, ?_⟩) | (intro p hp; cases hp))) ?_ ?_
    · refine steps_of ?_
      refine steps_cons ?_ ?_
      · refine step_on3 rfl rfl ?_
        intro ev w5 hS hU hc hf hold hval a K ha hK
        replace hS : Keep (fun b => b = gx) W2 w5 := ⟨hS.os, hS.tape, hS.output, hS.size, hS.block⟩
        clear hU
        have e0 : ev (.tmp 0) = .pointer (some ⟨gx, 0, none⟩) := hold 0 (by kernel_rfl)
        go_simp
        exact hK _ _ (kstep_grow (Below.refl _ _)) rfl
      refine steps_cons ?_ ?_
      · refine step_on3 rfl rfl ?_
        intro ev w5 hS hU hc hf hold hval a K ha hK
        replace hS : Keep (fun b => b = gx) W2 w5 := ⟨hS.os, hS.tape, hS.output, hS.size, hS.block⟩
        clear hU
        have e0 : ev (.tmp 0) = .pointer (some ⟨gx, 0, none⟩) := hold 0 (by kernel_rfl)
        go_simp
        exact hK _ _ (kstep_grow (Below.refl _ _)) rfl
      refine steps_cons ?_ ?_
      · refine step_on3 rfl rfl ?_
        intro ev w5 hS hU hc hf hold hval a K ha hK
        replace hS : Keep (fun b => b = gx) W2 w5 := ⟨hS.os, hS.tape, hS.output, hS.size, hS.block⟩
        clear hU
        have e39 : ev (.tmp 39) = .pointer (some ⟨gx, 0, none⟩) := hval 1 39 (by kernel_rfl) rfl
        go_simp
        exact hK _ _ (kstep_grow (Below.refl _ _)) rfl
      refine steps_cons ?_ ?_
      · refine step_on3 rfl rfl ?_
        intro ev w5 hS hU hc hf hold hval a K ha hK
        replace hS : Keep (fun b => b = gx) W2 w5 := ⟨hS.os, hS.tape, hS.output, hS.size, hS.block⟩
        clear hU
        have e40 : ev (.tmp 40) = .pointer (some ⟨gx, 0, none⟩) := hval 2 40 (by kernel_rfl) rfl
        go_simp
        exact hK _ _ (kstep_grow (Below.refl _ _)) rfl
      refine steps_cons ?_ ?_
      · refine step_on3 rfl rfl ?_
        intro ev w5 hS hU hc hf hold hval a K ha hK
        replace hS : Keep (fun b => b = gx) W2 w5 := ⟨hS.os, hS.tape, hS.output, hS.size, hS.block⟩
        have hpre := hU rfl
        clear hU
        have e41 : ev (.tmp 41) = .pointer (some ⟨gx, 0, none⟩) := hval 3 41 (by kernel_rfl) rfl
        have c42 : w5.cell? ⟨gx, 0, none⟩ = some (.string ⟨T.toArray⟩) := (hpre.cell 0).trans rfl
        go_simp
        exact hK _ _ (kstep_grow (Below.refl _ _)) rfl
      refine steps_cons ?_ ?_
      · refine step_on3 rfl rfl ?_
        intro ev w5 hS hU hc hf hold hval a K ha hK
        replace hS : Keep (fun b => b = gx) W2 w5 := ⟨hS.os, hS.tape, hS.output, hS.size, hS.block⟩
        clear hU
        have e3 : ev (.tmp 3) = .pointer (some ⟨w.heap.size, 0, none⟩) := hold 3 (by kernel_rfl)
        go_simp
        exact hK _ _ (kstep_grow (Below.refl _ _)) rfl
      refine steps_cons ?_ ?_
      · refine step_on3 rfl rfl ?_
        intro ev w5 hS hU hc hf hold hval a K ha hK
        replace hS : Keep (fun b => b = gx) W2 w5 := ⟨hS.os, hS.tape, hS.output, hS.size, hS.block⟩
        clear hU
        have e43 : ev (.tmp 43) = .pointer (some ⟨w.heap.size, 1, none⟩) := hval 5 43 (by kernel_rfl) rfl
        have c44 : w5.cell? ⟨w.heap.size, 1, none⟩ = some (.int .i64 (p : Int)) := ((hS.bk F.step (fun h => absurd (show w.heap.size = gx from h) (by have := F.gxl; omega))).cell 1).trans rfl
        go_simp
        exact hK _ _ (kstep_grow (Below.refl _ _)) rfl
      refine steps_cons ?_ ?_
      · refine step_on3 rfl rfl ?_
        intro ev w5 hS hU hc hf hold hval a K ha hK
        replace hS : Keep (fun b => b = gx) W2 w5 := ⟨hS.os, hS.tape, hS.output, hS.size, hS.block⟩
        clear hU
        have e42 : ev (.tmp 42) = .string ⟨T.toArray⟩ := hval 4 42 (by kernel_rfl) rfl
        have e44 : ev (.tmp 44) = .int .i64 (p : Int) := hval 6 44 (by kernel_rfl) rfl
        go_simp
        exact hK _ _ (kstep_grow (Below.refl _ _)) rfl
      refine steps_cons ?_ ?_
      · refine step_on3 rfl rfl ?_
        intro ev w5 hS hU hc hf hold hval a K ha hK
        replace hS : Keep (fun b => b = gx) W2 w5 := ⟨hS.os, hS.tape, hS.output, hS.size, hS.block⟩
        clear hU
        have e3 : ev (.tmp 3) = .pointer (some ⟨w.heap.size, 0, none⟩) := hold 3 (by kernel_rfl)
        go_simp
        exact hK _ _ (kstep_grow (Below.refl _ _)) rfl
      refine steps_cons ?_ ?_
      · refine step_on3 rfl rfl ?_
        intro ev w5 hS hU hc hf hold hval a K ha hK
        replace hS : Keep (fun b => b = gx) W2 w5 := ⟨hS.os, hS.tape, hS.output, hS.size, hS.block⟩
        clear hU
        have e46 : ev (.tmp 46) = .pointer (some ⟨w.heap.size, 3, none⟩) := hval 8 46 (by kernel_rfl) rfl
        have c47 : w5.cell? ⟨w.heap.size, 3, none⟩ = some (.slice AD nd cd) := ((hS.bk F.step (fun h => absurd (show w.heap.size = gx from h) (by have := F.gxl; omega))).cell 3).trans rfl
        go_simp
        exact hK _ _ (kstep_grow (Below.refl _ _)) rfl
      refine steps_cons ?_ ?_
      · refine step_on3 rfl rfl ?_
        intro ev w5 hS hU hc hf hold hval a K ha hK
        replace hS : Keep (fun b => b = gx) W2 w5 := ⟨hS.os, hS.tape, hS.output, hS.size, hS.block⟩
        clear hU
        have e47 : ev (.tmp 47) = .slice AD nd cd := hval 9 47 (by kernel_rfl) rfl
        have s48 := strOf (Rd.keepF F.rD hS F.low.size Hdne.out)
        go_simp
        exact hK _ _ (kstep_grow (Below.refl _ _)) rfl
      refine steps_cons ?_ ?_
      · refine step_on3 rfl rfl ?_
        intro ev w5 hS hU hc hf hold hval a K ha hK
        replace hS : Keep (fun b => b = gx) W2 w5 := ⟨hS.os, hS.tape, hS.output, hS.size, hS.block⟩
        clear hU
        have e45 : ev (.tmp 45) = .string ⟨(T.take p).toArray⟩ := hval 7 45 (by kernel_rfl) rfl
        have e48 : ev (.tmp 48) = .string ⟨D.toArray⟩ := hval 10 48 (by kernel_rfl) rfl
        go_simp
        rw [if_neg (by have := Hn.out; simp; omega)]
        exact hK _ _ (kstep_grow (Below.refl _ _)) (str_catR _ _)
      refine steps_cons ?_ ?_
      · refine step_on3 rfl rfl ?_
        intro ev w5 hS hU hc hf hold hval a K ha hK
        replace hS : Keep (fun b => b = gx) W2 w5 := ⟨hS.os, hS.tape, hS.output, hS.size, hS.block⟩
        clear hU
        have e0 : ev (.tmp 0) = .pointer (some ⟨gx, 0, none⟩) := hold 0 (by kernel_rfl)
        go_simp
        exact hK _ _ (kstep_grow (Below.refl _ _)) rfl
      refine steps_cons ?_ ?_
      · refine step_on3 rfl rfl ?_
        intro ev w5 hS hU hc hf hold hval a K ha hK
        replace hS : Keep (fun b => b = gx) W2 w5 := ⟨hS.os, hS.tape, hS.output, hS.size, hS.block⟩
        clear hU
        have e50 : ev (.tmp 50) = .pointer (some ⟨gx, 0, none⟩) := hval 12 50 (by kernel_rfl) rfl
        go_simp
        exact hK _ _ (kstep_grow (Below.refl _ _)) rfl
      refine steps_cons ?_ ?_
      · refine step_on3 rfl rfl ?_
        intro ev w5 hS hU hc hf hold hval a K ha hK
        replace hS : Keep (fun b => b = gx) W2 w5 := ⟨hS.os, hS.tape, hS.output, hS.size, hS.block⟩
        clear hU
        have e51 : ev (.tmp 51) = .pointer (some ⟨gx, 0, none⟩) := hval 13 51 (by kernel_rfl) rfl
        go_simp
        exact hK _ _ (kstep_grow (Below.refl _ _)) rfl
      refine steps_cons ?_ ?_
      · refine step_on3 rfl rfl ?_
        intro ev w5 hS hU hc hf hold hval a K ha hK
        replace hS : Keep (fun b => b = gx) W2 w5 := ⟨hS.os, hS.tape, hS.output, hS.size, hS.block⟩
        have hpre := hU rfl
        clear hU
        have e52 : ev (.tmp 52) = .pointer (some ⟨gx, 0, none⟩) := hval 14 52 (by kernel_rfl) rfl
        have c53 : w5.cell? ⟨gx, 0, none⟩ = some (.string ⟨T.toArray⟩) := (hpre.cell 0).trans rfl
        go_simp
        exact hK _ _ (kstep_grow (Below.refl _ _)) rfl
      refine steps_cons ?_ ?_
      · refine step_on3 rfl rfl ?_
        intro ev w5 hS hU hc hf hold hval a K ha hK
        replace hS : Keep (fun b => b = gx) W2 w5 := ⟨hS.os, hS.tape, hS.output, hS.size, hS.block⟩
        clear hU
        have e3 : ev (.tmp 3) = .pointer (some ⟨w.heap.size, 0, none⟩) := hold 3 (by kernel_rfl)
        go_simp
        exact hK _ _ (kstep_grow (Below.refl _ _)) rfl
      refine steps_cons ?_ ?_
      · refine step_on3 rfl rfl ?_
        intro ev w5 hS hU hc hf hold hval a K ha hK
        replace hS : Keep (fun b => b = gx) W2 w5 := ⟨hS.os, hS.tape, hS.output, hS.size, hS.block⟩
        clear hU
        have e54 : ev (.tmp 54) = .pointer (some ⟨w.heap.size, 1, none⟩) := hval 16 54 (by kernel_rfl) rfl
        have c55 : w5.cell? ⟨w.heap.size, 1, none⟩ = some (.int .i64 (p : Int)) := ((hS.bk F.step (fun h => absurd (show w.heap.size = gx from h) (by have := F.gxl; omega))).cell 1).trans rfl
        go_simp
        exact hK _ _ (kstep_grow (Below.refl _ _)) rfl
      refine steps_cons ?_ ?_
      · refine step_on3 rfl rfl ?_
        intro ev w5 hS hU hc hf hold hval a K ha hK
        replace hS : Keep (fun b => b = gx) W2 w5 := ⟨hS.os, hS.tape, hS.output, hS.size, hS.block⟩
        clear hU
        have e53 : ev (.tmp 53) = .string ⟨T.toArray⟩ := hval 15 53 (by kernel_rfl) rfl
        have e55 : ev (.tmp 55) = .int .i64 (p : Int) := hval 17 55 (by kernel_rfl) rfl
        go_simp
        exact hK _ _ (kstep_grow (Below.refl _ _)) rfl
      refine steps_cons ?_ ?_
      · refine step_on3 rfl rfl ?_
        intro ev w5 hS hU hc hf hold hval a K ha hK
        replace hS : Keep (fun b => b = gx) W2 w5 := ⟨hS.os, hS.tape, hS.output, hS.size, hS.block⟩
        clear hU
        have e49 : ev (.tmp 49) = .string ⟨(T.take p ++ D).toArray⟩ := hval 11 49 (by kernel_rfl) rfl
        have e56 : ev (.tmp 56) = .string ⟨(T.drop p).toArray⟩ := hval 18 56 (by kernel_rfl) rfl
        go_simp
        rw [if_neg (by have := Hn.out; simp; omega)]
        exact hK _ _ (kstep_grow (Below.refl _ _)) ((str_catR _ _).trans (by rw [HT2.out]))
      refine steps_cons ?_ ?_
      · refine step_on3 rfl rfl ?_
        intro ev w5 hS hU hc hf hold hval a K ha hK
        replace hS : Keep (fun b => b = gx) W2 w5 := ⟨hS.os, hS.tape, hS.output, hS.size, hS.block⟩
        clear hU
        have e38 : ev (.tmp 38) = .pointer (some ⟨gx, 0, none⟩) := hval 0 38 (by kernel_rfl) rfl
        go_simp
        exact hK _ _ (kstep_grow (Below.refl _ _)) rfl
      refine steps_cons ?_ ?_
      · refine step_on3 rfl rfl ?_
        intro ev w5 hS hU hc hf hold hval a K ha hK
        replace hS : Keep (fun b => b = gx) W2 w5 := ⟨hS.os, hS.tape, hS.output, hS.size, hS.block⟩
        clear hU
        have e58 : ev (.tmp 58) = .pointer (some ⟨gx, 0, none⟩) := hval 20 58 (by kernel_rfl) rfl
        go_simp
        exact hK _ _ (kstep_grow (Below.refl _ _)) rfl
      refine steps_cons ?_ ?_
      · refine step_on3 rfl rfl ?_
        intro ev w5 hS hU hc hf hold hval a K ha hK
        replace hS : Keep (fun b => b = gx) W2 w5 := ⟨hS.os, hS.tape, hS.output, hS.size, hS.block⟩
        have hpre := hU rfl
        clear hU
        have e59 : ev (.tmp 59) = .pointer (some ⟨gx, 0, none⟩) := hval 21 59 (by kernel_rfl) rfl
        have e57 : ev (.tmp 57) = .string ⟨T2.toArray⟩ := hval 19 57 (by kernel_rfl) rfl
        have f20 := hpre.frozen 0
        have c20 : w5.cell? ⟨gx, 0, none⟩ = some (.string ⟨T.toArray⟩) := (hpre.cell 0).trans rfl
        go_simp
        exact hK (.bool true) _ (kstep_keep (Keep.setCell (F := fun b => b = gx) (Keep.refl _ _) (p := ⟨gx, 0, none⟩) (.inl rfl) _)) (hpre.set 0 _)
      exact steps_nil
    · intro ev w6 hS hval hall
      replace hS : Keep (fun b => b = gx) W2 w6 := ⟨hS.os, hS.tape, hS.output, hS.size, hS.block⟩
      obtain ⟨vJ, pJ⟩ : ∃ v, (fun _ w1 => Bk w1 gx 40 #[.string ⟨T2.toArray⟩, .int .i64 most]) v w6 := hall 22 (by decide)
      simp only [putsOf, List.foldl_cons, List.foldl_nil, Act.put, List.setIfInBounds_toArray, List.set_cons_zero, List.set_cons_succ]
      clear hval hall
      have hgs := F.gxl
      have hres := hS.bk F.res (fun h => absurd (show w.heap.size + 1 = gx from h) (by omega))
      have r0 : w6.cell? ⟨w.heap.size + 1, 0, none⟩ = some (.int .i64 0) := (hres.cell 0).trans rfl
      have f0 := hres.frozen 0
      have r1 : w6.cell? ⟨w.heap.size + 1, 1, none⟩ = some (.int .i64 0) := (hres.cell 1).trans rfl
      have f1 := hres.frozen 1
      have r2 : w6.cell? ⟨w.heap.size + 1, 2, none⟩ = some (.slice none 0 0) := (hres.cell 2).trans rfl
      have f2 := hres.frozen 2
      have r3 : w6.cell? ⟨w.heap.size + 1, 3, none⟩ = some (.slice none 0 0) := (hres.cell 3).trans rfl
      have f3 := hres.frozen 3
      go_wp2
      have hbl := keep_set (v0 := .int .i64 0) (v1 := .int .i64 0) (v2 := .slice none 0 0) (v3 := .slice none 0 0) (Nat.le_succ w.heap.size) ((Keep.of_below F.low).trans hS)
      have hset := at_set (W := w6) (s := w.heap.size + 1) (v0 := .int .i64 0) (v1 := .int .i64 0) (v2 := .slice none 0 0) (v3 := .slice none 0 0)
      exact ref_ret (s := w.heap.size + 1) (A1 := none) (c1 := 0) (A2 := none) (c2 := 0) rfl (res_set hres) hbl (RdN.nil _ _ _ _) (made_nil _ _ _) (hset.bk pJ (fun h => absurd (show gx = w.heap.size + 1 from h) (by have := F.gxl; omega)))
set_option maxRecDepth 100000 in
set_option maxHeartbeats 4000000 in
theorem Ref_del_ok (gx : Nat) (AD : Option Addr) (nd cd B : Nat) (p k : Nat) (most : Int) (T D : List UInt8) (n : Nat) (hn : T.length = n) (w : World) (hg : Bk w gx 40 #[.string ⟨T.toArray⟩, .int .i64 most])
    (hd : Rd w B 1 AD nd (D.map bv)) (hB : B ≤ w.heap.size) (hdne : 0 < nd → ∀ a, AD = some a → a.block ≠ gx) (hT : n ≤ 549755813888) (hD : nd ≤ 549755813888) (hpb : -9223372036854775808 ≤ (p : Int) ∧ (p : Int) ≤ 9223372036854775807) (hkb : -9223372036854775808 ≤ (k : Int) ∧ (k : Int) ≤ 9223372036854775807) (hmb : 0 ≤ most ∧ most ≤ 2147483648)
    (h1 : p + k ≤ n) :
    Calls Try.prog 13 #[.pointer (some ⟨gx, 0, none⟩), stepV 2 p k AD nd cd] w fun e w' => RefTold gx most (T.take p ++ ([] ++ T.drop (p + k))) ⟨0, 0, [], []⟩ w w' e := by
  have hDl : D.length = nd := by simpa using hd.1
  have F := ref_start (kind := 2) (p := p) (k := k) (cd := cd) hg hd hB
  have HF := Lib.hid F
  have Hg := Lib.hid hg
  have Hn := Lib.hid hn
  have Hdne := Lib.hid hdne
  have hgl := hg.lt
  have z0 : (⟨T.toArray⟩ : ByteArray).size = n := (ba_size T).trans hn
  have y0 : w.cell? ⟨gx, 0, none⟩ = some (.string ⟨T.toArray⟩) := (hg.cell 0).trans rfl
  clear hd hg F hn hdne
  obtain ⟨q, hq⟩ : ∃ q, p + k = q := ⟨_, rfl⟩
  obtain ⟨T2, hT2⟩ : ∃ T2, (T.take p ++ []) ++ T.drop q = T2 := ⟨_, rfl⟩
  have hT2' : T.take p ++ ([] ++ T.drop (p + k)) = T2 := by rw [hq, ← List.append_assoc]; exact hT2
  rw [hT2']
  have HT2 := Lib.hid hT2
  clear hT2 hT2'
  have a1 := fun w => at_hi T w p (by have := Hn.out; omega)
  have a2 := fun w => at_lo T w q (by have := Hn.out; omega)
  have b1 := fun w => sub_hi T w p (by have := Hn.out; omega)
  have b2 := fun w => sub_lo T w q (by have := Hn.out; omega)
  have d0 : ¬ ((p : Int) < 0) := by omega
  have d1 : ¬ ((p : Int) > (n : Int)) := by omega
  have d2 : ¬ ((k : Int) > (n : Int) - (p : Int)) := by omega
  have d3 : ¬ ((k : Int) < 0) := by omega
  unfold stepV
  go_enter Try.func13, Try.ntmps13
  go_wp2
  obtain ⟨W, hW⟩ : ∃ W, (w.alloc (.cells #[.int .i64 2, .int .i64 p, .int .i64 k, .slice AD nd cd] 32)).alloc (.cells #[.int .i64 0, .int .i64 0, .slice none 0 0, .slice none 0 0] 29) = W := ⟨_, rfl⟩
  rw [hW] at HF ⊢
  have F := HF.out
  clear hW HF
  refine wp_region_any (by kernel_rfl) ?_
  refine wpAny_keep [104, 105, 106, 107, 108, 109, 110, 111, 112, 113, 114, 115, 116, 117, 118, 119, 120, 121, 122, 123, 124] (fun b => b = gx) 21 [4, 11, 21] (fun w1 => Bk w1 gx 40 #[.string ⟨T.toArray⟩, .int .i64 most]) (fun _ w1 => Bk w1 gx 40 #[.string ⟨T2.toArray⟩, .int .i64 most]) [is (.pointer (some ⟨gx, 0, none⟩)), is (.pointer (some ⟨gx, 0, none⟩)), is (.pointer (some ⟨gx, 0, none⟩)), is (.pointer (some ⟨gx, 0, none⟩)), is (.string ⟨T.toArray⟩), is (.pointer (some ⟨w.heap.size, 1, none⟩)), is (.int .i64 (p : Int)), is (.string ⟨(T.take p).toArray⟩), is (.pointer (some ⟨gx, 0, none⟩)), is (.pointer (some ⟨gx, 0, none⟩)), is (.pointer (some ⟨gx, 0, none⟩)), is (.string ⟨T.toArray⟩), is (.pointer (some ⟨w.heap.size, 1, none⟩)), is (.int .i64 (p : Int)), is (.pointer (some ⟨w.heap.size, 2, none⟩)), is (.int .i64 (k : Int)), is (.int .i64 (q : Int)), is (.string ⟨(T.drop q).toArray⟩), is (.string ⟨T2.toArray⟩), is (.pointer (some ⟨gx, 0, none⟩)), is (.pointer (some ⟨gx, 0, none⟩)), anyV] _ _ rfl (by kernel_rfl) (by kernel_rfl) (F.mod) (fun w1 w2 h _ hg => Bk.below h hg h.lt) (fun _ _ _ h k => Bk.below h k h.lt) (by repeat' (first | exact stbk_is _ _ | exact stbk_any _ | (refine List.forall_mem_cons.2 ⟨?_, ?_⟩) | (intro p hp; cases hp))) ?_ ?_
  · refine steps_of ?_
    refine steps_cons ?_ ?_
    · refine step_on3 rfl rfl ?_
      intro ev w5 hS hU hc hf hold hval a K ha hK
      replace hS : Keep (fun b => b = gx) W w5 := ⟨hS.os, hS.tape, hS.output, hS.size, hS.block⟩
      clear hU
      have e0 : ev (.tmp 0) = .pointer (some ⟨gx, 0, none⟩) := hold 0 (by kernel_rfl)
      go_simp
      exact hK _ _ (kstep_grow (Below.refl _ _)) rfl
    refine steps_cons ?_ ?_
    · refine step_on3 rfl rfl ?_
      intro ev w5 hS hU hc hf hold hval a K ha hK
      replace hS : Keep (fun b => b = gx) W w5 := ⟨hS.os, hS.tape, hS.output, hS.size, hS.block⟩
      clear hU
      have e0 : ev (.tmp 0) = .pointer (some ⟨gx, 0, none⟩) := hold 0 (by kernel_rfl)
      go_simp
      exact hK _ _ (kstep_grow (Below.refl _ _)) rfl
    refine steps_cons ?_ ?_
    · refine step_on3 rfl rfl ?_
      intro ev w5 hS hU hc hf hold hval a K ha hK
      replace hS : Keep (fun b => b = gx) W w5 := ⟨hS.os, hS.tape, hS.output, hS.size, hS.block⟩
      clear hU
      have e105 : ev (.tmp 105) = .pointer (some ⟨gx, 0, none⟩) := hval 1 105 (by kernel_rfl) rfl
      go_simp
      exact hK _ _ (kstep_grow (Below.refl _ _)) rfl
    refine steps_cons ?_ ?_
    · refine step_on3 rfl rfl ?_
      intro ev w5 hS hU hc hf hold hval a K ha hK
      replace hS : Keep (fun b => b = gx) W w5 := ⟨hS.os, hS.tape, hS.output, hS.size, hS.block⟩
      clear hU
      have e106 : ev (.tmp 106) = .pointer (some ⟨gx, 0, none⟩) := hval 2 106 (by kernel_rfl) rfl
      go_simp
      exact hK _ _ (kstep_grow (Below.refl _ _)) rfl
    refine steps_cons ?_ ?_
    · refine step_on3 rfl rfl ?_
      intro ev w5 hS hU hc hf hold hval a K ha hK
      replace hS : Keep (fun b => b = gx) W w5 := ⟨hS.os, hS.tape, hS.output, hS.size, hS.block⟩
      have hpre := hU rfl
      clear hU
      have e107 : ev (.tmp 107) = .pointer (some ⟨gx, 0, none⟩) := hval 3 107 (by kernel_rfl) rfl
      have c108 : w5.cell? ⟨gx, 0, none⟩ = some (.string ⟨T.toArray⟩) := (hpre.cell 0).trans rfl
      go_simp
      exact hK _ _ (kstep_grow (Below.refl _ _)) rfl
    refine steps_cons ?_ ?_
    · refine step_on3 rfl rfl ?_
      intro ev w5 hS hU hc hf hold hval a K ha hK
      replace hS : Keep (fun b => b = gx) W w5 := ⟨hS.os, hS.tape, hS.output, hS.size, hS.block⟩
      clear hU
      have e3 : ev (.tmp 3) = .pointer (some ⟨w.heap.size, 0, none⟩) := hold 3 (by kernel_rfl)
      go_simp
      exact hK _ _ (kstep_grow (Below.refl _ _)) rfl
    refine steps_cons ?_ ?_
    · refine step_on3 rfl rfl ?_
      intro ev w5 hS hU hc hf hold hval a K ha hK
      replace hS : Keep (fun b => b = gx) W w5 := ⟨hS.os, hS.tape, hS.output, hS.size, hS.block⟩
      clear hU
      have e109 : ev (.tmp 109) = .pointer (some ⟨w.heap.size, 1, none⟩) := hval 5 109 (by kernel_rfl) rfl
      have c110 : w5.cell? ⟨w.heap.size, 1, none⟩ = some (.int .i64 (p : Int)) := ((hS.bk F.step (fun h => absurd (show w.heap.size = gx from h) (by have := F.gxl; omega))).cell 1).trans rfl
      go_simp
      exact hK _ _ (kstep_grow (Below.refl _ _)) rfl
    refine steps_cons ?_ ?_
    · refine step_on3 rfl rfl ?_
      intro ev w5 hS hU hc hf hold hval a K ha hK
      replace hS : Keep (fun b => b = gx) W w5 := ⟨hS.os, hS.tape, hS.output, hS.size, hS.block⟩
      clear hU
      have e108 : ev (.tmp 108) = .string ⟨T.toArray⟩ := hval 4 108 (by kernel_rfl) rfl
      have e110 : ev (.tmp 110) = .int .i64 (p : Int) := hval 6 110 (by kernel_rfl) rfl
      go_simp
      exact hK _ _ (kstep_grow (Below.refl _ _)) rfl
    refine steps_cons ?_ ?_
    · refine step_on3 rfl rfl ?_
      intro ev w5 hS hU hc hf hold hval a K ha hK
      replace hS : Keep (fun b => b = gx) W w5 := ⟨hS.os, hS.tape, hS.output, hS.size, hS.block⟩
      clear hU
      have e0 : ev (.tmp 0) = .pointer (some ⟨gx, 0, none⟩) := hold 0 (by kernel_rfl)
      go_simp
      exact hK _ _ (kstep_grow (Below.refl _ _)) rfl
    refine steps_cons ?_ ?_
    · refine step_on3 rfl rfl ?_
      intro ev w5 hS hU hc hf hold hval a K ha hK
      replace hS : Keep (fun b => b = gx) W w5 := ⟨hS.os, hS.tape, hS.output, hS.size, hS.block⟩
      clear hU
      have e112 : ev (.tmp 112) = .pointer (some ⟨gx, 0, none⟩) := hval 8 112 (by kernel_rfl) rfl
      go_simp
      exact hK _ _ (kstep_grow (Below.refl _ _)) rfl
    refine steps_cons ?_ ?_
    · refine step_on3 rfl rfl ?_
      intro ev w5 hS hU hc hf hold hval a K ha hK
      replace hS : Keep (fun b => b = gx) W w5 := ⟨hS.os, hS.tape, hS.output, hS.size, hS.block⟩
      clear hU
      have e113 : ev (.tmp 113) = .pointer (some ⟨gx, 0, none⟩) := hval 9 113 (by kernel_rfl) rfl
      go_simp
      exact hK _ _ (kstep_grow (Below.refl _ _)) rfl
    refine steps_cons ?_ ?_
    · refine step_on3 rfl rfl ?_
      intro ev w5 hS hU hc hf hold hval a K ha hK
      replace hS : Keep (fun b => b = gx) W w5 := ⟨hS.os, hS.tape, hS.output, hS.size, hS.block⟩
      have hpre := hU rfl
      clear hU
      have e114 : ev (.tmp 114) = .pointer (some ⟨gx, 0, none⟩) := hval 10 114 (by kernel_rfl) rfl
      have c115 : w5.cell? ⟨gx, 0, none⟩ = some (.string ⟨T.toArray⟩) := (hpre.cell 0).trans rfl
      go_simp
      exact hK _ _ (kstep_grow (Below.refl _ _)) rfl
    refine steps_cons ?_ ?_
    · refine step_on3 rfl rfl ?_
      intro ev w5 hS hU hc hf hold hval a K ha hK
      replace hS : Keep (fun b => b = gx) W w5 := ⟨hS.os, hS.tape, hS.output, hS.size, hS.block⟩
      clear hU
      have e3 : ev (.tmp 3) = .pointer (some ⟨w.heap.size, 0, none⟩) := hold 3 (by kernel_rfl)
      go_simp
      exact hK _ _ (kstep_grow (Below.refl _ _)) rfl
    refine steps_cons ?_ ?_
    · refine step_on3 rfl rfl ?_
      intro ev w5 hS hU hc hf hold hval a K ha hK
      replace hS : Keep (fun b => b = gx) W w5 := ⟨hS.os, hS.tape, hS.output, hS.size, hS.block⟩
      clear hU
      have e116 : ev (.tmp 116) = .pointer (some ⟨w.heap.size, 1, none⟩) := hval 12 116 (by kernel_rfl) rfl
      have c117 : w5.cell? ⟨w.heap.size, 1, none⟩ = some (.int .i64 (p : Int)) := ((hS.bk F.step (fun h => absurd (show w.heap.size = gx from h) (by have := F.gxl; omega))).cell 1).trans rfl
      go_simp
      exact hK _ _ (kstep_grow (Below.refl _ _)) rfl
    refine steps_cons ?_ ?_
    · refine step_on3 rfl rfl ?_
      intro ev w5 hS hU hc hf hold hval a K ha hK
      replace hS : Keep (fun b => b = gx) W w5 := ⟨hS.os, hS.tape, hS.output, hS.size, hS.block⟩
      clear hU
      have e3 : ev (.tmp 3) = .pointer (some ⟨w.heap.size, 0, none⟩) := hold 3 (by kernel_rfl)
      go_simp
      exact hK _ _ (kstep_grow (Below.refl _ _)) rfl
    refine steps_cons ?_ ?_
    · refine step_on3 rfl rfl ?_
      intro ev w5 hS hU hc hf hold hval a K ha hK
      replace hS : Keep (fun b => b = gx) W w5 := ⟨hS.os, hS.tape, hS.output, hS.size, hS.block⟩
      clear hU
      have e118 : ev (.tmp 118) = .pointer (some ⟨w.heap.size, 2, none⟩) := hval 14 118 (by kernel_rfl) rfl
      have c119 : w5.cell? ⟨w.heap.size, 2, none⟩ = some (.int .i64 (k : Int)) := ((hS.bk F.step (fun h => absurd (show w.heap.size = gx from h) (by have := F.gxl; omega))).cell 2).trans rfl
      go_simp
      exact hK _ _ (kstep_grow (Below.refl _ _)) rfl
    refine steps_cons ?_ ?_
    · refine step_on3 rfl rfl ?_
      intro ev w5 hS hU hc hf hold hval a K ha hK
      replace hS : Keep (fun b => b = gx) W w5 := ⟨hS.os, hS.tape, hS.output, hS.size, hS.block⟩
      clear hU
      have e117 : ev (.tmp 117) = .int .i64 (p : Int) := hval 13 117 (by kernel_rfl) rfl
      have e119 : ev (.tmp 119) = .int .i64 (k : Int) := hval 15 119 (by kernel_rfl) rfl
      go_simp
      exact hK _ _ (kstep_grow (Below.refl _ _)) (i64_eq (by rw [IntKind.wrap_i64]; omega))
    refine steps_cons ?_ ?_
    · refine step_on3 rfl rfl ?_
      intro ev w5 hS hU hc hf hold hval a K ha hK
      replace hS : Keep (fun b => b = gx) W w5 := ⟨hS.os, hS.tape, hS.output, hS.size, hS.block⟩
      clear hU
      have e115 : ev (.tmp 115) = .string ⟨T.toArray⟩ := hval 11 115 (by kernel_rfl) rfl
      have e120 : ev (.tmp 120) = .int .i64 (q : Int) := hval 16 120 (by kernel_rfl) rfl
      go_simp
      exact hK _ _ (kstep_grow (Below.refl _ _)) rfl
    refine steps_cons ?_ ?_
    · refine step_on3 rfl rfl ?_
      intro ev w5 hS hU hc hf hold hval a K ha hK
      replace hS : Keep (fun b => b = gx) W w5 := ⟨hS.os, hS.tape, hS.output, hS.size, hS.block⟩
      clear hU
      have e111 : ev (.tmp 111) = .string ⟨(T.take p).toArray⟩ := hval 7 111 (by kernel_rfl) rfl
      have e121 : ev (.tmp 121) = .string ⟨(T.drop q).toArray⟩ := hval 17 121 (by kernel_rfl) rfl
      go_simp
      rw [if_neg (by have := Hn.out; simp; omega)]
      exact hK _ _ (kstep_grow (Below.refl _ _)) ((str_catR _ _).trans (by rw [← HT2.out, List.append_nil]))
    refine steps_cons ?_ ?_
    · refine step_on3 rfl rfl ?_
      intro ev w5 hS hU hc hf hold hval a K ha hK
      replace hS : Keep (fun b => b = gx) W w5 := ⟨hS.os, hS.tape, hS.output, hS.size, hS.block⟩
      clear hU
      have e104 : ev (.tmp 104) = .pointer (some ⟨gx, 0, none⟩) := hval 0 104 (by kernel_rfl) rfl
      go_simp
      exact hK _ _ (kstep_grow (Below.refl _ _)) rfl
    refine steps_cons ?_ ?_
    · refine step_on3 rfl rfl ?_
      intro ev w5 hS hU hc hf hold hval a K ha hK
      replace hS : Keep (fun b => b = gx) W w5 := ⟨hS.os, hS.tape, hS.output, hS.size, hS.block⟩
      clear hU
      have e123 : ev (.tmp 123) = .pointer (some ⟨gx, 0, none⟩) := hval 19 123 (by kernel_rfl) rfl
      go_simp
      exact hK _ _ (kstep_grow (Below.refl _ _)) rfl
    refine steps_cons ?_ ?_
    · refine step_on3 rfl rfl ?_
      intro ev w5 hS hU hc hf hold hval a K ha hK
      replace hS : Keep (fun b => b = gx) W w5 := ⟨hS.os, hS.tape, hS.output, hS.size, hS.block⟩
      have hpre := hU rfl
      clear hU
      have e124 : ev (.tmp 124) = .pointer (some ⟨gx, 0, none⟩) := hval 20 124 (by kernel_rfl) rfl
      have e122 : ev (.tmp 122) = .string ⟨T2.toArray⟩ := hval 18 122 (by kernel_rfl) rfl
      have f20 := hpre.frozen 0
      have c20 : w5.cell? ⟨gx, 0, none⟩ = some (.string ⟨T.toArray⟩) := (hpre.cell 0).trans rfl
      go_simp
      exact hK (.bool true) _ (kstep_keep (Keep.setCell (F := fun b => b = gx) (Keep.refl _ _) (p := ⟨gx, 0, none⟩) (.inl rfl) _)) (hpre.set 0 _)
    exact steps_nil
  · intro ev w6 hS hval hall
    replace hS : Keep (fun b => b = gx) W w6 := ⟨hS.os, hS.tape, hS.output, hS.size, hS.block⟩
    obtain ⟨vJ, pJ⟩ : ∃ v, (fun _ w1 => Bk w1 gx 40 #[.string ⟨T2.toArray⟩, .int .i64 most]) v w6 := hall 21 (by decide)
    simp only [putsOf, List.foldl_cons, List.foldl_nil, Act.put, List.setIfInBounds_toArray, List.set_cons_zero, List.set_cons_succ]
    clear hval hall
    have hgs := F.gxl
    have hres := hS.bk F.res (fun h => absurd (show w.heap.size + 1 = gx from h) (by omega))
    have r0 : w6.cell? ⟨w.heap.size + 1, 0, none⟩ = some (.int .i64 0) := (hres.cell 0).trans rfl
    have f0 := hres.frozen 0
    have r1 : w6.cell? ⟨w.heap.size + 1, 1, none⟩ = some (.int .i64 0) := (hres.cell 1).trans rfl
    have f1 := hres.frozen 1
    have r2 : w6.cell? ⟨w.heap.size + 1, 2, none⟩ = some (.slice none 0 0) := (hres.cell 2).trans rfl
    have f2 := hres.frozen 2
    have r3 : w6.cell? ⟨w.heap.size + 1, 3, none⟩ = some (.slice none 0 0) := (hres.cell 3).trans rfl
    have f3 := hres.frozen 3
    go_wp2
    have hbl := keep_set (v0 := .int .i64 0) (v1 := .int .i64 0) (v2 := .slice none 0 0) (v3 := .slice none 0 0) (Nat.le_succ w.heap.size) ((Keep.of_below F.low).trans hS)
    have hset := at_set (W := w6) (s := w.heap.size + 1) (v0 := .int .i64 0) (v1 := .int .i64 0) (v2 := .slice none 0 0) (v3 := .slice none 0 0)
    exact ref_ret (s := w.heap.size + 1) (A1 := none) (c1 := 0) (A2 := none) (c2 := 0) rfl (res_set hres) hbl (RdN.nil _ _ _ _) (made_nil _ _ _) (hset.bk pJ (fun h => absurd (show gx = w.heap.size + 1 from h) (by have := F.gxl; omega)))
set_option maxRecDepth 100000 in
set_option maxHeartbeats 4000000 in
theorem Ref_set_ok (gx : Nat) (AD : Option Addr) (nd cd B : Nat) (p : Nat) (k : Int) (most : Int) (T D : List UInt8) (n : Nat) (hn : T.length = n) (w : World) (hg : Bk w gx 40 #[.string ⟨T.toArray⟩, .int .i64 most])
    (hd : Rd w B 1 AD nd (D.map bv)) (hB : B ≤ w.heap.size) (hdne : 0 < nd → ∀ a, AD = some a → a.block ≠ gx) (hT : n ≤ 549755813888) (hD : nd ≤ 549755813888) (hpb : -9223372036854775808 ≤ (p : Int) ∧ (p : Int) ≤ 9223372036854775807) (hkb : -9223372036854775808 ≤ (k : Int) ∧ (k : Int) ≤ 9223372036854775807) (hmb : 0 ≤ most ∧ most ≤ 2147483648)
    (h1 : p + nd ≤ n) :
    Calls Try.prog 13 #[.pointer (some ⟨gx, 0, none⟩), stepV 3 p k AD nd cd] w fun e w' => RefTold gx most (T.take p ++ (D ++ T.drop (p + nd))) ⟨0, 0, [], []⟩ w w' e := by
  have hDl : D.length = nd := by simpa using hd.1
  have F := ref_start (kind := 3) (p := p) (k := k) (cd := cd) hg hd hB
  have HF := Lib.hid F
  have Hg := Lib.hid hg
  have Hn := Lib.hid hn
  have Hdne := Lib.hid hdne
  have hgl := hg.lt
  have z0 : (⟨T.toArray⟩ : ByteArray).size = n := (ba_size T).trans hn
  have y0 : w.cell? ⟨gx, 0, none⟩ = some (.string ⟨T.toArray⟩) := (hg.cell 0).trans rfl
  clear hd hg F hn hdne
  obtain ⟨q, hq⟩ : ∃ q, p + nd = q := ⟨_, rfl⟩
  obtain ⟨T2, hT2⟩ : ∃ T2, (T.take p ++ D) ++ T.drop q = T2 := ⟨_, rfl⟩
  have hT2' : T.take p ++ (D ++ T.drop (p + nd)) = T2 := by rw [hq, ← List.append_assoc]; exact hT2
  rw [hT2']
  have HT2 := Lib.hid hT2
  clear hT2 hT2'
  have a1 := fun w => at_hi T w p (by have := Hn.out; omega)
  have a2 := fun w => at_lo T w q (by have := Hn.out; omega)
  have b1 := fun w => sub_hi T w p (by have := Hn.out; omega)
  have b2 := fun w => sub_lo T w q (by have := Hn.out; omega)
  have d0 : ¬ ((p : Int) < 0) := by omega
  have d1 : ¬ ((p : Int) > (n : Int)) := by omega
  have d2 : ¬ ((nd : Int) > (n : Int) - (p : Int)) := by omega
  have d3 : ¬ ((nd : Int) < 0) := by omega
  unfold stepV
  go_enter Try.func13, Try.ntmps13
  go_wp2
  obtain ⟨W, hW⟩ : ∃ W, (w.alloc (.cells #[.int .i64 3, .int .i64 p, .int .i64 k, .slice AD nd cd] 32)).alloc (.cells #[.int .i64 0, .int .i64 0, .slice none 0 0, .slice none 0 0] 29) = W := ⟨_, rfl⟩
  rw [hW] at HF ⊢
  have F := HF.out
  clear hW HF
  refine wp_region_any (by kernel_rfl) ?_
  refine wpAny_keep [147, 148, 149, 150, 151, 152, 153, 154, 155, 156, 157, 158, 159, 160, 161, 162, 163, 164, 165, 166, 167, 168, 169, 170, 171, 172] (fun b => b = gx) 26 [4, 15, 26] (fun w1 => Bk w1 gx 40 #[.string ⟨T.toArray⟩, .int .i64 most]) (fun _ w1 => Bk w1 gx 40 #[.string ⟨T2.toArray⟩, .int .i64 most]) [is (.pointer (some ⟨gx, 0, none⟩)), is (.pointer (some ⟨gx, 0, none⟩)), is (.pointer (some ⟨gx, 0, none⟩)), is (.pointer (some ⟨gx, 0, none⟩)), is (.string ⟨T.toArray⟩), is (.pointer (some ⟨w.heap.size, 1, none⟩)), is (.int .i64 (p : Int)), is (.string ⟨(T.take p).toArray⟩), is (.pointer (some ⟨w.heap.size, 3, none⟩)), is (.slice AD nd cd), is (.string ⟨D.toArray⟩), is (.string ⟨(T.take p ++ D).toArray⟩), is (.pointer (some ⟨gx, 0, none⟩)), is (.pointer (some ⟨gx, 0, none⟩)), is (.pointer (some ⟨gx, 0, none⟩)), is (.string ⟨T.toArray⟩), is (.pointer (some ⟨w.heap.size, 1, none⟩)), is (.int .i64 (p : Int)), is (.pointer (some ⟨w.heap.size, 3, none⟩)), is (.slice AD nd cd), is (.int .i64 (nd : Int)), is (.int .i64 (q : Int)), is (.string ⟨(T.drop q).toArray⟩), is (.string ⟨T2.toArray⟩), is (.pointer (some ⟨gx, 0, none⟩)), is (.pointer (some ⟨gx, 0, none⟩)), anyV] _ _ rfl (by kernel_rfl) (by kernel_rfl) (F.mod) (fun w1 w2 h _ hg => Bk.below h hg h.lt) (fun _ _ _ h k => Bk.below h k h.lt) (by repeat' (first | exact stbk_is _ _ | exact stbk_any _ | (refine List.forall_mem_cons.2 ⟨?_, ?_⟩) | (intro p hp; cases hp))) ?_ ?_
  · refine steps_of ?_
    refine steps_cons ?_ ?_
    · refine step_on3 rfl rfl ?_
      intro ev w5 hS hU hc hf hold hval a K ha hK
      replace hS : Keep (fun b => b = gx) W w5 := ⟨hS.os, hS.tape, hS.output, hS.size, hS.block⟩
      clear hU
      have e0 : ev (.tmp 0) = .pointer (some ⟨gx, 0, none⟩) := hold 0 (by kernel_rfl)
      go_simp
      exact hK _ _ (kstep_grow (Below.refl _ _)) rfl
    refine steps_cons ?_ ?_
    · refine step_on3 rfl rfl ?_
      intro ev w5 hS hU hc hf hold hval a K ha hK
      replace hS : Keep (fun b => b = gx) W w5 := ⟨hS.os, hS.tape, hS.output, hS.size, hS.block⟩
      clear hU
      have e0 : ev (.tmp 0) = .pointer (some ⟨gx, 0, none⟩) := hold 0 (by kernel_rfl)
      go_simp
      exact hK _ _ (kstep_grow (Below.refl _ _)) rfl
    refine steps_cons ?_ ?_
    · refine step_on3 rfl rfl ?_
      intro ev w5 hS hU hc hf hold hval a K ha hK
      replace hS : Keep (fun b => b = gx) W w5 := ⟨hS.os, hS.tape, hS.output, hS.size, hS.block⟩
      clear hU
      have e148 : ev (.tmp 148) = .pointer (some ⟨gx, 0, none⟩) := hval 1 148 (by kernel_rfl) rfl
      go_simp
      exact hK _ _ (kstep_grow (Below.refl _ _)) rfl
    refine steps_cons ?_ ?_
    · refine step_on3 rfl rfl ?_
      intro ev w5 hS hU hc hf hold hval a K ha hK
      replace hS : Keep (fun b => b = gx) W w5 := ⟨hS.os, hS.tape, hS.output, hS.size, hS.block⟩
      clear hU
      have e149 : ev (.tmp 149) = .pointer (some ⟨gx, 0, none⟩) := hval 2 149 (by kernel_rfl) rfl
      go_simp
      exact hK _ _ (kstep_grow (Below.refl _ _)) rfl
    refine steps_cons ?_ ?_
    · refine step_on3 rfl rfl ?_
      intro ev w5 hS hU hc hf hold hval a K ha hK
      replace hS : Keep (fun b => b = gx) W w5 := ⟨hS.os, hS.tape, hS.output, hS.size, hS.block⟩
      have hpre := hU rfl
      clear hU
      have e150 : ev (.tmp 150) = .pointer (some ⟨gx, 0, none⟩) := hval 3 150 (by kernel_rfl) rfl
      have c151 : w5.cell? ⟨gx, 0, none⟩ = some (.string ⟨T.toArray⟩) := (hpre.cell 0).trans rfl
      go_simp
      exact hK _ _ (kstep_grow (Below.refl _ _)) rfl
    refine steps_cons ?_ ?_
    · refine step_on3 rfl rfl ?_
      intro ev w5 hS hU hc hf hold hval a K ha hK
      replace hS : Keep (fun b => b = gx) W w5 := ⟨hS.os, hS.tape, hS.output, hS.size, hS.block⟩
      clear hU
      have e3 : ev (.tmp 3) = .pointer (some ⟨w.heap.size, 0, none⟩) := hold 3 (by kernel_rfl)
      go_simp
      exact hK _ _ (kstep_grow (Below.refl _ _)) rfl
    refine steps_cons ?_ ?_
    · refine step_on3 rfl rfl ?_
      intro ev w5 hS hU hc hf hold hval a K ha hK
      replace hS : Keep (fun b => b = gx) W w5 := ⟨hS.os, hS.tape, hS.output, hS.size, hS.block⟩
      clear hU
      have e152 : ev (.tmp 152) = .pointer (some ⟨w.heap.size, 1, none⟩) := hval 5 152 (by kernel_rfl) rfl
      have c153 : w5.cell? ⟨w.heap.size, 1, none⟩ = some (.int .i64 (p : Int)) := ((hS.bk F.step (fun h => absurd (show w.heap.size = gx from h) (by have := F.gxl; omega))).cell 1).trans rfl
      go_simp
      exact hK _ _ (kstep_grow (Below.refl _ _)) rfl
    refine steps_cons ?_ ?_
    · refine step_on3 rfl rfl ?_
      intro ev w5 hS hU hc hf hold hval a K ha hK
      replace hS : Keep (fun b => b = gx) W w5 := ⟨hS.os, hS.tape, hS.output, hS.size, hS.block⟩
      clear hU
      have e151 : ev (.tmp 151) = .string ⟨T.toArray⟩ := hval 4 151 (by kernel_rfl) rfl
      have e153 : ev (.tmp 153) = .int .i64 (p : Int) := hval 6 153 (by kernel_rfl) rfl
      go_simp
      exact hK _ _ (kstep_grow (Below.refl _ _)) rfl
    refine steps_cons ?_ ?_
    · refine step_on3 rfl rfl ?_
      intro ev w5 hS hU hc hf hold hval a K ha hK
      replace hS : Keep (fun b => b = gx) W w5 := ⟨hS.os, hS.tape, hS.output, hS.size, hS.block⟩
      clear hU
      have e3 : ev (.tmp 3) = .pointer (some ⟨w.heap.size, 0, none⟩) := hold 3 (by kernel_rfl)
      go_simp
      exact hK _ _ (kstep_grow (Below.refl _ _)) rfl
    refine steps_cons ?_ ?_
    · refine step_on3 rfl rfl ?_
      intro ev w5 hS hU hc hf hold hval a K ha hK
      replace hS : Keep (fun b => b = gx) W w5 := ⟨hS.os, hS.tape, hS.output, hS.size, hS.block⟩
      clear hU
      have e155 : ev (.tmp 155) = .pointer (some ⟨w.heap.size, 3, none⟩) := hval 8 155 (by kernel_rfl) rfl
      have c156 : w5.cell? ⟨w.heap.size, 3, none⟩ = some (.slice AD nd cd) := ((hS.bk F.step (fun h => absurd (show w.heap.size = gx from h) (by have := F.gxl; omega))).cell 3).trans rfl
      go_simp
      exact hK _ _ (kstep_grow (Below.refl _ _)) rfl
    refine steps_cons ?_ ?_
    · refine step_on3 rfl rfl ?_
      intro ev w5 hS hU hc hf hold hval a K ha hK
      replace hS : Keep (fun b => b = gx) W w5 := ⟨hS.os, hS.tape, hS.output, hS.size, hS.block⟩
      clear hU
      have e156 : ev (.tmp 156) = .slice AD nd cd := hval 9 156 (by kernel_rfl) rfl
      have s48 := strOf (Rd.keepF F.rD hS F.low.size Hdne.out)
      go_simp
      exact hK _ _ (kstep_grow (Below.refl _ _)) rfl
    refine steps_cons ?_ ?_
    · refine step_on3 rfl rfl ?_
      intro ev w5 hS hU hc hf hold hval a K ha hK
      replace hS : Keep (fun b => b = gx) W w5 := ⟨hS.os, hS.tape, hS.output, hS.size, hS.block⟩
      clear hU
      have e154 : ev (.tmp 154) = .string ⟨(T.take p).toArray⟩ := hval 7 154 (by kernel_rfl) rfl
      have e157 : ev (.tmp 157) = .string ⟨D.toArray⟩ := hval 10 157 (by kernel_rfl) rfl
      go_simp
      rw [if_neg (by have := Hn.out; simp; omega)]
      exact hK _ _ (kstep_grow (Below.refl _ _)) (str_catR _ _)
    refine steps_cons ?_ ?_
    · refine step_on3 rfl rfl ?_
      intro ev w5 hS hU hc hf hold hval a K ha hK
      replace hS : Keep (fun b => b = gx) W w5 := ⟨hS.os, hS.tape, hS.output, hS.size, hS.block⟩
      clear hU
      have e0 : ev (.tmp 0) = .pointer (some ⟨gx, 0, none⟩) := hold 0 (by kernel_rfl)
      go_simp
      exact hK _ _ (kstep_grow (Below.refl _ _)) rfl
    refine steps_cons ?_ ?_
    · refine step_on3 rfl rfl ?_
      intro ev w5 hS hU hc hf hold hval a K ha hK
      replace hS : Keep (fun b => b = gx) W w5 := ⟨hS.os, hS.tape, hS.output, hS.size, hS.block⟩
      clear hU
      have e159 : ev (.tmp 159) = .pointer (some ⟨gx, 0, none⟩) := hval 12 159 (by kernel_rfl) rfl
      go_simp
      exact hK _ _ (kstep_grow (Below.refl _ _)) rfl
    refine steps_cons ?_ ?_
    · refine step_on3 rfl rfl ?_
      intro ev w5 hS hU hc hf hold hval a K ha hK
      replace hS : Keep (fun b => b = gx) W w5 := ⟨hS.os, hS.tape, hS.output, hS.size, hS.block⟩
      clear hU
      have e160 : ev (.tmp 160) = .pointer (some ⟨gx, 0, none⟩) := hval 13 160 (by kernel_rfl) rfl
      go_simp
      exact hK _ _ (kstep_grow (Below.refl _ _)) rfl
    refine steps_cons ?_ ?_
    · refine step_on3 rfl rfl ?_
      intro ev w5 hS hU hc hf hold hval a K ha hK
      replace hS : Keep (fun b => b = gx) W w5 := ⟨hS.os, hS.tape, hS.output, hS.size, hS.block⟩
      have hpre := hU rfl
      clear hU
      have e161 : ev (.tmp 161) = .pointer (some ⟨gx, 0, none⟩) := hval 14 161 (by kernel_rfl) rfl
      have c162 : w5.cell? ⟨gx, 0, none⟩ = some (.string ⟨T.toArray⟩) := (hpre.cell 0).trans rfl
      go_simp
      exact hK _ _ (kstep_grow (Below.refl _ _)) rfl
    refine steps_cons ?_ ?_
    · refine step_on3 rfl rfl ?_
      intro ev w5 hS hU hc hf hold hval a K ha hK
      replace hS : Keep (fun b => b = gx) W w5 := ⟨hS.os, hS.tape, hS.output, hS.size, hS.block⟩
      clear hU
      have e3 : ev (.tmp 3) = .pointer (some ⟨w.heap.size, 0, none⟩) := hold 3 (by kernel_rfl)
      go_simp
      exact hK _ _ (kstep_grow (Below.refl _ _)) rfl
    refine steps_cons ?_ ?_
    · refine step_on3 rfl rfl ?_
      intro ev w5 hS hU hc hf hold hval a K ha hK
      replace hS : Keep (fun b => b = gx) W w5 := ⟨hS.os, hS.tape, hS.output, hS.size, hS.block⟩
      clear hU
      have e163 : ev (.tmp 163) = .pointer (some ⟨w.heap.size, 1, none⟩) := hval 16 163 (by kernel_rfl) rfl
      have c164 : w5.cell? ⟨w.heap.size, 1, none⟩ = some (.int .i64 (p : Int)) := ((hS.bk F.step (fun h => absurd (show w.heap.size = gx from h) (by have := F.gxl; omega))).cell 1).trans rfl
      go_simp
      exact hK _ _ (kstep_grow (Below.refl _ _)) rfl
    refine steps_cons ?_ ?_
    · refine step_on3 rfl rfl ?_
      intro ev w5 hS hU hc hf hold hval a K ha hK
      replace hS : Keep (fun b => b = gx) W w5 := ⟨hS.os, hS.tape, hS.output, hS.size, hS.block⟩
      clear hU
      have e3 : ev (.tmp 3) = .pointer (some ⟨w.heap.size, 0, none⟩) := hold 3 (by kernel_rfl)
      go_simp
      exact hK _ _ (kstep_grow (Below.refl _ _)) rfl
    refine steps_cons ?_ ?_
    · refine step_on3 rfl rfl ?_
      intro ev w5 hS hU hc hf hold hval a K ha hK
      replace hS : Keep (fun b => b = gx) W w5 := ⟨hS.os, hS.tape, hS.output, hS.size, hS.block⟩
      clear hU
      have e165 : ev (.tmp 165) = .pointer (some ⟨w.heap.size, 3, none⟩) := hval 18 165 (by kernel_rfl) rfl
      have c166 : w5.cell? ⟨w.heap.size, 3, none⟩ = some (.slice AD nd cd) := ((hS.bk F.step (fun h => absurd (show w.heap.size = gx from h) (by have := F.gxl; omega))).cell 3).trans rfl
      go_simp
      exact hK _ _ (kstep_grow (Below.refl _ _)) rfl
    refine steps_cons ?_ ?_
    · refine step_on3 rfl rfl ?_
      intro ev w5 hS hU hc hf hold hval a K ha hK
      replace hS : Keep (fun b => b = gx) W w5 := ⟨hS.os, hS.tape, hS.output, hS.size, hS.block⟩
      clear hU
      have e166 : ev (.tmp 166) = .slice AD nd cd := hval 19 166 (by kernel_rfl) rfl
      go_simp
      exact hK _ _ (kstep_grow (Below.refl _ _)) rfl
    refine steps_cons ?_ ?_
    · refine step_on3 rfl rfl ?_
      intro ev w5 hS hU hc hf hold hval a K ha hK
      replace hS : Keep (fun b => b = gx) W w5 := ⟨hS.os, hS.tape, hS.output, hS.size, hS.block⟩
      clear hU
      have e164 : ev (.tmp 164) = .int .i64 (p : Int) := hval 17 164 (by kernel_rfl) rfl
      have e167 : ev (.tmp 167) = .int .i64 (nd : Int) := hval 20 167 (by kernel_rfl) rfl
      go_simp
      exact hK _ _ (kstep_grow (Below.refl _ _)) (i64_eq (by rw [IntKind.wrap_i64]; omega))
    refine steps_cons ?_ ?_
    · refine step_on3 rfl rfl ?_
      intro ev w5 hS hU hc hf hold hval a K ha hK
      replace hS : Keep (fun b => b = gx) W w5 := ⟨hS.os, hS.tape, hS.output, hS.size, hS.block⟩
      clear hU
      have e162 : ev (.tmp 162) = .string ⟨T.toArray⟩ := hval 15 162 (by kernel_rfl) rfl
      have e168 : ev (.tmp 168) = .int .i64 (q : Int) := hval 21 168 (by kernel_rfl) rfl
      go_simp
      exact hK _ _ (kstep_grow (Below.refl _ _)) rfl
    refine steps_cons ?_ ?_
    · refine step_on3 rfl rfl ?_
      intro ev w5 hS hU hc hf hold hval a K ha hK
      replace hS : Keep (fun b => b = gx) W w5 := ⟨hS.os, hS.tape, hS.output, hS.size, hS.block⟩
      clear hU
      have e158 : ev (.tmp 158) = .string ⟨(T.take p ++ D).toArray⟩ := hval 11 158 (by kernel_rfl) rfl
      have e169 : ev (.tmp 169) = .string ⟨(T.drop q).toArray⟩ := hval 22 169 (by kernel_rfl) rfl
      go_simp
      rw [if_neg (by have := Hn.out; simp; omega)]
      exact hK _ _ (kstep_grow (Below.refl _ _)) ((str_catR _ _).trans (by rw [HT2.out]))
    refine steps_cons ?_ ?_
    · refine step_on3 rfl rfl ?_
      intro ev w5 hS hU hc hf hold hval a K ha hK
      replace hS : Keep (fun b => b = gx) W w5 := ⟨hS.os, hS.tape, hS.output, hS.size, hS.block⟩
      clear hU
      have e147 : ev (.tmp 147) = .pointer (some ⟨gx, 0, none⟩) := hval 0 147 (by kernel_rfl) rfl
      go_simp
      exact hK _ _ (kstep_grow (Below.refl _ _)) rfl
    refine steps_cons ?_ ?_
    · refine step_on3 rfl rfl ?_
      intro ev w5 hS hU hc hf hold hval a K ha hK
      replace hS : Keep (fun b => b = gx) W w5 := ⟨hS.os, hS.tape, hS.output, hS.size, hS.block⟩
      clear hU
      have e171 : ev (.tmp 171) = .pointer (some ⟨gx, 0, none⟩) := hval 24 171 (by kernel_rfl) rfl
      go_simp
      exact hK _ _ (kstep_grow (Below.refl _ _)) rfl
    refine steps_cons ?_ ?_
    · refine step_on3 rfl rfl ?_
      intro ev w5 hS hU hc hf hold hval a K ha hK
      replace hS : Keep (fun b => b = gx) W w5 := ⟨hS.os, hS.tape, hS.output, hS.size, hS.block⟩
      have hpre := hU rfl
      clear hU
      have e172 : ev (.tmp 172) = .pointer (some ⟨gx, 0, none⟩) := hval 25 172 (by kernel_rfl) rfl
      have e170 : ev (.tmp 170) = .string ⟨T2.toArray⟩ := hval 23 170 (by kernel_rfl) rfl
      have f20 := hpre.frozen 0
      have c20 : w5.cell? ⟨gx, 0, none⟩ = some (.string ⟨T.toArray⟩) := (hpre.cell 0).trans rfl
      go_simp
      exact hK (.bool true) _ (kstep_keep (Keep.setCell (F := fun b => b = gx) (Keep.refl _ _) (p := ⟨gx, 0, none⟩) (.inl rfl) _)) (hpre.set 0 _)
    exact steps_nil
  · intro ev w6 hS hval hall
    replace hS : Keep (fun b => b = gx) W w6 := ⟨hS.os, hS.tape, hS.output, hS.size, hS.block⟩
    obtain ⟨vJ, pJ⟩ : ∃ v, (fun _ w1 => Bk w1 gx 40 #[.string ⟨T2.toArray⟩, .int .i64 most]) v w6 := hall 26 (by decide)
    simp only [putsOf, List.foldl_cons, List.foldl_nil, Act.put, List.setIfInBounds_toArray, List.set_cons_zero, List.set_cons_succ]
    clear hval hall
    have hgs := F.gxl
    have hres := hS.bk F.res (fun h => absurd (show w.heap.size + 1 = gx from h) (by omega))
    have r0 : w6.cell? ⟨w.heap.size + 1, 0, none⟩ = some (.int .i64 0) := (hres.cell 0).trans rfl
    have f0 := hres.frozen 0
    have r1 : w6.cell? ⟨w.heap.size + 1, 1, none⟩ = some (.int .i64 0) := (hres.cell 1).trans rfl
    have f1 := hres.frozen 1
    have r2 : w6.cell? ⟨w.heap.size + 1, 2, none⟩ = some (.slice none 0 0) := (hres.cell 2).trans rfl
    have f2 := hres.frozen 2
    have r3 : w6.cell? ⟨w.heap.size + 1, 3, none⟩ = some (.slice none 0 0) := (hres.cell 3).trans rfl
    have f3 := hres.frozen 3
    go_wp2
    have hbl := keep_set (v0 := .int .i64 0) (v1 := .int .i64 0) (v2 := .slice none 0 0) (v3 := .slice none 0 0) (Nat.le_succ w.heap.size) ((Keep.of_below F.low).trans hS)
    have hset := at_set (W := w6) (s := w.heap.size + 1) (v0 := .int .i64 0) (v1 := .int .i64 0) (v2 := .slice none 0 0) (v3 := .slice none 0 0)
    exact ref_ret (s := w.heap.size + 1) (A1 := none) (c1 := 0) (A2 := none) (c2 := 0) rfl (res_set hres) hbl (RdN.nil _ _ _ _) (made_nil _ _ _) (hset.bk pJ (fun h => absurd (show gx = w.heap.size + 1 from h) (by have := F.gxl; omega)))
end Go.Proofs.Ytmebhlopmgfobaa
