/- The walk of the law ModelLocates. No conditions. -/
import Derived.Test.YtmebhlopmgfobaaModSplices
namespace Go.Proofs.Ytmebhlopmgfobaa
open Go.RowKit
set_option linter.unusedVariables false
set_option linter.unusedSimpArgs false
theorem do_count (T D : List UInt8) (most : Int) : doM T most 6 0 0 D = (T, ⟨0, ((findB T D).length : Int), [], []⟩) := by
  unfold doM
  rw [if_neg (by decide), if_neg (by decide), if_neg (by decide), if_neg (by decide), if_neg (by decide), if_pos rfl]
theorem do_loc (T D : List UInt8) (most : Int) : doM T most 7 0 0 D = (T, ⟨0, ((findB T D).length : Int), [], findB T D⟩) := by
  unfold doM
  rw [if_neg (by decide), if_neg (by decide), if_neg (by decide), if_neg (by decide), if_neg (by decide), if_neg (by decide), if_pos rfl]
theorem findTo_get (T D : List UInt8) (k K : Nat) (hk : k < K) (h : D.isPrefixOf (T.drop k) = true) : (findTo T D K)[(findTo T D k).length]? = some k := by
  induction K with
  | zero => omega
  | succ K ih =>
    by_cases hK : k = K
    · subst hK
      rw [findTo_yes T D k h, List.getElem?_append_right (Nat.le_refl _), Nat.sub_self]
      rfl
    · have h1 := ih (by omega)
      have h2 : (findTo T D k).length < (findTo T D K).length := (List.getElem?_eq_some_iff.1 h1).1
      cases hp : D.isPrefixOf (T.drop K) with
      | true => rw [findTo_yes T D K hp, List.getElem?_append_left h2]; exact h1
      | false => rw [findTo_no T D K hp]; exact h1
theorem findB_nil (T : List UInt8) : (findB T []).length = T.length + 1 := by
  have h : ∀ l : List Nat, l.filter (fun _ => true) = l := fun l => List.filter_eq_self.2 (by simp)
  simp [findB, findTo, List.isPrefixOf, h]
theorem prefix_take (a b : List UInt8) : decide (a.take b.length = b) = b.isPrefixOf a := by
  rw [Bool.eq_iff_iff]
  simp only [decide_eq_true_eq, List.isPrefixOf_iff_prefix]
  constructor
  · intro h
    rw [← h]
    exact List.take_prefix _ _
  · intro h
    exact (List.prefix_iff_eq_take.1 h).symm
set_option maxRecDepth 100000 in
set_option maxHeartbeats 4000000 in
theorem walkModelLocates (w : World) (A0 : Option Addr) (m0 c0 : Nat) (t : List UInt8) (hr0 : Rd w w.heap.size 1 A0 m0 (t.map bv)) (hmc0 : m0 ≤ c0) (hcl0 : c0 ≤ maxLen)
    (A1 : Option Addr) (m1 c1 : Nat) (p : List UInt8) (hr1 : Rd w w.heap.size 1 A1 m1 (p.map bv)) (hmc1 : m1 ≤ c1) (hcl1 : c1 ≤ maxLen) :
    Calls Try.prog 6 #[.slice A0 m0 c0, .slice A1 m1 c1] w fun e w' => e = .returned (.bool true) ∧ Below w.heap.size w w' := by
  have kf := run_code
  have l0 : t.length = m0 := by simpa using hr0.1
  have l1 : p.length = m1 := by simpa using hr1.1
  have Hr0 := Lib.hid hr0
  have Hr1 := Lib.hid hr1
  have L0 := Lib.hid l0
  have L1 := Lib.hid l1
  clear hr0 hr1 l0 l1
  by_cases h0 : m0 > 60
  · have e0 : decide ((m0 : Int) > 60) = true := by simp; omega
    go_enter Try.func6, Try.ntmps6
    go_wp2_with fail
    refine (told20_any _).mono ?_
    rintro e w1 ⟨rfl, hb1⟩
    go_wp2_with fail
    go_ret
    exact ⟨rfl, hb1⟩
  by_cases h2 : m1 > 3
  · have e0 : decide ((m0 : Int) > 60) = false := by simp; omega
    have e2 : decide ((m1 : Int) > 3) = true := by simp; omega
    go_enter Try.func6, Try.ntmps6
    go_wp2_with fail
    refine (told20_any _).mono ?_
    rintro e w1 ⟨rfl, hb1⟩
    go_wp2_with fail
    go_ret
    exact ⟨rfl, hb1⟩
  have e0 : decide ((m0 : Int) > 60) = false := by simp; omega
  have e2 : decide ((m1 : Int) > 3) = false := by simp; omega
  obtain ⟨L, hL⟩ : ∃ L, findB t p = L := ⟨_, rfl⟩
  obtain ⟨N, hN⟩ : ∃ N, L.length = N := ⟨_, rfl⟩
  have hN61 : N ≤ 61 := by
    rw [← hN, ← hL]
    have := findTo_le t p (t.length + 1 - p.length)
    have := L0.out
    unfold findB
    omega
  have p2 : doM t 60 7 0 0 p = (t, ⟨0, (N : Int), [], L⟩) := by rw [do_loc, hL, hN]
  have p3 : doM t 60 6 0 0 p = (t, ⟨0, (N : Int), [], []⟩) := by rw [do_count, hL, hN]
  have hLto : findTo t p (m0 + 1 - m1) = L := by rw [← hL, findB, L0.out, L1.out]
  have hnil : m1 = 0 → N = m0 + 1 := fun h => by
    have : p = [] := List.eq_nil_of_length_eq_zero (by rw [L1.out, h])
    rw [← hN, ← hL, this, findB_nil, L0.out]
  have P2 := Lib.hid p2
  have P3 := Lib.hid p3
  have HN := Lib.hid hN
  have HLto := Lib.hid hLto
  have Hnil := Lib.hid hnil
  clear p2 p3 hN hL hLto hnil
  go_enter Try.func6, Try.ntmps6
  go_wp2_with fail
  refine (New_ok 60 _ (by omega) (by omega)).mono ?_
  intro e w1 hnew
  obtain ⟨g, gp, rfl, M1, hg1, hgp1⟩ := ms_new w w w1 60 (Below.refl _ _) hnew
  clear hnew
  have hgl := M1.pl.lt
  go_wp2_with fail
  refine (Do_ms M1 _ _ _ _ 1 0 0 t t [] [] 0 0 0 0 (do_first t 60 (by have := L0.out; omega)) rfl rfl (Hr0.out.below M1.low) M1.low.size (rd_apart Hr0.out M1.gp0) (by simp) (by omega) (by omega) (by omega) (by omega)).mono ?_
  rintro e w2 ⟨B1, d1, B2, d2, rfl, N2⟩
  have M2 := N2.ms
  have hs2 := N2.keep.size
  go_wp2_with fail
  refine (Do_ms M2 _ _ _ _ 7 0 0 p t [] L 0 N 0 N P2.out rfl HN.out (Hr1.out.below M2.low) M2.low.size (rd_apart Hr1.out M2.gp0) (by have := L0.out; omega) (by omega) (by omega) (by omega) (by omega)).mono ?_
  rintro e w3 ⟨C1, f1, C2, f2, rfl, N3⟩
  have hs3 := N3.keep.size
  have M3 := N3.ms
  have P0 := N3.places
  rw [HN.out] at P0
  go_wp2_with fail
  refine (Do_ms (M3.alloc _) _ _ _ _ 6 0 0 p t [] [] 0 N 0 0 P3.out rfl rfl (Hr1.out.below (M3.alloc _).low) (M3.alloc _).low.size (rd_apart Hr1.out M2.gp0) (by have := L0.out; omega) (by omega) (by omega) (by omega) (by omega)).mono ?_
  rintro e w4 ⟨D1, g1, D2, g2, rfl, N4⟩
  have hs4 := N4.keep.size
  rw [World.size_alloc] at hs4
  have a4 := (N4.bk (Bk.new w3 _ _) (by omega)).alloc (.cells #[.int .i64 0, .int .i64 (N : Int), .slice D1 0 g1, .slice D2 0 g2] 29)
  have b4 := Bk.new w4 29 #[.int .i64 0, .int .i64 (N : Int), .slice D1 0 g1, .slice D2 0 g2]
  have P4 := ((P0.below ((Below.refl _ _).alloc (Nat.le_refl _) _)).keepF N4.keep (fun b hb => by have : b = gp := hb; omega)).below ((Below.refl _ _).alloc (Nat.le_refl _) (.cells #[.int .i64 0, .int .i64 (N : Int), .slice D1 0 g1, .slice D2 0 g2] 29))
  have M := N4.ms.alloc (.cells #[.int .i64 0, .int .i64 (N : Int), .slice D1 0 g1, .slice D2 0 g2] 29)
  clear P0 N2 N3 N4 M1 M2 M3 P2 P3
  go_wp2_with fail
  obtain ⟨W, hW⟩ : ∃ W, w4.alloc (.cells #[.int .i64 0, .int .i64 (N : Int), .slice D1 0 g1, .slice D2 0 g2] 29) = W := ⟨_, rfl⟩
  rw [hW] at a4 b4 P4 M ⊢
  clear hW
  obtain ⟨s3, hs33⟩ : ∃ s, w3.heap.size = s := ⟨_, rfl⟩
  obtain ⟨s4, hs44⟩ : ∃ s, w4.heap.size = s := ⟨_, rfl⟩
  rw [hs33, hs44]
  rw [hs33] at a4
  rw [hs44] at b4
  have P := Lib.hid P4.rd
  clear P4 hs33 hs44 hs2 hs3 hs4
  go_loopw [9, 10] (fun v i wr => ∃ k : Nat, k ≤ m0 + 1 - m1 ∧ i = .int .i64 k ∧ v = .int .i64 ((findTo t p k).length : Int) ∧ Below W.heap.size W wr) (fun _ i _ => m0 + 1 - (intOf i).toNat)
  case atStart => exact ⟨0, Nat.zero_le _, rfl, rfl, Below.refl _ _⟩
  case round =>
    obtain ⟨k, hk, rfl, rfl, hbw⟩ := hrel
    obtain ⟨at_, hat⟩ : ∃ x, (findTo t p k).length = x := ⟨_, rfl⟩
    rw [hat]
    have hatk : at_ ≤ k := by rw [← hat]; exact findTo_le t p k
    by_cases hlt : k + m1 ≤ m0
    · have hdec : decide ((k : Int) + (m1 : Int) ≤ (m0 : Int)) = true := by simp; omega
      obtain ⟨q, hq⟩ : ∃ q, k + m1 = q := ⟨_, rfl⟩
      have hcut : ∀ w5 : World, Rd w5 w.heap.size 1 A0 m0 (t.map bv) → Rd w5 w.heap.size 1 (cutA A0 c0 k 1) (q - k) (((t.drop k).take m1).map bv) := fun w5 h => by
        have h1 := (h.cut (k := k) (cap := c0) (by omega) hmc0).cut_hi (k := q - k) (by omega)
        rw [Nat.mul_one, Nat.mul_one, ← List.map_drop, ← List.map_take, show q - k = m1 by omega] at h1
        rw [show q - k = m1 by omega]
        exact h1
      have Hcut := Lib.hid hcut
      have hcutr := run_cut_lohi (P := Try.prog) 22 5 1 Try.underlying22 size_u8 A0 m0 c0 k q (by omega) (by omega)
      have hpt := prefix_take (t.drop k) p
      rw [L1.out] at hpt
      clear hcut
      cases hp : p.isPrefixOf (t.drop k) with
      | true =>
        have hget := findTo_get t p k (m0 + 1 - m1) (by omega) hp
        rw [HLto.out, hat] at hget
        have hatN : at_ < N := by rw [← HN.out]; exact (List.getElem?_eq_some_iff.1 hget).1
        have hb : (!decide ((t.drop k).take m1 = p)) = false := by rw [hpt, hp]; rfl
        have Hb := Lib.hid hb
        have hnx := findTo_yes t p k hp
        have Hnx := Lib.hid hnx
        have Hat := Lib.hid hat
        have Hget := Lib.hid hget
        clear hb hnx hget hpt hat
        go_wp2_with fail
        refine wp_region_any (by kernel_rfl) ?_
        refine wpAny_loose2 [55, 56, 57, 58, 59, 60, 61, 62, 63, 64, 65] Grow (Vs [is (.slice A0 m0 c0), is (.int .i64 (k : Int)), is (.int .i64 (k : Int)), is (.slice A1 m1 c1), is (.int .i64 (m1 : Int)), is (.int .i64 (q : Int)), is (.slice (cutA A0 c0 k 1) (q - k) (c0 - k)), is (.string ⟨((t.drop k).take m1).toArray⟩), is (.slice A1 m1 c1), is (.string ⟨p.toArray⟩), is (.bool false)]) _ _ rfl (by kernel_rfl) (Below.refl _ _) (fun _ _ => Grow.trans) (stb_all (by repeat' (first | exact stb_is _ | exact stb_row _ _ _ | (refine List.forall_mem_cons.2 ⟨?_, ?_⟩) | (intro p hp; cases hp)))) ?_ ?_
        · refine steps_of ?_
          refine steps_cons ?_ ?_
          · refine step_on rfl rfl ?_
            intro ev w5 hS hc hf hold hval a K ha hK
            have e0 : ev (.tmp 0) = .slice A0 m0 c0 := hold 0 (by kernel_rfl)
            replace hS : Grow wr w5 := ⟨hS.os, hS.tape, hS.output, hS.size, hS.block⟩
            go_simp
            exact hK _ _ (Below.refl _ _) rfl
          refine steps_cons ?_ ?_
          · refine step_on rfl rfl ?_
            intro ev w5 hS hc hf hold hval a K ha hK
            have e10 : ev (.tmp 10) = .int .i64 (k : Int) := hold 10 (by kernel_rfl)
            replace hS : Grow wr w5 := ⟨hS.os, hS.tape, hS.output, hS.size, hS.block⟩
            go_simp
            exact hK _ _ (Below.refl _ _) rfl
          refine steps_cons ?_ ?_
          · refine step_on rfl rfl ?_
            intro ev w5 hS hc hf hold hval a K ha hK
            have e10 : ev (.tmp 10) = .int .i64 (k : Int) := hold 10 (by kernel_rfl)
            replace hS : Grow wr w5 := ⟨hS.os, hS.tape, hS.output, hS.size, hS.block⟩
            go_simp
            exact hK _ _ (Below.refl _ _) rfl
          refine steps_cons ?_ ?_
          · refine step_on rfl rfl ?_
            intro ev w5 hS hc hf hold hval a K ha hK
            have e1 : ev (.tmp 1) = .slice A1 m1 c1 := hold 1 (by kernel_rfl)
            replace hS : Grow wr w5 := ⟨hS.os, hS.tape, hS.output, hS.size, hS.block⟩
            go_simp
            exact hK _ _ (Below.refl _ _) rfl
          refine steps_cons ?_ ?_
          · refine step_on rfl rfl ?_
            intro ev w5 hS hc hf hold hval a K ha hK
            have e58 : ev (.tmp 58) = .slice A1 m1 c1 := hval 3 58 (by kernel_rfl) rfl
            replace hS : Grow wr w5 := ⟨hS.os, hS.tape, hS.output, hS.size, hS.block⟩
            go_simp
            exact hK _ _ (Below.refl _ _) rfl
          refine steps_cons ?_ ?_
          · refine step_on rfl rfl ?_
            intro ev w5 hS hc hf hold hval a K ha hK
            have e57 : ev (.tmp 57) = .int .i64 (k : Int) := hval 2 57 (by kernel_rfl) rfl
            have e59 : ev (.tmp 59) = .int .i64 (m1 : Int) := hval 4 59 (by kernel_rfl) rfl
            replace hS : Grow wr w5 := ⟨hS.os, hS.tape, hS.output, hS.size, hS.block⟩
            go_simp
            exact hK _ _ (Below.refl _ _) (i64_eq (by rw [IntKind.wrap_i64]; omega))
          refine steps_cons ?_ ?_
          · refine step_on rfl rfl ?_
            intro ev w5 hS hc hf hold hval a K ha hK
            have e55 : ev (.tmp 55) = .slice A0 m0 c0 := hval 0 55 (by kernel_rfl) rfl
            have e56 : ev (.tmp 56) = .int .i64 (k : Int) := hval 1 56 (by kernel_rfl) rfl
            have e60 : ev (.tmp 60) = .int .i64 (q : Int) := hval 5 60 (by kernel_rfl) rfl
            replace hS : Grow wr w5 := ⟨hS.os, hS.tape, hS.output, hS.size, hS.block⟩
            go_simp
            exact hK _ _ (Below.refl _ _) rfl
          refine steps_cons ?_ ?_
          · refine step_on rfl rfl ?_
            intro ev w5 hS hc hf hold hval a K ha hK
            have e61 : ev (.tmp 61) = .slice (cutA A0 c0 k 1) (q - k) (c0 - k) := hval 6 61 (by kernel_rfl) rfl
            replace hS : Grow wr w5 := ⟨hS.os, hS.tape, hS.output, hS.size, hS.block⟩
            have s62 := strOf (Hcut.out w5 ((Hr0.out.below M.low).below (hbw.trans (Below.mono hS hbw.size) |>.mono M.low.size)))
            go_simp
            exact hK _ _ (Below.refl _ _) rfl
          refine steps_cons ?_ ?_
          · refine step_on rfl rfl ?_
            intro ev w5 hS hc hf hold hval a K ha hK
            have e1 : ev (.tmp 1) = .slice A1 m1 c1 := hold 1 (by kernel_rfl)
            replace hS : Grow wr w5 := ⟨hS.os, hS.tape, hS.output, hS.size, hS.block⟩
            go_simp
            exact hK _ _ (Below.refl _ _) rfl
          refine steps_cons ?_ ?_
          · refine step_on rfl rfl ?_
            intro ev w5 hS hc hf hold hval a K ha hK
            have e63 : ev (.tmp 63) = .slice A1 m1 c1 := hval 8 63 (by kernel_rfl) rfl
            replace hS : Grow wr w5 := ⟨hS.os, hS.tape, hS.output, hS.size, hS.block⟩
            have s64 := strOf ((Hr1.out.below M.low).below (hbw.trans (Below.mono hS hbw.size) |>.mono M.low.size))
            go_simp
            exact hK _ _ (Below.refl _ _) rfl
          refine steps_cons ?_ ?_
          · refine step_on rfl rfl ?_
            intro ev w5 hS hc hf hold hval a K ha hK
            have e62 : ev (.tmp 62) = .string ⟨((t.drop k).take m1).toArray⟩ := hval 7 62 (by kernel_rfl) rfl
            have e64 : ev (.tmp 64) = .string ⟨p.toArray⟩ := hval 9 64 (by kernel_rfl) rfl
            replace hS : Grow wr w5 := ⟨hS.os, hS.tape, hS.output, hS.size, hS.block⟩
            go_simp
            exact hK _ _ (Below.refl _ _) (bool_eq (by rw [← Hb.out, Bool.eq_iff_iff]; simp))
          exact steps_nil
        · intro ev w6 hS hval
          replace hS : Grow wr w6 := ⟨hS.os, hS.tape, hS.output, hS.size, hS.block⟩
          have e65 : ev (.tmp 65) = .bool false := hval 10 65 rfl
          simp only [putsOf, List.foldl_cons, List.foldl_nil, Act.put, List.setIfInBounds_toArray, List.set_cons_zero, List.set_cons_succ]
          rw [e65]
          clear hval
          have hb6 := hbw.trans (Below.mono hS hbw.size)
          have a6 := a4.below hb6 a4.lt
          obtain ⟨pb, po, rfl, hpb, hpc⟩ := (P.out.below hb6).2 (by omega)
          have q1 : w6.cell? ⟨pb, po + at_, none⟩ = some (.int .i64 (k : Int)) := hpc at_ _ (by rw [List.getElem?_map, Hget.out]; rfl)
          have q2 : w6.cell? ⟨s3, 3, none⟩ = some (.slice (some ⟨pb, po, none⟩) N f2) := a6.cell 3
          have t1 : decide ((at_ : Int) ≥ (N : Int)) = false := by simp; omega
          clear hpc
          go_wp2_with fail
          go_roundw
          case rel =>
            refine ⟨k + 1, by omega, by go_num, ?_, hb6⟩
            rw [Hnx.out, List.length_append, Hat.out]
            go_num
          case measure => simp [intOf]; omega
      | false =>
        have hb : (!decide ((t.drop k).take m1 = p)) = true := by rw [hpt, hp]; rfl
        have Hb := Lib.hid hb
        have hnx := findTo_no t p k hp
        have Hnx := Lib.hid hnx
        have Hat := Lib.hid hat
        clear hb hnx hpt hat
        go_wp2_with fail
        refine wp_region_any (by kernel_rfl) ?_
        refine wpAny_loose2 [55, 56, 57, 58, 59, 60, 61, 62, 63, 64, 65] Grow (Vs [is (.slice A0 m0 c0), is (.int .i64 (k : Int)), is (.int .i64 (k : Int)), is (.slice A1 m1 c1), is (.int .i64 (m1 : Int)), is (.int .i64 (q : Int)), is (.slice (cutA A0 c0 k 1) (q - k) (c0 - k)), is (.string ⟨((t.drop k).take m1).toArray⟩), is (.slice A1 m1 c1), is (.string ⟨p.toArray⟩), is (.bool true)]) _ _ rfl (by kernel_rfl) (Below.refl _ _) (fun _ _ => Grow.trans) (stb_all (by repeat' (first | exact stb_is _ | exact stb_row _ _ _ | (refine List.forall_mem_cons.2 ⟨?_, ?_⟩) | (intro p hp; cases hp)))) ?_ ?_
        · refine steps_of ?_
          refine steps_cons ?_ ?_
          · refine step_on rfl rfl ?_
            intro ev w5 hS hc hf hold hval a K ha hK
            have e0 : ev (.tmp 0) = .slice A0 m0 c0 := hold 0 (by kernel_rfl)
            replace hS : Grow wr w5 := ⟨hS.os, hS.tape, hS.output, hS.size, hS.block⟩
            go_simp
            exact hK _ _ (Below.refl _ _) rfl
          refine steps_cons ?_ ?_
          · refine step_on rfl rfl ?_
            intro ev w5 hS hc hf hold hval a K ha hK
            have e10 : ev (.tmp 10) = .int .i64 (k : Int) := hold 10 (by kernel_rfl)
            replace hS : Grow wr w5 := ⟨hS.os, hS.tape, hS.output, hS.size, hS.block⟩
            go_simp
            exact hK _ _ (Below.refl _ _) rfl
          refine steps_cons ?_ ?_
          · refine step_on rfl rfl ?_
            intro ev w5 hS hc hf hold hval a K ha hK
            have e10 : ev (.tmp 10) = .int .i64 (k : Int) := hold 10 (by kernel_rfl)
            replace hS : Grow wr w5 := ⟨hS.os, hS.tape, hS.output, hS.size, hS.block⟩
            go_simp
            exact hK _ _ (Below.refl _ _) rfl
          refine steps_cons ?_ ?_
          · refine step_on rfl rfl ?_
            intro ev w5 hS hc hf hold hval a K ha hK
            have e1 : ev (.tmp 1) = .slice A1 m1 c1 := hold 1 (by kernel_rfl)
            replace hS : Grow wr w5 := ⟨hS.os, hS.tape, hS.output, hS.size, hS.block⟩
            go_simp
            exact hK _ _ (Below.refl _ _) rfl
          refine steps_cons ?_ ?_
          · refine step_on rfl rfl ?_
            intro ev w5 hS hc hf hold hval a K ha hK
            have e58 : ev (.tmp 58) = .slice A1 m1 c1 := hval 3 58 (by kernel_rfl) rfl
            replace hS : Grow wr w5 := ⟨hS.os, hS.tape, hS.output, hS.size, hS.block⟩
            go_simp
            exact hK _ _ (Below.refl _ _) rfl
          refine steps_cons ?_ ?_
          · refine step_on rfl rfl ?_
            intro ev w5 hS hc hf hold hval a K ha hK
            have e57 : ev (.tmp 57) = .int .i64 (k : Int) := hval 2 57 (by kernel_rfl) rfl
            have e59 : ev (.tmp 59) = .int .i64 (m1 : Int) := hval 4 59 (by kernel_rfl) rfl
            replace hS : Grow wr w5 := ⟨hS.os, hS.tape, hS.output, hS.size, hS.block⟩
            go_simp
            exact hK _ _ (Below.refl _ _) (i64_eq (by rw [IntKind.wrap_i64]; omega))
          refine steps_cons ?_ ?_
          · refine step_on rfl rfl ?_
            intro ev w5 hS hc hf hold hval a K ha hK
            have e55 : ev (.tmp 55) = .slice A0 m0 c0 := hval 0 55 (by kernel_rfl) rfl
            have e56 : ev (.tmp 56) = .int .i64 (k : Int) := hval 1 56 (by kernel_rfl) rfl
            have e60 : ev (.tmp 60) = .int .i64 (q : Int) := hval 5 60 (by kernel_rfl) rfl
            replace hS : Grow wr w5 := ⟨hS.os, hS.tape, hS.output, hS.size, hS.block⟩
            go_simp
            exact hK _ _ (Below.refl _ _) rfl
          refine steps_cons ?_ ?_
          · refine step_on rfl rfl ?_
            intro ev w5 hS hc hf hold hval a K ha hK
            have e61 : ev (.tmp 61) = .slice (cutA A0 c0 k 1) (q - k) (c0 - k) := hval 6 61 (by kernel_rfl) rfl
            replace hS : Grow wr w5 := ⟨hS.os, hS.tape, hS.output, hS.size, hS.block⟩
            have s62 := strOf (Hcut.out w5 ((Hr0.out.below M.low).below (hbw.trans (Below.mono hS hbw.size) |>.mono M.low.size)))
            go_simp
            exact hK _ _ (Below.refl _ _) rfl
          refine steps_cons ?_ ?_
          · refine step_on rfl rfl ?_
            intro ev w5 hS hc hf hold hval a K ha hK
            have e1 : ev (.tmp 1) = .slice A1 m1 c1 := hold 1 (by kernel_rfl)
            replace hS : Grow wr w5 := ⟨hS.os, hS.tape, hS.output, hS.size, hS.block⟩
            go_simp
            exact hK _ _ (Below.refl _ _) rfl
          refine steps_cons ?_ ?_
          · refine step_on rfl rfl ?_
            intro ev w5 hS hc hf hold hval a K ha hK
            have e63 : ev (.tmp 63) = .slice A1 m1 c1 := hval 8 63 (by kernel_rfl) rfl
            replace hS : Grow wr w5 := ⟨hS.os, hS.tape, hS.output, hS.size, hS.block⟩
            have s64 := strOf ((Hr1.out.below M.low).below (hbw.trans (Below.mono hS hbw.size) |>.mono M.low.size))
            go_simp
            exact hK _ _ (Below.refl _ _) rfl
          refine steps_cons ?_ ?_
          · refine step_on rfl rfl ?_
            intro ev w5 hS hc hf hold hval a K ha hK
            have e62 : ev (.tmp 62) = .string ⟨((t.drop k).take m1).toArray⟩ := hval 7 62 (by kernel_rfl) rfl
            have e64 : ev (.tmp 64) = .string ⟨p.toArray⟩ := hval 9 64 (by kernel_rfl) rfl
            replace hS : Grow wr w5 := ⟨hS.os, hS.tape, hS.output, hS.size, hS.block⟩
            go_simp
            exact hK _ _ (Below.refl _ _) (bool_eq (by rw [← Hb.out, Bool.eq_iff_iff]; simp))
          exact steps_nil
        · intro ev w6 hS hval
          replace hS : Grow wr w6 := ⟨hS.os, hS.tape, hS.output, hS.size, hS.block⟩
          have e65 : ev (.tmp 65) = .bool true := hval 10 65 rfl
          simp only [putsOf, List.foldl_cons, List.foldl_nil, Act.put, List.setIfInBounds_toArray, List.set_cons_zero, List.set_cons_succ]
          rw [e65]
          clear hval
          have hb6 := hbw.trans (Below.mono hS hbw.size)
          go_wp2_with fail
          go_roundw
          case rel =>
            refine ⟨k + 1, by omega, by go_num, ?_, hb6⟩
            rw [Hnx.out, Hat.out]
          case measure => simp [intOf]; omega
    · have hdec : decide ((k : Int) + (m1 : Int) ≤ (m0 : Int)) = false := by simp; omega
      have hkk : k = m0 + 1 - m1 := by omega
      rw [hkk, HLto.out, HN.out] at hat
      subst hat
      clear hkk
      go_wp2_with fail
      refine (told20_any _).mono ?_
      rintro e w8 ⟨rfl, hb8⟩
      have hb9 := hbw.trans (hb8.mono hbw.size)
      have a9 := a4.below hb9 a4.lt
      have b9 := b4.below hb9 b4.lt
      have q1 : w8.cell? ⟨s3, 3, none⟩ = some (.slice C2 N f2) := a9.cell 3
      have q2 : w8.cell? ⟨s3, 1, none⟩ = some (.int .i64 (N : Int)) := a9.cell 1
      have q3 : w8.cell? ⟨s4, 1, none⟩ = some (.int .i64 (N : Int)) := b9.cell 1
      have hfin := ms_end M hb9
      by_cases hm1 : m1 = 0
      · have hN1 := Hnil.out hm1
        have t1 : decide ((m1 : Int) > 0) = false := by simp; omega
        have t2 : ((N : Int) == (m0 : Int) + 1) = true := by rw [beq_iff_eq]; omega
        go_wp2_with fail
        go_ret
        exact ⟨ret_bool (by simp <;> omega), hfin⟩
      · have t1 : decide ((m1 : Int) > 0) = true := by simp; omega
        go_wp2_with fail
        go_ret
        exact ⟨ret_bool (by simp), hfin⟩
end Go.Proofs.Ytmebhlopmgfobaa
