/- The walks of scrimshawref6.begins, Places, Same, and of scrimshawref16.SameRes. Conditions: sizes of at most 2^40. -/
import Derived.Test.YtmebhlopmgfobaaModTold
namespace Go.Proofs.Ytmebhlopmgfobaa
open Go.RowKit
set_option linter.unusedVariables false
set_option linter.unusedSimpArgs false
theorem sub_eq (l : List UInt8) (i j : Nat) : (⟨l.toArray⟩ : ByteArray).extract i j = ⟨((l.drop i).take (j - i)).toArray⟩ := by
  apply ByteArray.ext
  rw [ByteArray.data_extract]
  apply Array.ext'
  rw [Array.toList_extract]
theorem ba_size (l : List UInt8) : (⟨l.toArray⟩ : ByteArray).size = l.length := by simp [ByteArray.size]
section
variable (l : List UInt8) (w : World)
theorem sub_lohi (i j : Nat) (h1 : i ≤ j) (h2 : j ≤ l.length) : (Instr.slice 9 (.string ⟨l.toArray⟩) (some (.int .i64 (i : Int))) (some (.int .i64 (j : Int))) none).run Try.prog w = .ok (.string ⟨((l.drop i).take (j - i)).toArray⟩) w := by
  rw [run_slice_string (P := Try.prog) (w := w) 9 ⟨l.toArray⟩ .i64 .i64 i j Try.underlying9 (by omega) (by omega) (by rw [ba_size]; omega)]
  rw [Int.toNat_natCast, Int.toNat_natCast, sub_eq]
theorem sub_hi (j : Nat) (h2 : j ≤ l.length) : (Instr.slice 9 (.string ⟨l.toArray⟩) none (some (.int .i64 (j : Int))) none).run Try.prog w = .ok (.string ⟨(l.take j).toArray⟩) w := by
  rw [run_slice_string_h (P := Try.prog) (w := w) 9 ⟨l.toArray⟩ Try.underlying9 .i64 j (by omega) (by rw [ba_size]; omega)]
  rw [Int.toNat_natCast, sub_eq]
  simp
theorem sub_lo (i : Nat) (h2 : i ≤ l.length) : (Instr.slice 9 (.string ⟨l.toArray⟩) (some (.int .i64 (i : Int))) none none).run Try.prog w = .ok (.string ⟨(l.drop i).toArray⟩) w := by
  rw [run_slice_string_l (P := Try.prog) (w := w) 9 ⟨l.toArray⟩ Try.underlying9 .i64 i (by omega) (by rw [ba_size]; omega)]
  rw [Int.toNat_natCast, sub_eq, ba_size]
  congr 3
  apply congrArg
  rw [List.take_of_length_le (by rw [List.length_drop]; omega)]
theorem at_lohi (i j : Nat) (h1 : i ≤ j) (h2 : j ≤ l.length) : (Instr.sliceAt 9 (.string ⟨l.toArray⟩) (some (.int .i64 (i : Int))) (some (.int .i64 (j : Int))) none).run Try.prog w = .ok (.string ⟨((l.drop i).take (j - i)).toArray⟩) w := by
  rw [run_sliceAt_string (h := Try.underlying9), sub_lohi l w i j h1 h2]
theorem at_hi (j : Nat) (h2 : j ≤ l.length) : (Instr.sliceAt 9 (.string ⟨l.toArray⟩) none (some (.int .i64 (j : Int))) none).run Try.prog w = .ok (.string ⟨(l.take j).toArray⟩) w := by
  rw [run_sliceAt_string (h := Try.underlying9), sub_hi l w j h2]
theorem at_lo (i : Nat) (h2 : i ≤ l.length) : (Instr.sliceAt 9 (.string ⟨l.toArray⟩) (some (.int .i64 (i : Int))) none none).run Try.prog w = .ok (.string ⟨(l.drop i).toArray⟩) w := by
  rw [run_sliceAt_string (h := Try.underlying9), sub_lo l w i h2]
end
theorem prefix_beq (a b : List UInt8) : (a.take b.length == b) = b.isPrefixOf a := by
  rw [Bool.eq_iff_iff]
  simp only [beq_iff_eq, List.isPrefixOf_iff_prefix]
  constructor
  · intro h
    rw [← h]
    exact List.take_prefix _ _
  · intro h
    exact (List.prefix_iff_eq_take.1 h).symm
set_option maxRecDepth 100000 in
set_option maxHeartbeats 1000000 in
theorem begins_any (t p : List UInt8) (i q n m : Nat) (w : World) (hn : t.length = n) (hm : p.length = m) (hq : i + m = q) (h : q ≤ n) (hn40 : n ≤ 1099511627776) :
    Calls Try.prog 27 #[.string ⟨t.toArray⟩, .int .i64 (i : Int), .string ⟨p.toArray⟩] w fun e w' => e = .returned (.bool (p.isPrefixOf (t.drop i))) ∧ w = w' := by
  have z1 : (⟨t.toArray⟩ : ByteArray).size = n := (ba_size t).trans hn
  have z2 : (⟨p.toArray⟩ : ByteArray).size = m := (ba_size p).trans hm
  have k1 := fun w => sub_lohi t w i q (by omega) (by omega)
  have k2 := fun w => at_lohi t w i q (by omega) (by omega)
  have hs : (i : Int) + (m : Int) = (q : Int) := by omega
  have hfin : ((t.drop i).take (q - i) == p) = p.isPrefixOf (t.drop i) := by
    rw [← prefix_beq, hm, show q - i = m by omega]
  have Hfin := Lib.hid hfin
  have Hm := Lib.hid hm
  clear hm hn hfin
  go_enter Try.func27, Try.ntmps27
  go_wp2
  go_ret
  exact ⟨ret_bool (by first | exact Hfin.out | (simp [← Hfin.out])), rfl⟩
set_option maxRecDepth 100000 in
set_option maxHeartbeats 2000000 in
theorem Places_any (t p : List UInt8) (n m : Nat) (L : List Nat) (N : Nat) (w : World) (hn : t.length = n) (hm : p.length = m) (hL : findB t p = L) (hN : L.length = N) (hn40 : n ≤ 549755813888) (hm40 : m ≤ 549755813888) :
    Calls Try.prog 21 #[.string ⟨t.toArray⟩, .string ⟨p.toArray⟩] w fun e w' => ∃ A' c', e = .returned (.slice A' N c') ∧ Made w' w.heap.size 3 1 A' N c' (L.map nv) ∧ Below w.heap.size w w' := by
  obtain ⟨i0, hi0, hz0, hz1, hz2⟩ := info_parts int_info
  have z1 : (⟨t.toArray⟩ : ByteArray).size = n := (ba_size t).trans hn
  have z2 : (⟨p.toArray⟩ : ByteArray).size = m := (ba_size p).trans hm
  have hend : ∀ k : Nat, k ≤ n + 1 - m → ¬ (k + m ≤ n) → findTo t p k = L := fun k h1 h2 => by
    rw [← hL, findB, hn, hm]
    congr 1
    omega
  have Hend := Lib.hid hend
  have HN := Lib.hid hN
  have Hn := Lib.hid hn
  have Hm := Lib.hid hm
  clear hL hN hend hn hm
  go_enter Try.func21, Try.ntmps21
  go_wp2
  go_loopw [5, 6] (fun v i wr => ∃ k : Nat, k ≤ n + 1 - m ∧ i = .int .i64 k ∧ wr.ownsRow w.heap.size 3 1 v (findTo t p k).length ((findTo t p k).map nv) ∧ Below w.heap.size w wr) (fun _ i _ => n + 1 - (intOf i).toNat)
  case atStart => exact ⟨0, Nat.zero_le _, rfl, World.ownsRow_nil _ _ _ _, Below.refl _ _⟩
  case round =>
    obtain ⟨k, hk, rfl, hown, hbw⟩ := hrel
    have hsz := hbw.size
    by_cases hlt : k + m ≤ n
    · have hle := findTo_le t p k
      have hdec : decide ((k : Int) + (m : Int) ≤ (n : Int)) = true := by simp; omega
      obtain ⟨q, hq⟩ : ∃ q, k + m = q := ⟨_, rfl⟩
      have Hown := Lib.hid hown
      clear hown
      cases hp : p.isPrefixOf (t.drop k) with
      | true =>
        have hnx := findTo_yes t p k hp
        have Hnx := Lib.hid hnx
        obtain ⟨u, hu⟩ : ∃ u, (findTo t p k).length = u := ⟨_, rfl⟩
        rw [hu] at hle Hown
        have Hu := Lib.hid hu
        clear hnx hu
        go_wp2_with fail
        refine (begins_any t p k q n m _ Hn.out Hm.out hq (by omega) (by omega)).mono ?_
        rintro e w' ⟨rfl, rfl⟩
        rw [hp]
        go_wp2_with (at_builtin; refine wpList_push _ rfl (.tmp 20) (.tmp 22) _ rfl w.heap.size 3 i0 (.int .i64 0) 1 8 Try.underlying27 hi0 hz0 hz1 hz2 rfl (by decide) _ u _ rfl Hown.out rfl rfl (by simp [Value.oneCell']) (by unfold maxLen; omega) (by omega) hsz ?_; intro v2 w2 hown2 hg2 hs2 hat2)
        have hb2 := below_grown hbw Hown.out hg2 hsz
        clear hg2 hat2
        go_roundw
        case rel =>
          refine ⟨k + 1, by omega, by go_num, ?_, hb2⟩
          rw [Hnx.out, List.length_append, Hu.out, List.map_append]
          exact hown2
        case measure => simp [intOf]; omega
      | false =>
        have hnx := findTo_no t p k hp
        have Hnx := Lib.hid hnx
        clear hnx hle
        go_wp2_with fail
        refine (begins_any t p k q n m _ Hn.out Hm.out hq (by omega) (by omega)).mono ?_
        rintro e w' ⟨rfl, rfl⟩
        rw [hp]
        go_wp2
        go_roundw
        case rel =>
          refine ⟨k + 1, by omega, by go_num, ?_, hbw⟩
          rw [Hnx.out]
          exact Hown.out
        case measure => simp [intOf]; omega
    · have hdec : decide ((k : Int) + (m : Int) ≤ (n : Int)) = false := by simp; omega
      rw [Hend.out k hk hlt, HN.out] at hown
      obtain ⟨A', c', rfl, hm⟩ := made_of_own hown
      clear hown
      go_wp2
      go_ret
      exact ⟨A', c', rfl, hm, hbw⟩
set_option maxRecDepth 100000 in
set_option maxHeartbeats 1000000 in
theorem refSame_any (A1 A2 : Option Addr) (n1 c1 n2 c2 B1 B2 : Nat) (L1 L2 : List Nat) (w : World) (h1 : Rd w B1 1 A1 n1 (L1.map nv)) (h2 : Rd w B2 1 A2 n2 (L2.map nv)) (hn : n1 ≤ 1099511627776) (hn2 : n2 ≤ 1099511627776) :
    Calls Try.prog 22 #[.slice A1 n1 c1, .slice A2 n2 c2] w fun e w' => e = .returned (.bool (decide (L1 = L2))) ∧ Below w.heap.size w w' := by
  have l1 : L1.length = n1 := by simpa using h1.1
  have l2 : L2.length = n2 := by simpa using h2.1
  have H1 := Lib.hid h1
  have H2 := Lib.hid h2
  have HL1 := Lib.hid l1
  have HL2 := Lib.hid l2
  clear h1 h2 l1 l2
  by_cases hne : n1 = n2
  · subst hne
    go_enter Try.func22, Try.ntmps22
    go_wp2
    go_loopw [5] (fun i wr => ∃ k : Nat, k ≤ n1 ∧ i = .int .i64 k ∧ L1.take k = L2.take k ∧ ∃ m, wr = w.drewN m) (fun i _ => n1 - (intOf i).toNat)
    case atStart => exact ⟨0, Nat.zero_le _, rfl, rfl, 0, rfl⟩
    case round =>
      obtain ⟨k, hk, rfl, hpre, mm, rfl⟩ := hrel
      by_cases hlt : k < n1
      · obtain ⟨x, hx⟩ : ∃ x, L1[k]? = some x := ⟨L1[k]'(by have := HL1.out; omega), List.getElem?_eq_getElem (by have := HL1.out; omega)⟩
        obtain ⟨y, hy⟩ : ∃ y, L2[k]? = some y := ⟨L2[k]'(by have := HL2.out; omega), List.getElem?_eq_getElem (by have := HL2.out; omega)⟩
        obtain ⟨b1, o1, u1, rfl, hb1, hu1, d1⟩ := H1.out.get hlt
        obtain ⟨b2, o2, u2, rfl, hb2, hu2, d2⟩ := H2.out.get hlt
        rw [List.getElem?_map, hx] at hu1
        rw [List.getElem?_map, hy] at hu2
        simp only [Option.map_some, Option.some.injEq] at hu1 hu2
        subst hu1
        subst hu2
        unfold nv iv at d1 d2
        have Hpre := Lib.hid hpre
        have Hx := Lib.hid hx
        have Hy := Lib.hid hy
        clear hpre hx hy
        by_cases hxy : x = y
        · subst hxy
          go_wp2
          go_quiet (fail)
          go_wp2
          go_roundw
          case rel =>
            refine ⟨k + 1, by omega, by go_num, ?_, _, rfl⟩
            rw [List.take_add_one, List.take_add_one, Hpre.out, Hx.out, Hy.out]
          case measure => simp [intOf]; omega
        · have t := nv_inj hxy
          have hfin : L1 ≠ L2 := fun h => hxy (by
            have a := Hx.out
            rw [h, Hy.out] at a
            injection a with a
            exact a.symm)
          have Hfin := Lib.hid hfin
          clear hfin
          go_wp2
          go_quiet (fail)
          go_wp2
          go_ret
          exact ⟨ret_bool (by rw [decide_eq_false Hfin.out]), below_drewN (below_drewN (Below.refl _ _) _) _⟩
      · have hge : n1 ≤ k := by omega
        have hfin := Lib.hid (take_ext HL1.out HL2.out hpre hge)
        clear hpre
        go_wp2
        go_ret
        exact ⟨ret_bool (by rw [decide_eq_true hfin.out]), below_drewN (Below.refl _ _) _⟩
  · have hfin : L1 ≠ L2 := fun h => hne (by rw [← HL1.out, ← HL2.out, h])
    have Hfin := Lib.hid hfin
    have t := nv_inj hne
    clear hfin
    go_enter Try.func22, Try.ntmps22
    go_wp2
    go_ret
    exact ⟨ret_bool (by rw [decide_eq_false Hfin.out]), Below.refl _ _⟩
set_option maxRecDepth 100000 in
set_option maxHeartbeats 2000000 in
theorem SameRes_any (k1 k2 m1 m2 : Int) (A1 A2 A3 A4 : Option Addr) (n1 c1 n2 c2 n3 c3 n4 c4 B1 B2 B3 B4 : Nat) (X1 X2 : List UInt8) (L1 L2 : List Nat) (w : World) (h1 : Rd w B1 1 A1 n1 (X1.map bv)) (h2 : Rd w B2 1 A2 n2 (X2.map bv)) (h3 : Rd w B3 1 A3 n3 (L1.map nv)) (h4 : Rd w B4 1 A4 n4 (L2.map nv))
    (b1 : B1 ≤ w.heap.size) (b2 : B2 ≤ w.heap.size) (b3 : B3 ≤ w.heap.size) (b4 : B4 ≤ w.heap.size) (hn3 : n3 ≤ 1099511627776) (hn4 : n4 ≤ 1099511627776) :
    Calls Try.prog 14 #[.agg #[.int .i64 k1, .int .i64 m1, .slice A1 n1 c1, .slice A3 n3 c3], .agg #[.int .i64 k2, .int .i64 m2, .slice A2 n2 c2, .slice A4 n4 c4]] w fun e w' => e = .returned (.bool (decide (k1 = k2 ∧ m1 = m2 ∧ X1 = X2 ∧ L1 = L2))) ∧ Below w.heap.size w w' := by
  have hbl : ∀ o1 o2, Below w.heap.size w ((w.alloc o1).alloc o2) := fun o1 o2 => ((Below.refl w.heap.size w).alloc (Nat.le_refl _) o1).alloc (by simp) o2
  have H1 := Lib.hid (h1.mono b1)
  have H2 := Lib.hid (h2.mono b2)
  have H3 := Lib.hid (h3.mono b3)
  have H4 := Lib.hid (h4.mono b4)
  clear h1 h2 h3 h4 b1 b2 b3 b4
  by_cases hk : k1 = k2
  · by_cases hm : m1 = m2
    · by_cases hX : X1 = X2
      · have t1 : (k1 == k2) = true := by rw [beq_iff_eq]; exact hk
        have t2 : (m1 == m2) = true := by rw [beq_iff_eq]; exact hm
        have Hfin := Lib.hid (And.intro hk (And.intro hm hX))
        clear hk hm hX
        go_enter Try.func14, Try.ntmps14
        have s1 := fun o1 o2 => strOf (H1.out.below (hbl o1 o2))
        have s2 := fun o1 o2 => strOf (H2.out.below (hbl o1 o2))
        have t3 : (X1 == X2) = true := by rw [beq_iff_eq]; exact Hfin.out.2.2
        go_wp2_with fail
        refine (refSame_any _ _ _ _ _ _ _ _ L1 L2 _ (H3.out.below (hbl _ _)) (H4.out.below (hbl _ _)) hn3 hn4).mono ?_
        rintro e w' ⟨rfl, hb'⟩
        have hB := (hbl _ _).trans (hb'.mono (hbl _ _).size)
        clear hb'
        go_wp2_with fail
        go_ret
        exact ⟨ret_bool (by simp [Hfin.out.1, Hfin.out.2.1, Hfin.out.2.2]), hB⟩
      · have t1 : (k1 == k2) = true := by rw [beq_iff_eq]; exact hk
        have t2 : (m1 == m2) = true := by rw [beq_iff_eq]; exact hm
        have Hfin := Lib.hid hX
        clear hk hm hX
        go_enter Try.func14, Try.ntmps14
        have s1 := fun o1 o2 => strOf (H1.out.below (hbl o1 o2))
        have s2 := fun o1 o2 => strOf (H2.out.below (hbl o1 o2))
        have t3 : (X1 == X2) = false := by rw [beq_eq_false_iff_ne]; exact Hfin.out
        go_wp2_with fail
        go_ret
        exact ⟨ret_bool (by simp [Hfin.out]), hbl _ _⟩
    · have t1 : (k1 == k2) = true := by rw [beq_iff_eq]; exact hk
      have t2 : (m1 == m2) = false := by rw [beq_eq_false_iff_ne]; exact hm
      have Hfin := Lib.hid hm
      clear hk hm
      go_enter Try.func14, Try.ntmps14
      go_wp2_with fail
      go_ret
      exact ⟨ret_bool (by simp [Hfin.out]), hbl _ _⟩
  · have t1 : (k1 == k2) = false := by rw [beq_eq_false_iff_ne]; exact hk
    have Hfin := Lib.hid hk
    clear hk
    go_enter Try.func14, Try.ntmps14
    go_wp2_with fail
    go_ret
    exact ⟨ret_bool (by simp [Hfin.out]), hbl _ _⟩
end Go.Proofs.Ytmebhlopmgfobaa
