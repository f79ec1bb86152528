/- The walks of slices.Equal of ints and of model.Same. Conditions: at most 2^40 elements. -/
import Derived.Test.YtmebhlopmgfobaaModAll
namespace Go.Proofs.Ytmebhlopmgfobaa
open Go.RowKit
set_option linter.unusedVariables false
set_option linter.unusedSimpArgs false
theorem nv_inj {a b : Nat} (h : a ≠ b) : ((a : Int) == (b : Int)) = false := by rw [beq_eq_false_iff_ne]; omega
theorem take_ext {L1 L2 : List Nat} {k n : Nat} (h1 : L1.length = n) (h2 : L2.length = n) (h : L1.take k = L2.take k) (hk : n ≤ k) : L1 = L2 := by
  rw [List.take_of_length_le (by omega), List.take_of_length_le (by omega)] at h
  exact h
set_option maxRecDepth 100000 in
set_option maxHeartbeats 1000000 in
theorem SEqual_any (A1 A2 : Option Addr) (n1 c1 n2 c2 B1 B2 : Nat) (L1 L2 : List Nat) (w : World) (h1 : Rd w B1 1 A1 n1 (L1.map nv)) (h2 : Rd w B2 1 A2 n2 (L2.map nv)) (hn : n1 ≤ 1099511627776) (hn2 : n2 ≤ 1099511627776) :
    Calls Try.prog 24 #[.slice A1 n1 c1, .slice A2 n2 c2] w fun e w' => e = .returned (.bool (decide (L1 = L2))) ∧ Below w.heap.size w w' := by
  have l1 : L1.length = n1 := by simpa using h1.1
  have l2 : L2.length = n2 := by simpa using h2.1
  have H1 := Lib.hid h1
  have H2 := Lib.hid h2
  have HL1 := Lib.hid l1
  have HL2 := Lib.hid l2
  clear h1 h2 l1 l2
  by_cases hne : n1 = n2
  · subst hne
    go_enter Try.func24, Try.ntmps24
    go_wp2
    go_loopw [13] (fun i wr => ∃ k : Nat, k ≤ n1 ∧ i = .int .i64 k ∧ L1.take k = L2.take k ∧ ∃ m, wr = w.drewN m) (fun i _ => n1 - (intOf i).toNat)
    case atStart => exact ⟨0, Nat.zero_le _, rfl, rfl, 0, rfl⟩
    case round =>
      obtain ⟨k, hk, rfl, hpre, mm, rfl⟩ := hrel
      by_cases hlt : k < n1
      · obtain ⟨x, hx⟩ : ∃ x, L1[k]? = some x := ⟨L1[k]'(by have := HL1.out; omega), List.getElem?_eq_getElem (by have := HL1.out; omega)⟩
        obtain ⟨y, hy⟩ : ∃ y, L2[k]? = some y := ⟨L2[k]'(by have := HL2.out; omega), List.getElem?_eq_getElem (by have := HL2.out; omega)⟩
        obtain ⟨b1, o1, u1, rfl, hb1, hu1, d1⟩ := H1.out.get hlt
        obtain ⟨b2, o2, u2, rfl, hb2, hu2, d2⟩ := H2.out.get hlt
        rw [List.getElem?_map, hx] at hu1
        rw [List.getElem?_map, hy] at hu2
        simp only [Option.map_some, Option.some.injEq] at hu1 hu2
        subst hu1
        subst hu2
        unfold nv iv at d1 d2
        have Hpre := Lib.hid hpre
        have Hx := Lib.hid hx
        have Hy := Lib.hid hy
        clear hpre hx hy
        by_cases hxy : x = y
        · subst hxy
          go_wp2
          go_quiet (fail)
          go_wp2
          go_roundw
          case rel =>
            refine ⟨k + 1, by omega, by go_num, ?_, _, rfl⟩
            rw [List.take_add_one, List.take_add_one, Hpre.out, Hx.out, Hy.out]
          case measure => simp [intOf]; omega
        · have t := nv_inj hxy
          have hfin : L1 ≠ L2 := fun h => hxy (by
            have a := Hx.out
            rw [h, Hy.out] at a
            injection a with a
            exact a.symm)
          have Hfin := Lib.hid hfin
          clear hfin
          go_wp2
          go_quiet (fail)
          go_wp2
          go_ret
          exact ⟨ret_bool (by rw [decide_eq_false Hfin.out]), below_drewN (below_drewN (Below.refl _ _) _) _⟩
      · have hge : n1 ≤ k := by omega
        have hfin := Lib.hid (take_ext HL1.out HL2.out hpre hge)
        clear hpre
        go_wp2
        go_ret
        exact ⟨ret_bool (by rw [decide_eq_true hfin.out]), below_drewN (Below.refl _ _) _⟩
  · have hfin : L1 ≠ L2 := fun h => hne (by rw [← HL1.out, ← HL2.out, h])
    have Hfin := Lib.hid hfin
    have t := nv_inj hne
    clear hfin
    go_enter Try.func24, Try.ntmps24
    go_wp2
    go_ret
    exact ⟨ret_bool (by rw [decide_eq_false Hfin.out]), Below.refl _ _⟩
set_option maxRecDepth 100000 in
set_option maxHeartbeats 2000000 in
theorem Same_any (k1 k2 m1 m2 : Int) (A1 A2 A3 A4 : Option Addr) (n1 c1 n2 c2 n3 c3 n4 c4 B1 B2 B3 B4 : Nat) (X1 X2 : List UInt8) (L1 L2 : List Nat) (w : World) (h1 : Rd w B1 1 A1 n1 (X1.map bv)) (h2 : Rd w B2 1 A2 n2 (X2.map bv)) (h3 : Rd w B3 1 A3 n3 (L1.map nv)) (h4 : Rd w B4 1 A4 n4 (L2.map nv))
    (b1 : B1 ≤ w.heap.size) (b2 : B2 ≤ w.heap.size) (b3 : B3 ≤ w.heap.size) (b4 : B4 ≤ w.heap.size) (hn3 : n3 ≤ 1099511627776) (hn4 : n4 ≤ 1099511627776) :
    Calls Try.prog 15 #[.agg #[.int .i64 k1, .int .i64 m1, .slice A1 n1 c1, .slice A3 n3 c3], .agg #[.int .i64 k2, .int .i64 m2, .slice A2 n2 c2, .slice A4 n4 c4]] w fun e w' => e = .returned (.bool (decide (k1 = k2 ∧ m1 = m2 ∧ X1 = X2 ∧ L1 = L2))) ∧ Below w.heap.size w w' := by
  have hbl : ∀ o1 o2, Below w.heap.size w ((w.alloc o1).alloc o2) := fun o1 o2 => ((Below.refl w.heap.size w).alloc (Nat.le_refl _) o1).alloc (by simp) o2
  have H1 := Lib.hid (h1.mono b1)
  have H2 := Lib.hid (h2.mono b2)
  have H3 := Lib.hid (h3.mono b3)
  have H4 := Lib.hid (h4.mono b4)
  clear h1 h2 h3 h4 b1 b2 b3 b4
  by_cases hk : k1 = k2
  · by_cases hm : m1 = m2
    · by_cases hX : X1 = X2
      · have t1 : (k1 == k2) = true := by rw [beq_iff_eq]; exact hk
        have t2 : (m1 == m2) = true := by rw [beq_iff_eq]; exact hm
        have Hfin := Lib.hid (And.intro hk (And.intro hm hX))
        clear hk hm hX
        go_enter Try.func15, Try.ntmps15
        go_wp2_with fail
        refine (BEqual_any _ _ _ _ _ _ _ _ X1 X2 _ (H1.out.below (hbl _ _)) (H2.out.below (hbl _ _))).mono ?_
        rintro e w' ⟨rfl, rfl⟩
        rw [decide_eq_true Hfin.out.2.2]
        go_wp2_with fail
        refine (SEqual_any _ _ _ _ _ _ _ _ L1 L2 _ (H3.out.below (hbl _ _)) (H4.out.below (hbl _ _)) hn3 hn4).mono ?_
        rintro e w' ⟨rfl, hb'⟩
        have hB := (hbl _ _).trans (hb'.mono (hbl _ _).size)
        clear hb'
        go_wp2_with fail
        go_ret
        exact ⟨ret_bool (by simp [Hfin.out.1, Hfin.out.2.1, Hfin.out.2.2]), hB⟩
      · have t1 : (k1 == k2) = true := by rw [beq_iff_eq]; exact hk
        have t2 : (m1 == m2) = true := by rw [beq_iff_eq]; exact hm
        have Hfin := Lib.hid hX
        clear hk hm hX
        go_enter Try.func15, Try.ntmps15
        go_wp2_with fail
        refine (BEqual_any _ _ _ _ _ _ _ _ X1 X2 _ (H1.out.below (hbl _ _)) (H2.out.below (hbl _ _))).mono ?_
        rintro e w' ⟨rfl, rfl⟩
        rw [decide_eq_false Hfin.out]
        go_wp2_with fail
        go_ret
        exact ⟨ret_bool (by simp [Hfin.out]), hbl _ _⟩
    · have t1 : (k1 == k2) = true := by rw [beq_iff_eq]; exact hk
      have t2 : (m1 == m2) = false := by rw [beq_eq_false_iff_ne]; exact hm
      have Hfin := Lib.hid hm
      clear hk hm
      go_enter Try.func15, Try.ntmps15
      go_wp2_with fail
      go_ret
      exact ⟨ret_bool (by simp [Hfin.out]), hbl _ _⟩
  · have t1 : (k1 == k2) = false := by rw [beq_eq_false_iff_ne]; exact hk
    have Hfin := Lib.hid hk
    clear hk
    go_enter Try.func15, Try.ntmps15
    go_wp2_with fail
    go_ret
    exact ⟨ret_bool (by simp [Hfin.out]), hbl _ _⟩
end Go.Proofs.Ytmebhlopmgfobaa
