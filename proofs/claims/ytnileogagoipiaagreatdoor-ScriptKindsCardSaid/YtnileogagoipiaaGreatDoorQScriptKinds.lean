/- The walk of ScriptKinds: each step of any bytes is one of the eight, with places and numbers near what may be, or just raw. Conditions: the bytes' length is a length. -/
import Derived.Test.YtnileogagoipiaaGreatDoorPkZ
namespace Go.Proofs.YtnileogagoipiaaGreatDoor
open Go.RowKit
set_option linter.unusedVariables false
set_option linter.unusedSimpArgs false
theorem spAll_get (l : List UInt8) (n k : Nat) (h : k < n) : (spAll l n)[k]? = some (spAt l k) := by
  unfold spAll
  rw [List.getElem?_map, List.getElem?_range h]
  rfl
theorem spAll_len (l : List UInt8) (n : Nat) : (spAll l n).length = n := by simp [spAll]
theorem sk_w64 (k : Nat) (h : k < 9223372036854775808) : wrap64 (k : Int) = (k : Int) := by unfold wrap64; omega
set_option maxRecDepth 100000 in
set_option maxHeartbeats 40000000 in
theorem ScriptKinds_walk (A : Option Addr) (m c : Nat) (l : List UInt8) (w : World) (hr : Rd w w.heap.size 1 A m (l.map bv)) (hc : m ≤ c) (hcm : c ≤ maxLen) :
    Calls Tryz.prog 4 #[.slice A m c] w fun e w' => e = .returned (.bool true) ∧ Below w.heap.size w w' := by
  have hlm : l.length = m := by simpa using hr.1
  by_cases h200 : m ≤ 200
  · have n1 : ¬ ((m : Int) > 200) := by omega
    have d1 : decide ((m : Int) > 200) = false := decide_eq_false n1
    have h0 := ScAll_any A m c l w hr (by omega) hc
    unfold AllPostS at h0
    obtain ⟨n3, hn3⟩ : ∃ n3, l.length / 3 = n3 := ⟨_, rfl⟩
    rw [hn3] at h0
    rw [hlm] at hn3
    have H0 := Lib.hid h0
    have Hr := Lib.hid hr
    have Hlm := Lib.hid hlm
    have Hn3 := Lib.hid hn3
    clear h0 hr hlm hn3
    go_enter Tryz.func4, Tryz.ntmps4
    go_wp2_with fail
    refine H0.out.mono ?_
    rintro e w1 ⟨v1, xs, rfl, ho1, hs1, hb1⟩
    obtain ⟨A1, c1, rfl, _⟩ := made_of_own ho1
    have Ho1 := Lib.hid ho1
    have Hs1 := Lib.hid hs1
    have Hb1 := Lib.hid hb1
    have hw1 := hb1.size
    clear ho1 hs1 hb1 H0
    go_wp2_with fail
    go_loopw [4] (fun i wr => ∃ k : Nat, k ≤ n3 ∧ i = .int .i64 (k : Int) ∧ Below w1.heap.size w1 wr) (fun i _ => n3 - (intOf i).toNat)
    case atStart => exact ⟨0, by omega, rfl, Below.refl _ _⟩
    case round =>
      obtain ⟨k, hk, rfl, hb⟩ := hrel
      by_cases hlt : k < n3
      · have hlw := own_below Ho1.out hb
        have hsg := (Hs1.out.below hb).get (spAll_get l n3 k hlt)
        obtain ⟨x, hx⟩ : ∃ x, l[3 * k]? = some x := ⟨_, List.getElem?_eq_getElem (by rw [Hlm.out]; have := Hn3.out; omega)⟩
        obtain ⟨q, hq⟩ : ∃ q, 3 * k = q := ⟨_, rfl⟩
        have hsp : ∃ y z, spAt l k = spOf x y z := ⟨_, _, by unfold spAt; rw [List.getD_eq_getElem?_getD (i := 3 * k), hx]; rfl⟩
        obtain ⟨y, z, hyz⟩ := hsp
        rw [hyz] at hsg
        obtain ⟨A6, n6, c6, x0, x1, x2, x3, hd6⟩ := hsg
        have hrd := Rd.of_own hlw
        obtain ⟨gl0, off, rfl, hglt, hcell⟩ := hrd.2 (by omega)
        have l0 : wr.cell? ⟨gl0, off + k * 4, none⟩ = some (.int .i64 (spK x)) := hcell _ _ x0
        have l1 : wr.cell? ⟨gl0, off + k * 4 + 1, none⟩ = some (.int .i64 (spP x y)) := hcell _ _ x1
        have l2 : wr.cell? ⟨gl0, off + k * 4 + 2, none⟩ = some (.int .i64 (spN x z)) := hcell _ _ x2
        have l3 : wr.cell? ⟨gl0, off + k * 4 + 3, none⟩ = some (.slice A6 n6 c6) := hcell _ _ x3
        have hqm : q < m := by have := Hn3.out; omega
        obtain ⟨bk, boff, rfl, hbB, hbc⟩ := (Hr.out.below (Hb1.out.trans (hb.mono hw1))).2 (by omega)
        rw [hq] at hx
        have lq : wr.cell? ⟨bk, boff + q, none⟩ = some (bv x) := hbc q _ (by rw [List.getElem?_map, hx]; rfl)
        have eq3 : (3 : Int) * (k : Int) = (q : Int) := by omega
        have k1 := spK_b x
        have k2 := spP_b x y
        have k3 := spN_b x z
        have hl6 : n6 ≤ 4 := by have := spD_len x y z; have := hd6.1; simp only [spOf] at this; omega
        have hno : ¬ (spK x = 1 ∨ spK x = 3 ∨ spK x = 6 ∨ spK x = 7) → n6 = 0 := fun h => by
          have h1 := hd6.1
          simp only [spOf] at h1
          rw [spD_no x y z h] at h1
          exact h1.symm
        have hxl := x.toNat_lt
        generalize spK x = K0 at l0 k1 hno
        generalize spP x y = P0 at l1 k2
        generalize spN x z = N0 at l2 k3
        have hb' : ∀ o, Below w1.heap.size w1 (wr.alloc o) := fun o => hb.alloc hb.size o
        have Hbb := Lib.hid hb'
        unfold bv at lq
        have lq2 : (wr.alloc (.cells #[.int .i64 K0, .int .i64 P0, .int .i64 N0, .slice A6 n6 c6] 29)).cell? ⟨bk, boff + q, none⟩ = some (.int .u8 (x.toNat : Int)) :=
          (((Below.refl wr.heap.size wr).alloc (Nat.le_refl _) (.cells #[.int .i64 K0, .int .i64 P0, .int .i64 N0, .slice A6 n6 c6] 29)).cell (p := ⟨bk, boff + q, none⟩) (by show bk < wr.heap.size; have := hb.size; omega)).trans lq
        have eq4 : wrap64 (3 * (k : Int)) = (q : Int) := by rw [eq3]; exact sk_w64 q (by omega)
        have hk100 : k ≤ 100 := by have := Hn3.out; omega
        clear hlw hcell hrd hbc hx hyz hd6 x0 x1 x2 x3 hb hb'
        have gK1 : ¬ K0 < 1 := by omega
        have gK8 : ¬ K0 > 8 := by omega
        have gP1 : ¬ P0 < -128 := by omega
        have gP2 : ¬ P0 > 127 := by omega
        have gN1 : ¬ N0 < -128 := by omega
        have gN2 : ¬ N0 > 127 := by omega
        have gL : ¬ (n6 : Int) > 4 := by omega
        have gL2 : ¬ n6 > 4 := by omega
        have dK1 := decide_eq_false gK1
        have dK8 := decide_eq_false gK8
        have dP1 := decide_eq_false gP1
        have dP2 := decide_eq_false gP2
        have dN1 := decide_eq_false gN1
        have dN2 := decide_eq_false gN2
        have dL := decide_eq_false gL
        have dL2 := decide_eq_false gL2
        by_cases hb8 : x.toNat < 248
        · have h8 : (x.toNat : Int) < 248 := by omega
          have d8 := decide_eq_true h8
          have gP3 : ¬ P0 < 0 := by have := k2.2.2 hb8; omega
          have gP4 : ¬ P0 > 31 := by have := k2.2.2 hb8; omega
          have gN3 : ¬ N0 < 0 := by have := k3.2.2 hb8; omega
          have gN4 : ¬ N0 > 7 := by have := k3.2.2 hb8; omega
          have dP3 := decide_eq_false gP3
          have dP4 := decide_eq_false gP4
          have dN3 := decide_eq_false gN3
          have dN4 := decide_eq_false gN4
          clear k2 k3
          by_cases hdat : K0 = 1 ∨ K0 = 3 ∨ K0 = 6 ∨ K0 = 7
          · clear hno
            rcases hdat with rfl | rfl | rfl | rfl
            all_goals
              go_wp2_with fail
              all_goals exact ⟨⟨k + 1, by omega, by go_num, Hbb.out _⟩, by simp [intOf]; omega⟩
          · have h6 := hno hdat
            subst h6
            have q1 : (K0 == 1) = false := beq_eq_false_iff_ne.2 (by omega)
            have q3 : (K0 == 3) = false := beq_eq_false_iff_ne.2 (by omega)
            have q6 : (K0 == 6) = false := beq_eq_false_iff_ne.2 (by omega)
            have q7 : (K0 == 7) = false := beq_eq_false_iff_ne.2 (by omega)
            clear hno hdat
            go_wp2_with fail
            all_goals exact ⟨⟨k + 1, by omega, by go_num, Hbb.out _⟩, by simp [intOf]; omega⟩
        · have h8 : ¬ (x.toNat : Int) < 248 := by omega
          have d8 := decide_eq_false h8
          clear k2 k3
          by_cases hdat : K0 = 1 ∨ K0 = 3 ∨ K0 = 6 ∨ K0 = 7
          · clear hno
            rcases hdat with rfl | rfl | rfl | rfl
            all_goals
              go_wp2_with fail
              all_goals exact ⟨⟨k + 1, by omega, by go_num, Hbb.out _⟩, by simp [intOf]; omega⟩
          · have h6 := hno hdat
            subst h6
            have q1 : (K0 == 1) = false := beq_eq_false_iff_ne.2 (by omega)
            have q3 : (K0 == 3) = false := beq_eq_false_iff_ne.2 (by omega)
            have q6 : (K0 == 6) = false := beq_eq_false_iff_ne.2 (by omega)
            have q7 : (K0 == 7) = false := beq_eq_false_iff_ne.2 (by omega)
            clear hno hdat
            go_wp2_with fail
            all_goals exact ⟨⟨k + 1, by omega, by go_num, Hbb.out _⟩, by simp [intOf]; omega⟩
      · have hk3 : k = n3 := by omega
        subst hk3
        have hb2 := Hb1.out.trans (hb.mono hw1)
        have Hb2 := Lib.hid hb2
        have e4 : (m : Int) / 3 = (k : Int) := by have := Hn3.out; omega
        go_wp2_with fail
        refine (Told22_any wr).mono ?_
        rintro e w4 ⟨rfl, hb4⟩
        have Hb4 := Lib.hid (Hb2.out.trans (hb4.mono hb2.size))
        clear hb4 hb2
        go_wp2_with fail
        go_ret
        exact ⟨rfl, Hb4.out⟩
  · have n1 : (m : Int) > 200 := by omega
    have d1 : decide ((m : Int) > 200) = true := decide_eq_true n1
    go_enter Tryz.func4, Tryz.ntmps4
    go_wp2_with fail
    refine (Told22_any w).mono ?_
    rintro e w1 ⟨rfl, hb1⟩
    have Hb1 := Lib.hid hb1
    clear hb1
    go_wp2_with fail
    go_ret
    exact ⟨rfl, Hb1.out⟩
end Go.Proofs.YtnileogagoipiaaGreatDoor
