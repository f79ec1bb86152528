/- The walk of SnapBursts: a burst in what was saved is told. Conditions: the list's length is a length; the table of math/bits stands in its variable. -/
import Derived.Test.YtngmnkekhlclpaaGreatDoorSnBu3
import Derived.Test.YtngmnkekhlclpaaGreatDoorPkU
import Derived.OpenShut
namespace Go.Proofs.YtngmnkekhlclpaaGreatDoor
open Go.RowKit
set_option linter.unusedVariables false
set_option linter.unusedSimpArgs false
theorem body_len (L rs : List Nat) (most rate N : Nat) : (bodyB L rs most rate N).length ≤ 78 + (22 * L.length + 11 * (N / rate + 1)) := by
  have h1 := firstB_len L
  have h2 := secK_len rs rate (N / rate + 1)
  have h3 := encAll_len [most, rate, N]
  have h4 := encB_len (firstB L).length
  have h5 := encB_len (secB rs rate N).length
  have h6 : (secB rs rate N).length ≤ 11 * (N / rate + 1) := h2
  have h7 : ([most, rate, N] : List Nat).length = 3 := rfl
  have h8 : markB.length = 4 := rfl
  unfold bodyB
  rw [List.length_append, List.length_append, List.length_append, partB_len, partB_len]
  omega
set_option maxRecDepth 100000 in
set_option maxHeartbeats 4000000 in
theorem SnapBursts_walk (A : Option Addr) (n c : Nat) (l : List Int) (few : Bool) (rate at_ pat : Int) (hp0 : (Lit.int .u32 pat).wf = true) (w : World) (hr : Rd w w.heap.size 1 A n (l.map iv)) (hn : n ≤ maxLen) (hT : TabW w) :
    Calls Tryz.prog 5 #[.slice A n c, .bool few, .int .i64 rate, .int .i64 at_, .int .u32 pat] w fun e w' => e = .returned (.bool true) ∧ Below w.heap.size w w' := by
  have hbp := bounds_u32 hp0
  obtain ⟨p, rfl⟩ := Int.eq_ofNat_of_zero_le hbp.1
  have hp : p < 4294967296 := by omega
  clear hp0 hbp
  have hw := hT.pos
  have HT := Lib.hid hT
  have hmd := MadeNil_any A n c l few rate w hr hn
  unfold MadePost at hmd
  clear hr hT
  go_enter Tryz.func5, Tryz.ntmps5
  go_wp2_with fail
  refine hmd.mono ?_
  clear hmd
  rintro e w1 ⟨t, r, gl, gk, gp, ga, vl, vo, vt, B', tk, rs, ht60, hr1, hr64, hs, rfl, hla, hb1⟩
  have Hla := Lib.hid hla
  have Hb1 := Lib.hid hb1
  have Hs := Lib.hid hs
  clear hla hb1 hs
  go_wp2_with fail
  have hsv := SnapSave_any w.heap.size gl gk gp ga vl vo vt B' r 100 t rs tk w1 Hla.out Hs.out (by omega) hr1 hr64 (by omega) (by omega)
  unfold SavePost at hsv
  obtain ⟨S, hS⟩ : ∃ S, snapB (lastL (symL t) rs) rs 100 r t.length = S := ⟨_, rfl⟩
  obtain ⟨body, hbd⟩ : ∃ B, bodyB (lastL (symL t) rs) rs 100 r t.length = B := ⟨_, rfl⟩
  have hSb : S = body ++ fixB (crcB body) := by rw [← hS, ← hbd]; rfl
  obtain ⟨m, hm⟩ : ∃ m, body.length = m := ⟨_, rfl⟩
  have hm4 : 4 ≤ m := by rw [← hm, ← hbd]; unfold bodyB markB; simp
  have hmb : m ≤ 100000 := by
    have h1 := body_len (lastL (symL t) rs) rs 100 r t.length
    have h2 : (lastL (symL t) rs).length = t.length + 1 := by rw [lastL_len, Hs.out.len, symL_len]
    have h3 := Nat.div_le_self t.length r
    rw [hbd, hm, h2] at h1
    omega
  have hSl : S.length = m + 4 := by rw [hSb, List.length_append, fixB_len, hm]
  rw [hS, hSl] at hsv
  have HSb := Lib.hid hSb
  have HSl := Lib.hid hSl
  have Hm := Lib.hid hm
  clear hS hbd hSb hSl hm
  refine hsv.mono ?_
  clear hsv
  rintro e w2 ⟨A2, c2, rfl, hm2, hu2⟩
  have Hb2 := Lib.hid (Hb1.out.trans (VB.to_below hu2 Hb1.out.size))
  have Hm2 := Lib.hid hm2
  clear hm2 hu2 Hla Hb1
  have nm : ¬ ((m + 4 : Nat) : Int) < 8 := by omega
  have nm2 : ¬ m + 4 < 8 := by omega
  have dm : decide (m + 4 < 8) = false := decide_eq_false nm2
  have nmI : ¬ (m : Int) + 4 < 8 := by omega
  have dmI : decide ((m : Int) + 4 < 8) = false := decide_eq_false nmI
  by_cases hp0 : p = 0
  · subst hp0
    go_wp2_with fail
    refine (Told19_any w2 (HT.out.below Hb2.out hw)).mono ?_
    rintro e w3 ⟨rfl, hb3⟩
    have Hb3 := Lib.hid (Hb2.out.trans (hb3.mono Hb2.out.size))
    clear hb3
    go_wp2_with fail
    go_ret
    exact ⟨rfl, Hb3.out⟩
  · have np : ¬ (p : Int) = 0 := by omega
    have np2 : ((p : Int) == 0) = false := by rw [beq_eq_false_iff_ne]; exact np
    have HP0 := Lib.hid hp0
    go_wp2_with fail
    refine (Burst_any A2 (m + 4) c2 S at_ p w2 Hm2.out.rd (by omega) (by omega) hp).mono ?_
    rintro e w3 ⟨A3, c3, b3, k, rfl, hbu, hk, hm3, hb3⟩
    obtain ⟨x, y, hx, hy, hxy⟩ := burst_told body S b3 m p k HSb.out Hm.out hbu (by rw [HSl.out]; exact hk) hp HP0.out
    have hb23 := Hb2.out.trans (hb3.mono Hb2.out.size)
    have hld := LoadSum_any A3 (m + 4) m c3 w3.heap.size x y b3 w3 hm3.rd (Nat.le_refl _) rfl (by omega) hm3.cap (by omega) hx hy hxy
    have Hb23 := Lib.hid hb23
    have Hld := Lib.hid hld
    clear hbu hk hm3 hb3 hx hy hxy hb23 hld Hb2
    go_wp2_with fail
    refine Hld.out.mono ?_
    rintro e w4 ⟨rfl, hb4⟩
    have hb4' := Hb23.out.trans (hb4.mono Hb23.out.size)
    have hbg4 := (Below.refl w4.heap.size w4).alloc (Nat.le_refl _) (.cells #[.int .i64 0, .int .i64 0, .int .i64 0] 41)
    have Hb5 := Lib.hid (hb4'.trans (hbg4.mono hb4'.size))
    clear hb4 hb4' hbg4 Hld Hb23
    go_wp2_with fail
    refine (Told19_any _ (HT.out.below Hb5.out hw)).mono ?_
    rintro e w6 ⟨rfl, hb6⟩
    have Hb6 := Lib.hid (Hb5.out.trans (hb6.mono Hb5.out.size))
    clear hb6
    go_wp2_with fail
    go_ret
    exact ⟨rfl, Hb6.out⟩
end Go.Proofs.YtngmnkekhlclpaaGreatDoor
