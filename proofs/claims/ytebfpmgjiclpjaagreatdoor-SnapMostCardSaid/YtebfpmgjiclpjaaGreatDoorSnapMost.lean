/- The walk of SnapMost: a text is saved with any most from its length on, and with no other one. Conditions: the list's length is a length; the table of math/bits stands in its variable. -/
import Derived.Test.YtebfpmgjiclpjaaGreatDoorPkU
import Derived.Test.YtebfpmgjiclpjaaGreatDoorPkL
namespace Go.Proofs.YtebfpmgjiclpjaaGreatDoor
open Go.RowKit
set_option linter.unusedVariables false
set_option linter.unusedSimpArgs false
set_option maxRecDepth 100000 in
set_option maxHeartbeats 4000000 in
theorem SnapMost_walk (A : Option Addr) (n c : Nat) (l : List Int) (few : Bool) (near : Int) (w : World) (hr : Rd w w.heap.size 1 A n (l.map iv)) (hn : n ≤ maxLen) (hT : TabW w) :
    Calls Tryz.prog 3 #[.slice A n c, .bool few, .int .i64 near] w fun e w' => e = .returned (.bool true) ∧ Below w.heap.size w w' := by
  have hw := hT.pos
  have Hr := Lib.hid hr
  have HT := Lib.hid hT
  clear hr hT
  go_enter Tryz.func3, Tryz.ntmps3
  go_wp2_with fail
  refine (Text_any A n c w.heap.size l 40 few w Hr.out (Nat.le_refl _) hn (by omega)).mono ?_
  rintro e w1 ⟨t, A1, c1, ht40, _, rfl, hm1, hb1⟩
  obtain ⟨N, hN⟩ : ∃ n1, t.length = n1 := ⟨_, rfl⟩
  rw [hN] at hm1 ht40
  rw [hN]
  have HN := Lib.hid hN
  have Hm1 := Lib.hid hm1
  have Hb1 := Lib.hid hb1
  clear hN hm1 hb1 Hr
  go_wp2_with fail
  have hbA : Below w1.heap.size w1 (w1.alloc (.cells #[.slice A1 N c1] 23)) := (Below.refl _ _).alloc (Nat.le_refl _) _
  have hnew := LiveNew_any 3 _ 1 1 _ [⟨A1, N, c1, t⟩] t N (by simp [catS]) HN.out _ (Rd.made w1 23 1 1 #[.slice A1 N c1] rfl) (fun s hs => by simp at hs; subst hs; exact (Hm1.out.below hbA).rd) (Nat.le_refl _) (by omega) (by omega) (by omega) (by omega)
  refine hnew.mono ?_
  clear hnew
  rintro e w2 ⟨gl, gk, gp, ga, vl, vo, vt, B', tk, rs, hs, rfl, hgl, hla, htk, hb2⟩
  have hb12 := hbA.trans (hb2.mono hbA.size)
  have Hb2 := Lib.hid (Hb1.out.trans (hb12.mono Hb1.out.size))
  have Hla := Lib.hid (LiveAt.mk hla.blk (hla.walk.mono (B' := w.heap.size) (by have := Hb1.out.size; have := hbA.size; omega)) hla.perm)
  have hLl : (lastL (symL t) rs).length = N + 1 := by rw [lastL_len, hs.len, symL_len, HN.out]
  have Hs := Lib.hid hs
  have HLl := Lib.hid hLl
  clear hla htk hgl hb2 hb12 hbA Hb1 Hm1 hs hLl
  obtain ⟨x, hx1, hx2⟩ := umod_ex near 7 (by omega)
  have e1 : IntKind.i64.wrap (x : Int) = (x : Int) := by rw [IntKind.wrap_i64]; omega
  have hx7 : x < 7 := by omega
  clear hx2
  by_cases hx3 : x < 3
  · obtain ⟨m, hm⟩ : ∃ m : Int, (N : Int) - 3 + (x : Int) = m := ⟨_, rfl⟩
    have e2 : IntKind.i64.wrap ((N : Int) - 3) = (N : Int) - 3 := by rw [IntKind.wrap_i64]; omega
    have e3 : IntKind.i64.wrap ((N : Int) - 3 + (x : Int)) = m := by rw [IntKind.wrap_i64]; omega
    have hmN : m < (N : Int) := by omega
    have hdN : decide (m < (N : Int)) = true := decide_eq_true hmN
    go_wp2_with fail
    refine (SaveLow_any w.heap.size gl N _ _ w2 Hla.out.lvw HLl.out (by omega) (by omega)).mono ?_
    rintro e w3 ⟨rfl, rfl⟩
    go_wp2_with fail
    refine (Told19_any w2 (HT.out.below Hb2.out hw)).mono ?_
    rintro e w3 ⟨rfl, hb3⟩
    have Hb3 := Lib.hid (Hb2.out.trans (hb3.mono Hb2.out.size))
    clear hb3
    go_wp2_with fail
    go_ret
    exact ⟨rfl, Hb3.out⟩
  · obtain ⟨m, hm⟩ : ∃ m : Nat, N + x = m + 3 := ⟨N + x - 3, by omega⟩
    have e2 : IntKind.i64.wrap ((N : Int) - 3) = (N : Int) - 3 := by rw [IntKind.wrap_i64]; omega
    have e3 : (N : Int) - 3 + (x : Int) = (m : Int) := by omega
    have hmN : ¬ m < N := by omega
    have hdN : decide (m < N) = false := decide_eq_false hmN
    go_wp2_with fail
    have hla := Hla.out
    rw [← HN.out] at hla
    have hsv := SnapSave_any w.heap.size gl gk gp ga vl vo vt B' 3 m t rs tk w2 hla Hs.out (by rw [HN.out]; omega) (by omega) (by omega) (by rw [HN.out]; omega) (by omega)
    unfold SavePost at hsv
    rw [HN.out] at hsv
    obtain ⟨K, hK⟩ : ∃ K, (snapB (lastL (symL t) rs) rs m 3 N).length = K := ⟨_, rfl⟩
    rw [hK] at hsv
    have HK := Lib.hid hK
    clear hK hla
    refine hsv.mono ?_
    clear hsv
    rintro e w3 ⟨A3, c3, rfl, hm3, hu3⟩
    have Hla3 := Lib.hid (Hla.out.vis hu3.1)
    have Hb3 := Lib.hid (Hb2.out.trans (VB.to_below hu3 Hb2.out.size))
    have Hm3 := Lib.hid hm3
    clear hm3 hu3 Hla Hb2
    go_wp2_with fail
    have hlk := SnapLook_any A3 c3 w3.heap.size m 3 K t rs w3 Hs.out (by rw [HN.out]; omega) (by omega) (by omega) (by rw [HN.out]; omega) (by omega) (by rw [HN.out]; exact HK.out) (by rw [HN.out]; exact Hm3.out.rd) (Nat.le_refl _) Hm3.out.cap Hm3.out.max
    rw [HN.out] at hlk
    unfold LookPost headC at hlk
    refine hlk.mono ?_
    clear hlk
    rintro e w4 ⟨rfl, hu4⟩
    have Hla4 := Lib.hid (Hla3.out.vis hu4.1)
    have Hb4 := Lib.hid (Hb3.out.trans ((VB.to_below hu4 (Nat.le_refl _)).mono Hb3.out.size))
    clear hu4 Hla3 Hb3 Hm3
    obtain ⟨gh, hgh⟩ : ∃ g, w4.heap.size = g := ⟨_, rfl⟩
    have hbg := (Below.refl w4.heap.size w4).alloc (Nat.le_refl _) (.cells #[.int .i64 (m : Int), .int .i64 3, .int .i64 (N : Int)] 33)
    have hhd : Bk (w4.alloc (.cells #[.int .i64 (m : Int), .int .i64 3, .int .i64 (N : Int)] 33)) gh 33 #[.int .i64 (m : Int), .int .i64 3, .int .i64 (N : Int)] := hgh ▸ Bk.new _ _ _
    have Hla5 := Lib.hid (Hla4.out.vis (Vis.of_below hbg))
    have Hb5 := Lib.hid (Hb4.out.trans (hbg.mono Hb4.out.size))
    have Hhd := Lib.hid hhd
    clear hbg hhd Hla4 Hb4
    go_wp2_with fail
    generalize w4.alloc (.cells #[.int .i64 (m : Int), .int .i64 3, .int .i64 (N : Int)] 33) = W5 at Hla5 Hb5 Hhd ⊢
    clear hgh
    have hla := Hla5.out
    rw [← HN.out] at hla
    have hsv := SnapSave_any w.heap.size gl gk gp ga vl vo vt B' 3 2147483648 t rs tk W5 hla Hs.out (by rw [HN.out]; omega) (by omega) (by omega) (by rw [HN.out]; omega) (by omega)
    unfold SavePost at hsv
    refine hsv.mono ?_
    clear hsv hla
    rintro e w6 ⟨A6, c6, rfl, hm6, hu6⟩
    have Hla6 := Lib.hid (Hla5.out.vis hu6.1)
    have Hb6 := Lib.hid (Hb5.out.trans (VB.to_below hu6 Hb5.out.size))
    have hhd6 := hu6.1.bk Hhd.out (by decide) (by decide)
    have Hhd6 := Lib.hid hhd6
    clear hm6 hu6 hhd6 Hhd Hla5 Hb5
    obtain ⟨K6, hK6⟩ : ∃ K, (snapB (lastL (symL t) rs) rs 2147483648 3 t.length).length = K := ⟨_, rfl⟩
    rw [hK6]
    clear hK6
    go_wp2_with fail
    refine (SaveHigh_any w.heap.size gl N _ 2147483649 w6 Hla6.out.lvw HLl.out (by omega) (by decide)).mono ?_
    rintro e w7 ⟨rfl, rfl⟩
    go_wp2_with fail
    refine (SaveNil_any 5 w6).mono ?_
    rintro e w7 ⟨rfl, rfl⟩
    go_wp2_with fail
    refine (Told19_any w6 (HT.out.below Hb6.out hw)).mono ?_
    rintro e w7 ⟨rfl, hb7⟩
    have hhd7 := Hhd6.out.below hb7 Hhd6.out.lt
    have c0 : w7.cell? ⟨gh, 0, none⟩ = some (.int .i64 (m : Int)) := hhd7.cell 0
    have c2 : w7.cell? ⟨gh, 2, none⟩ = some (.int .i64 (N : Int)) := hhd7.cell 2
    have Hb7 := Lib.hid (Hb6.out.trans (hb7.mono Hb6.out.size))
    clear hb7 hhd7
    go_wp2_with fail
    go_ret
    exact ⟨rfl, Hb7.out⟩
end Go.Proofs.YtebfpmgjiclpjaaGreatDoor
