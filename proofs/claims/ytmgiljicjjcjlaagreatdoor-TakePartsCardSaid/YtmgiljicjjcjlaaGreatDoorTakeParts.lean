/- The walk of TakeParts: pieces side by side are the text. Conditions: the list's length is a length; the table of math/bits stands in its variable. -/
import Derived.Test.YtmgiljicjjcjlaaGreatDoorPkP
import Derived.BigQuiet
namespace Go.Proofs.YtmgiljicjjcjlaaGreatDoor
open Go.RowKit
set_option linter.unusedVariables false
set_option linter.unusedSimpArgs false
theorem bytes_cat (x y : List UInt8) : ((⟨x.toArray⟩ : ByteArray) ++ ⟨y.toArray⟩) = ⟨(x ++ y).toArray⟩ := by
  apply ByteArray.ext
  rw [ByteArray.data_append]
  simp
set_option maxRecDepth 100000 in
set_option maxHeartbeats 4000000 in
theorem TakeParts_walk (A : Option Addr) (n c : Nat) (l : List Int) (few : Bool) (ra rb : Int) (w : World) (hr : Rd w w.heap.size 1 A n (l.map iv)) (hn : n ≤ maxLen) (hT : TabW w) :
    Calls Tryz.prog 3 #[.slice A n c, .bool few, .int .i64 ra, .int .i64 rb] w fun e w' => e = .returned (.bool true) ∧ Below w.heap.size w w' := by
  have hw := hT.pos
  have Hr := Lib.hid hr
  have HT := Lib.hid hT
  clear hr hT
  go_enter Tryz.func3, Tryz.ntmps3
  go_wp2_with fail
  refine (Text_any A n c w.heap.size l 80 few w Hr.out (Nat.le_refl _) hn (by omega)).mono ?_
  rintro e w1 ⟨t, A1, c1, ht80, _, rfl, hm1, hb1⟩
  obtain ⟨n1, hn1⟩ : ∃ n1, t.length = n1 := ⟨_, rfl⟩
  rw [hn1] at hm1 ht80
  rw [hn1]
  have Hn1 := Lib.hid hn1
  have Hm1 := Lib.hid hm1
  have Hb1 := Lib.hid hb1
  clear hn1 hm1 hb1 Hr
  go_wp2_with fail
  have hbA : Below w1.heap.size w1 (w1.alloc (.cells #[.slice A1 n1 c1] 23)) := (Below.refl _ _).alloc (Nat.le_refl _) _
  have hrd := Rd.made w1 23 1 1 #[.slice A1 n1 c1] rfl
  have hm1A := Hm1.out.below hbA
  refine (TpNew_any 9 _ 1 1 _ [⟨A1, n1, c1, t⟩] t (by simp [catS]) _ hrd (fun s hs => by simp at hs; subst hs; exact hm1A.rd) (Nat.le_refl _) (by omega) (by rw [Hn1.out]; omega) (by omega) (by omega)).mono ?_
  rintro e w3 ⟨gl, rfl, _, htx, hb3⟩
  have hb23 := hbA.trans (hb3.mono hbA.size)
  have hbw3 := Hb1.out.trans (hb23.mono Hb1.out.size)
  have hm13 := Hm1.out.below hb23
  have htx3 := TpAt.mono htx (B' := w.heap.size) (by have := Hb1.out.size; have := hbA.size; omega)
  have HT3 := Lib.hid (HT.out.below hbw3 hw)
  have Hm1' := Lib.hid hm13
  have Hb3 := Lib.hid hbw3
  have Ht := Lib.hid htx3
  clear hrd hm1A hb3 hbA hb23 hbw3 hm13 htx3 htx Hb1 Hm1 HT
  obtain ⟨x, hx1, hx2⟩ := umod_ex ra ((n1 : Int) + 1) (by omega)
  obtain ⟨y, hy1, hy2⟩ := umod_ex rb ((n1 : Int) + 1) (by omega)
  have e1 : IntKind.i64.wrap ((n1 : Int) + 1) = (n1 : Int) + 1 := by rw [IntKind.wrap_i64]; omega
  have e2 : IntKind.u64.wrap ((n1 : Int) + 1) = (n1 : Int) + 1 := by rw [IntKind.wrap_u64]; omega
  have e3 : IntKind.i64.wrap (x : Int) = (x : Int) := by rw [IntKind.wrap_i64]; omega
  have e4 : IntKind.i64.wrap (y : Int) = (y : Int) := by rw [IntKind.wrap_i64]; omega
  have e0 : ¬ ((n1 : Int) + 1 = 0) := by omega
  have hxn : x ≤ n1 := by omega
  have hyn : y ≤ n1 := by omega
  clear hx2 hy2
  go_wp2_with fail
  go_quiet (fail)
  clear e1 e2 e3 e4 e0 hx1 hy1
  have hd : Below w3.heap.size w3 (w3.drewN nq) := below_drewN (Below.refl _ _) _
  obtain ⟨W, hW⟩ : ∃ x, w3.drewN nq = x := ⟨_, rfl⟩
  rw [hW] at hd ⊢
  have HTW := Lib.hid (HT3.out.below (hd.mono (Nat.le_refl _)) HT3.out.pos)
  have Hm := Lib.hid (Hm1'.out.below hd)
  have HbW := Lib.hid (Hb3.out.trans (hd.mono Hb3.out.size))
  have HtW := Lib.hid (Ht.out.vis (Vis.of_below hd))
  clear hW hd HT3 Hm1' Hb3 Ht
  by_cases hxy : y < x
  · have hxy2 : decide (y < x) = true := decide_eq_true hxy
    have hlh : y ≤ x := by omega
    have hhn : x ≤ n1 := by omega
    go_wp2_with fail
    have hp1 := Piece_any w.heap.size gl 9 t 0 y W HtW.out HTW.out hw (by rw [Hn1.out]; omega)
    unfold PiecePost at hp1
    refine hp1.mono ?_
    rintro e w4 ⟨A4, c4, rfl, hm4, hu4⟩
    clear hp1
    have HT4 := Lib.hid (HTW.out.vb hu4 hw HTW.out.pos)
    have Ht4 := Lib.hid (HtW.out.vis hu4.1)
    have Hb4 := Lib.hid (HbW.out.trans (VB.to_below hu4 HbW.out.size))
    have Hma := Lib.hid hm4
    have Hmt := Lib.hid (hu4.1.made Hm.out (by decide) (by decide))
    clear hm4 hu4 HTW HtW HbW Hm
    obtain ⟨d1, hd1⟩ : ∃ d, x - y = d := ⟨_, rfl⟩
    have e1 : IntKind.i64.wrap ((x : Int) - (y : Int)) = (d1 : Int) := by rw [IntKind.wrap_i64]; omega
    have hs1 : y + d1 = x := by omega
    have Hs1 := Lib.hid hs1
    clear hd1 hs1 hxy hxy2
    go_wp2_with fail
    have hp1 := Piece_any w.heap.size gl 9 t y d1 w4 Ht4.out HT4.out hw (by rw [Hn1.out, Hs1.out]; omega)
    unfold PiecePost at hp1
    refine hp1.mono ?_
    rintro e w5 ⟨A5, c5, rfl, hm5, hu5⟩
    clear hp1
    have HT5 := Lib.hid (HT4.out.vb hu5 hw HT4.out.pos)
    have Ht5 := Lib.hid (Ht4.out.vis hu5.1)
    have Hb5 := Lib.hid (Hb4.out.trans (VB.to_below hu5 Hb4.out.size))
    have Hmb := Lib.hid hm5
    have Hma' := Lib.hid (hu5.1.made Hma.out (by decide) (by decide))
    have Hmt' := Lib.hid (hu5.1.made Hmt.out (by decide) (by decide))
    clear hm5 hu5 HT4 Ht4 Hb4 Hma Hmt e1
    obtain ⟨d2, hd2⟩ : ∃ d, n1 - x = d := ⟨_, rfl⟩
    have e1 : IntKind.i64.wrap ((n1 : Int) - (x : Int)) = (d2 : Int) := by rw [IntKind.wrap_i64]; omega
    have hs2 : x + d2 = n1 := by omega
    have Hs2 := Lib.hid hs2
    clear hd2 hs2
    go_wp2_with fail
    have hp1 := Piece_any w.heap.size gl 9 t x d2 w5 Ht5.out HT5.out hw (by rw [Hn1.out, Hs2.out]; omega)
    unfold PiecePost at hp1
    refine hp1.mono ?_
    rintro e w6 ⟨A6, c6, rfl, hm6, hu6⟩
    clear hp1
    have HT6 := Lib.hid (HT5.out.vb hu6 hw HT5.out.pos)
    have Hb6 := Lib.hid (Hb5.out.trans (VB.to_below hu6 Hb5.out.size))
    have Hmc := Lib.hid hm6
    have Hma6 := Lib.hid (hu6.1.made Hma'.out (by decide) (by decide))
    have Hmb6 := Lib.hid (hu6.1.made Hmb.out (by decide) (by decide))
    have Hmt6 := Lib.hid (hu6.1.made Hmt'.out (by decide) (by decide))
    clear hm6 hu6 HT5 Ht5 Hb5 Hma' Hmb Hmt' e1
    go_wp2_with fail
    refine (Told15_any w6 HT6.out).mono ?_
    rintro e w7 ⟨rfl, hb7⟩
    have hcat : ((t.drop 0).take y ++ (t.drop y).take d1) ++ (t.drop x).take d2 = t := by
      have h1 : (t.drop x).take d2 = t.drop x := List.take_of_length_le (by rw [List.length_drop, Hn1.out]; have := Hs2.out; omega)
      have h2 : t.take x = t.take y ++ (t.drop y).take d1 := by rw [← Hs1.out, List.take_add]
      rw [h1, List.drop_zero, ← h2, List.take_append_drop]
    have s1 := strOfT (Hma6.out.rd.below hb7) c4
    have s2 := strOfT (Hmb6.out.rd.below hb7) c5
    have s3 := strOfT (Hmc.out.rd.below hb7) c6
    have s4 := strOfT (Hmt6.out.rd.below hb7) c1
    obtain ⟨p1, hp1⟩ : ∃ p, (t.drop 0).take y = p := ⟨_, rfl⟩
    obtain ⟨p2, hp2⟩ : ∃ p, (t.drop y).take d1 = p := ⟨_, rfl⟩
    obtain ⟨p3, hp3⟩ : ∃ p, (t.drop x).take d2 = p := ⟨_, rfl⟩
    rw [hp1, hp2, hp3] at hcat
    rw [hp1] at s1
    rw [hp2] at s2
    rw [hp3] at s3
    have hl1 : p1.length + p2.length + p3.length ≤ 80 := by
      have := congrArg List.length hcat
      rw [List.length_append, List.length_append, Hn1.out] at this
      omega
    have Hb7 := Lib.hid (Hb6.out.trans (hb7.mono Hb6.out.size))
    have Hcat := Lib.hid hcat
    clear hp1 hp2 hp3 hb7 hcat Hma6 Hmb6 Hmc Hmt6
    have hfin : (((⟨p1.toArray⟩ : ByteArray) ++ ⟨p2.toArray⟩ ++ ⟨p3.toArray⟩).toList == t) = true := by
      rw [bytes_cat, bytes_cat, Hcat.out]
      simp
    go_wp2_with fail
    go_ret
    exact ⟨rfl, Hb7.out⟩
  · have hxy2 : decide (y < x) = false := decide_eq_false hxy
    have hlh : x ≤ y := by omega
    have hhn : y ≤ n1 := by omega
    go_wp2_with fail
    have hp1 := Piece_any w.heap.size gl 9 t 0 x W HtW.out HTW.out hw (by rw [Hn1.out]; omega)
    unfold PiecePost at hp1
    refine hp1.mono ?_
    rintro e w4 ⟨A4, c4, rfl, hm4, hu4⟩
    clear hp1
    have HT4 := Lib.hid (HTW.out.vb hu4 hw HTW.out.pos)
    have Ht4 := Lib.hid (HtW.out.vis hu4.1)
    have Hb4 := Lib.hid (HbW.out.trans (VB.to_below hu4 HbW.out.size))
    have Hma := Lib.hid hm4
    have Hmt := Lib.hid (hu4.1.made Hm.out (by decide) (by decide))
    clear hm4 hu4 HTW HtW HbW Hm
    obtain ⟨d1, hd1⟩ : ∃ d, y - x = d := ⟨_, rfl⟩
    have e1 : IntKind.i64.wrap ((y : Int) - (x : Int)) = (d1 : Int) := by rw [IntKind.wrap_i64]; omega
    have hs1 : x + d1 = y := by omega
    have Hs1 := Lib.hid hs1
    clear hd1 hs1 hxy hxy2
    go_wp2_with fail
    have hp1 := Piece_any w.heap.size gl 9 t x d1 w4 Ht4.out HT4.out hw (by rw [Hn1.out, Hs1.out]; omega)
    unfold PiecePost at hp1
    refine hp1.mono ?_
    rintro e w5 ⟨A5, c5, rfl, hm5, hu5⟩
    clear hp1
    have HT5 := Lib.hid (HT4.out.vb hu5 hw HT4.out.pos)
    have Ht5 := Lib.hid (Ht4.out.vis hu5.1)
    have Hb5 := Lib.hid (Hb4.out.trans (VB.to_below hu5 Hb4.out.size))
    have Hmb := Lib.hid hm5
    have Hma' := Lib.hid (hu5.1.made Hma.out (by decide) (by decide))
    have Hmt' := Lib.hid (hu5.1.made Hmt.out (by decide) (by decide))
    clear hm5 hu5 HT4 Ht4 Hb4 Hma Hmt e1
    obtain ⟨d2, hd2⟩ : ∃ d, n1 - y = d := ⟨_, rfl⟩
    have e1 : IntKind.i64.wrap ((n1 : Int) - (y : Int)) = (d2 : Int) := by rw [IntKind.wrap_i64]; omega
    have hs2 : y + d2 = n1 := by omega
    have Hs2 := Lib.hid hs2
    clear hd2 hs2
    go_wp2_with fail
    have hp1 := Piece_any w.heap.size gl 9 t y d2 w5 Ht5.out HT5.out hw (by rw [Hn1.out, Hs2.out]; omega)
    unfold PiecePost at hp1
    refine hp1.mono ?_
    rintro e w6 ⟨A6, c6, rfl, hm6, hu6⟩
    clear hp1
    have HT6 := Lib.hid (HT5.out.vb hu6 hw HT5.out.pos)
    have Hb6 := Lib.hid (Hb5.out.trans (VB.to_below hu6 Hb5.out.size))
    have Hmc := Lib.hid hm6
    have Hma6 := Lib.hid (hu6.1.made Hma'.out (by decide) (by decide))
    have Hmb6 := Lib.hid (hu6.1.made Hmb.out (by decide) (by decide))
    have Hmt6 := Lib.hid (hu6.1.made Hmt'.out (by decide) (by decide))
    clear hm6 hu6 HT5 Ht5 Hb5 Hma' Hmb Hmt' e1
    go_wp2_with fail
    refine (Told15_any w6 HT6.out).mono ?_
    rintro e w7 ⟨rfl, hb7⟩
    have hcat : ((t.drop 0).take x ++ (t.drop x).take d1) ++ (t.drop y).take d2 = t := by
      have h1 : (t.drop y).take d2 = t.drop y := List.take_of_length_le (by rw [List.length_drop, Hn1.out]; have := Hs2.out; omega)
      have h2 : t.take y = t.take x ++ (t.drop x).take d1 := by rw [← Hs1.out, List.take_add]
      rw [h1, List.drop_zero, ← h2, List.take_append_drop]
    have s1 := strOfT (Hma6.out.rd.below hb7) c4
    have s2 := strOfT (Hmb6.out.rd.below hb7) c5
    have s3 := strOfT (Hmc.out.rd.below hb7) c6
    have s4 := strOfT (Hmt6.out.rd.below hb7) c1
    obtain ⟨p1, hp1⟩ : ∃ p, (t.drop 0).take x = p := ⟨_, rfl⟩
    obtain ⟨p2, hp2⟩ : ∃ p, (t.drop x).take d1 = p := ⟨_, rfl⟩
    obtain ⟨p3, hp3⟩ : ∃ p, (t.drop y).take d2 = p := ⟨_, rfl⟩
    rw [hp1, hp2, hp3] at hcat
    rw [hp1] at s1
    rw [hp2] at s2
    rw [hp3] at s3
    have hl1 : p1.length + p2.length + p3.length ≤ 80 := by
      have := congrArg List.length hcat
      rw [List.length_append, List.length_append, Hn1.out] at this
      omega
    have Hb7 := Lib.hid (Hb6.out.trans (hb7.mono Hb6.out.size))
    have Hcat := Lib.hid hcat
    clear hp1 hp2 hp3 hb7 hcat Hma6 Hmb6 Hmc Hmt6
    have hfin : (((⟨p1.toArray⟩ : ByteArray) ++ ⟨p2.toArray⟩ ++ ⟨p3.toArray⟩).toList == t) = true := by
      rw [bytes_cat, bytes_cat, Hcat.out]
      simp
    go_wp2_with fail
    go_ret
    exact ⟨rfl, Hb7.out⟩
end Go.Proofs.YtmgiljicjjcjlaaGreatDoor
