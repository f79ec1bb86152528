/- The walk of TakeBytes: byte by byte, in any order, the text is taken. Conditions: the lists' lengths are lengths; the table of math/bits stands in its variable. -/
import Derived.Test.YtmgiljicjjcjlaaGreatDoorPkP
import Derived.BigQuiet
namespace Go.Proofs.YtmgiljicjjcjlaaGreatDoor
open Go.RowKit
set_option linter.unusedVariables false
set_option linter.unusedSimpArgs false
theorem Rd.cellT {w : World} {B n b o j : Nat} {xs : List Value} {u : Value} (h : Rd w B 1 (some ⟨b, o, none⟩) n xs) (hj : xs[j]? = some u) : w.cell? ⟨b, o + j, none⟩ = some u := by
  have hn : 0 < n := by have := (List.getElem?_eq_some_iff.1 hj).1; have := h.1; omega
  obtain ⟨b1, o1, e, _, hc⟩ := h.2 hn
  injection e with e
  injection e with e1 e2
  subst e1
  subst e2
  exact hc j u hj
set_option maxRecDepth 100000 in
set_option maxHeartbeats 4000000 in
theorem TakeBytes_walk (A : Option Addr) (n c : Nat) (l : List Int) (few : Bool) (rate : Int) (Aq : Option Addr) (mq cq : Nat) (lq : List Int) (w : World) (hr : Rd w w.heap.size 1 A n (l.map iv)) (hn : n ≤ maxLen) (hrq : Rd w w.heap.size 1 Aq mq (lq.map iv)) (hnq : mq ≤ maxLen) (hT : TabW w) :
    Calls Tryz.prog 4 #[.slice A n c, .bool few, .int .i64 rate, .slice Aq mq cq] w fun e w' => e = .returned (.bool true) ∧ Below w.heap.size w w' := by
  have hw := hT.pos
  have Hr := Lib.hid hr
  have Hrq := Lib.hid hrq
  have HT := Lib.hid hT
  clear hr hT hrq
  go_enter Tryz.func4, Tryz.ntmps4
  go_wp2_with fail
  refine (Text_any A n c w.heap.size l 60 few w Hr.out (Nat.le_refl _) hn (by omega)).mono ?_
  rintro e w1 ⟨t, A1, c1, ht60, _, rfl, hm1, hb1⟩
  obtain ⟨n1, hn1⟩ : ∃ n1, t.length = n1 := ⟨_, rfl⟩
  rw [hn1] at hm1 ht60
  rw [hn1]
  have Hn1 := Lib.hid hn1
  have Hm1 := Lib.hid hm1
  have Hb1 := Lib.hid hb1
  clear hn1 hm1 hb1 Hr
  obtain ⟨k, hk1, hk2⟩ := umod_ex rate 64 (by omega)
  have e1 : IntKind.i64.wrap (k : Int) = (k : Int) := by rw [IntKind.wrap_i64]; omega
  have e2 : IntKind.i64.wrap (1 + (k : Int)) = ((1 + k : Nat) : Int) := by rw [IntKind.wrap_i64]; omega
  have hk3 : 1 + k ≤ 64 := by omega
  have hk4 : 1 ≤ 1 + k := by omega
  generalize 1 + k = x1 at e2 hk3 hk4
  clear hk2
  have Hk3 := Lib.hid hk3
  have Hk4 := Lib.hid hk4
  clear hk3 hk4
  go_wp2_with fail
  have hbA : Below w1.heap.size w1 (w1.alloc (.cells #[.slice A1 n1 c1] 23)) := (Below.refl _ _).alloc (Nat.le_refl _) _
  have hrd := Rd.made w1 23 1 1 #[.slice A1 n1 c1] rfl
  have hm1A := Hm1.out.below hbA
  refine (TpNew_any x1 _ 1 1 _ [⟨A1, n1, c1, t⟩] t (by simp [catS]) _ hrd (fun s hs => by simp at hs; subst hs; exact hm1A.rd) (Nat.le_refl _) (by omega) (by rw [Hn1.out]; omega) Hk4.out Hk3.out).mono ?_
  rintro e w3 ⟨gl, rfl, _, htx, hb3⟩
  have hb23 := hbA.trans (hb3.mono hbA.size)
  have hbw3 := Hb1.out.trans (hb23.mono Hb1.out.size)
  have hm13 := Hm1.out.below hb23
  have htx3 := TpAt.mono htx (B' := w.heap.size) (by have := Hb1.out.size; have := hbA.size; omega)
  have HT3 := Lib.hid (HT.out.below hbw3 hw)
  have Hm1' := Lib.hid hm13
  have Hb3 := Lib.hid hbw3
  have Ht := Lib.hid htx3
  have Hrq3 := Lib.hid (Hrq.out.below hbw3)
  clear hrd hm1A hb3 hbA hb23 hbw3 hm13 htx3 htx Hb1 Hm1 HT e1 e2 hk1 Hrq
  by_cases hn0 : n1 < 1
  · have hn00 : decide (n1 < 1) = true := decide_eq_true hn0
    go_wp2_with fail
    refine (Told15_any w3 HT3.out).mono ?_
    rintro e w4 ⟨rfl, hb4⟩
    have Hb4 := Lib.hid (Hb3.out.trans (hb4.mono Hb3.out.size))
    clear hb4
    go_wp2_with fail
    go_ret
    exact ⟨rfl, Hb4.out⟩
  have hn00 : decide (n1 < 1) = false := decide_eq_false hn0
  go_wp2_with fail
  go_loopw [12] (fun i wr => ∃ j : Nat, j ≤ mq ∧ j ≤ 30 ∧ i = .int .i64 (j : Int) ∧ VB w.heap.size w3 wr) (fun i _ => 30 - (intOf i).toNat)
  case atStart => exact ⟨0, Nat.zero_le _, by omega, rfl, VisK.refl _ _⟩
  case round =>
    obtain ⟨j, hj, hj30, rfl, hv⟩ := hrel
    have Hv := Lib.hid hv
    have Htr := Lib.hid (Ht.out.vis hv.1)
    have HTr := Lib.hid (HT3.out.vb hv hw HT3.out.pos)
    have Hmr := Lib.hid (hv.1.made Hm1'.out (by decide) (by decide))
    have Hbr := Lib.hid (Hb3.out.trans (VB.to_below hv Hb3.out.size))
    have Hrqr := Lib.hid (Hrq3.out.below (VB.to_below hv Hb3.out.size))
    clear hv
    by_cases hlt : j < mq
    · by_cases hlt30 : j < 30
      · obtain ⟨z, hz⟩ : ∃ z, lq[j]? = some z := ⟨_, List.getElem?_eq_getElem (by have := Hrqr.out.1; rw [List.length_map] at this; omega)⟩
        obtain ⟨bq, oq, rfl, _, hcq⟩ := Hrqr.out.2 (by omega)
        have d1 : wr.cell? ⟨bq, oq + j, none⟩ = some (.int .i64 z) := hcq j _ (by rw [List.getElem?_map, hz]; rfl)
        obtain ⟨k, hk1, hk2⟩ := umod_ex z (n1 : Int) (by omega)
        have e2 : IntKind.u64.wrap (n1 : Int) = (n1 : Int) := by rw [IntKind.wrap_u64]; omega
        have e3 : IntKind.i64.wrap (k : Int) = (k : Int) := by rw [IntKind.wrap_i64]; omega
        have e4 : ¬ n1 = 0 := by omega
        have hkn : k < n1 := by omega
        clear hk2 hcq hz
        go_wp2_with fail
        have hp1 := Piece_any w.heap.size gl x1 t k 1 wr Htr.out HTr.out hw (by rw [Hn1.out]; omega)
        unfold PiecePost at hp1
        refine hp1.mono ?_
        rintro e w5 ⟨A5, c5, rfl, hm5, hu5⟩
        obtain ⟨ch, hch⟩ : ∃ ch, t[k]? = some ch := ⟨_, List.getElem?_eq_getElem (by rw [Hn1.out]; exact hkn)⟩
        have hone : (t.drop k).take 1 = [ch] := by
          rw [List.take_one, List.head?_drop, hch]
          rfl
        rw [hone] at hm5
        have hm9 := hu5.1.made Hmr.out (by decide) (by decide)
        obtain ⟨b5, o5, rfl, _, _⟩ := hm5.rd.2 (by omega)
        obtain ⟨b1, o1, rfl, _, _⟩ := hm9.rd.2 (by omega)
        have d2 : w5.cell? ⟨b5, o5, none⟩ = some (.int .u8 (ch.toNat : Int)) := hm5.rd.cellT (j := 0) rfl
        have d3 : w5.cell? ⟨b1, o1 + k, none⟩ = some (.int .u8 (ch.toNat : Int)) := hm9.rd.cellT (j := k) (by rw [List.getElem?_map, hch]; rfl)
        have Hv5 := Lib.hid (Hv.out.trans hu5)
        clear hp1 hm5 hu5 hch hone hm9 d1 hk1 e2 e3 e4
        go_wp2_with fail
        go_quiet (fail)
        have hv6 := Hv5.out.below (below_drewN (Below.refl _ _) nq)
        go_wp2_with fail
        go_roundw
        case rel => exact ⟨j + 1, by omega, by omega, by go_num, hv6⟩
        case measure => simp [intOf]; omega
      · obtain rfl : j = 30 := by omega
        go_wp2_with fail
        refine (Told15_any wr HTr.out).mono ?_
        rintro e w4 ⟨rfl, hb4⟩
        have Hb4 := Lib.hid (Hbr.out.trans (hb4.mono Hbr.out.size))
        clear hb4
        go_wp2_with fail
        go_ret
        exact ⟨rfl, Hb4.out⟩
    · obtain rfl : j = mq := by omega
      go_wp2_with fail
      refine (Told15_any wr HTr.out).mono ?_
      rintro e w4 ⟨rfl, hb4⟩
      have Hb4 := Lib.hid (Hbr.out.trans (hb4.mono Hbr.out.size))
      clear hb4
      go_wp2_with fail
      go_ret
      exact ⟨rfl, Hb4.out⟩
end Go.Proofs.YtmgiljicjjcjlaaGreatDoor
