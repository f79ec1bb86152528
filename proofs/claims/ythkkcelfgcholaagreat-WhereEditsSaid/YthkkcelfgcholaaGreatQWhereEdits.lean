/- The walk of WhereEdits: a place behind an insert is one more, ahead of it the same. Conditions: the list's length is a length; a byte is a byte. -/
import Derived.Test.YthkkcelfgcholaaGreatPkEI
import Derived.BigQuiet
namespace Go.Proofs.YthkkcelfgcholaaGreat
open Go.RowKit
set_option linter.unusedVariables false
set_option linter.unusedSimpArgs false
set_option maxRecDepth 100000 in
set_option maxHeartbeats 4000000 in
theorem WhereEdits_walk (A : Option Addr) (n c : Nat) (l : List Int) (at_ cz : Int) (w : World) (hr : Rd w w.heap.size 1 A n (l.map iv)) (hn : n ≤ maxLen) (hc0 : 0 ≤ cz) (hc1 : cz ≤ 255) :
    Calls Tryz.prog 4 #[.slice A n c, .int .i64 at_, .int .u8 cz] w fun e w' => e = .returned (.bool true) ∧ Below w.heap.size w w' := by
  have Hr := Lib.hid hr
  have kc := str_const
  have kc1 := str_const1
  obtain ⟨m3, hm3⟩ : ∃ m : Nat, cz.tmod 3 = (m : Int) := ⟨(cz.tmod 3).toNat, by have := Int.tmod_nonneg 3 hc0; omega⟩
  have hm3l : m3 < 3 := by have := Int.tmod_lt_of_pos cz (show (0 : Int) < 3 by omega); omega
  obtain ⟨ch, hch⟩ := byte_ex (97 + (m3 : Int)) (by omega) (by omega)
  have u1 : IntKind.u8.wrap (m3 : Int) = (m3 : Int) := by rw [IntKind.wrap_u8]; omega
  have u2 : IntKind.u8.wrap (97 + (m3 : Int)) = (ch.toNat : Int) := by rw [IntKind.wrap_u8]; omega
  have hch122 : (122 : UInt8) ≠ ch := fun e => by
    have := congrArg UInt8.toNat e
    have h0 : (122 : UInt8).toNat = 122 := rfl
    omega
  have Hch122 := Lib.hid hch122
  clear hr hch hch122 hm3l hc0 hc1
  go_enter Tryz.func4, Tryz.ntmps4
  go_wp2_with fail
  refine (Text_any A n c w.heap.size l 50 true w Hr.out (Nat.le_refl _) hn (by omega)).mono ?_
  rintro e w1 ⟨t, A1, c1, ht50, hfew, rfl, hm1, hb1⟩
  have hfz : ∀ d ∈ t, d ≠ (122 : UInt8) := fun d hd e => by
    have := hfew rfl d hd
    rw [e] at this
    have h0 : (122 : UInt8).toNat = 122 := rfl
    omega
  obtain ⟨n1, hn1⟩ : ∃ n1, t.length = n1 := ⟨_, rfl⟩
  rw [hn1] at hm1 ht50
  rw [hn1]
  have Hn1 := Lib.hid hn1
  have Hfz := Lib.hid hfz
  have Hm1 := Lib.hid hm1
  have Hb1 := Lib.hid hb1
  clear hn1 hm1 hb1 Hr hfew hfz
  go_wp2_with fail
  have hbA : Below w1.heap.size w1 (w1.alloc (.cells #[.slice A1 n1 c1] 23)) := (Below.refl _ _).alloc (Nat.le_refl _) _
  have hrd := Rd.made w1 23 1 1 #[.slice A1 n1 c1] rfl
  have hm1A := Hm1.out.below hbA
  refine (LiveNewE_any 6 _ 1 1 _ [⟨A1, n1, c1, t⟩] t n1 (by simp [catS]) Hn1.out _ hrd (fun s hs => by simp at hs; subst hs; exact hm1A.rd) (Nat.le_refl _) (by omega) (by omega) (by omega) (by omega)).mono ?_
  rintro e w3 ⟨gl, own, rfl, hgl, hle, hb3⟩
  have hb23 := hbA.trans (hb3.mono hbA.size)
  have hbw3 := Hb1.out.trans (hb23.mono Hb1.out.size)
  have hle3 := hle.low (B' := w.heap.size) (by have := Hb1.out.size; have := hbA.size; omega)
  have hown : ∀ b, w3.heap.size ≤ b → own b = 0 := fun b hb => Nat.eq_zero_of_not_pos fun h => by
    have := (hle3.bnd b (by omega)).2
    omega
  have Hown := Lib.hid hown
  have Hb3 := Lib.hid hbw3
  have Hle := Lib.hid hle3
  clear hrd hm1A hb3 hbA hb23 hbw3 hle3 hle hgl Hb1 Hm1 hown
  obtain ⟨k, hk1, hk2⟩ := umod_ex at_ ((n1 : Int) + 1) (by omega)
  have hkn : k ≤ n1 := by omega
  have e1 : IntKind.i64.wrap ((n1 : Int) + 1) = (n1 : Int) + 1 := by rw [IntKind.wrap_i64]; omega
  have e2 : IntKind.u64.wrap ((n1 : Int) + 1) = (n1 : Int) + 1 := by rw [IntKind.wrap_u64]; omega
  have e3 : IntKind.i64.wrap (k : Int) = (k : Int) := by rw [IntKind.wrap_i64]; omega
  have e4 : ¬ (n1 : Int) + 1 = 0 := by omega
  clear hk2
  obtain ⟨ps, hps⟩ : ∃ x, placesT t [ch] = x := ⟨_, rfl⟩
  obtain ⟨m, hm⟩ : ∃ x, ps.length = x := ⟨_, rfl⟩
  have hps2 : placesT (insN t k 122) [ch] = ps.map (sh k) := by rw [places_ins t (by rw [Hn1.out]; exact hkn) Hch122.out, hps]
  have hpz : placesT (insN t k 122) [122] = [k] := places_new t (by rw [Hn1.out]; exact hkn) Hfz.out
  have hmle : m ≤ n1 + 1 := by
    have := placesT_le t [ch]
    rw [hps, hm, Hn1.out] at this
    exact this
  have hpb : ∀ a ∈ ps, a ≤ n1 := fun a ha => by
    rw [← hps] at ha
    unfold placesT at ha
    rw [List.mem_filter, List.mem_range, Hn1.out] at ha
    omega
  have Hps := Lib.hid hps
  have Hm := Lib.hid hm
  have Hps2 := Lib.hid hps2
  have Hpz := Lib.hid hpz
  have Hmle := Lib.hid hmle
  have Hpb := Lib.hid hpb
  have Hkn := Lib.hid hkn
  clear hps hm hps2 hpz hmle hpb hkn Hfz Hch122
  go_wp2_with fail
  clear e1 e2 e3 e4 hk1 u1 u2 hm3
  have hbP : Below w3.heap.size w3 (w3.alloc (.cells #[.int .u8 (ch.toNat : Int)] 5)) := (Below.refl _ _).alloc (Nat.le_refl _) _
  have hbk := Bk.new w3 5 #[.int .u8 (ch.toNat : Int)]
  have hle4 := Hle.out.vis (Vis.of_below hbP)
  have hb4 := Hb3.out.trans (hbP.mono Hb3.out.size)
  obtain ⟨gpp, hgp⟩ : ∃ g, w3.heap.size = g := ⟨_, rfl⟩
  have hog := Hown.out w3.heap.size (Nat.le_refl _)
  have hsz4 : w3.heap.size ≤ (w3.alloc (.cells #[.int .u8 (ch.toNat : Int)] 5)).heap.size := hbP.size
  have hse : (w3.alloc (.cells #[.int .u8 (ch.toNat : Int)] 5)).heap.size = w3.heap.size + 1 := World.size_alloc ..
  generalize w3.alloc (.cells #[.int .u8 (ch.toNat : Int)] 5) = w4 at hbk hle4 hb4 hsz4 hse ⊢
  have hown4 : ∀ b, w4.heap.size ≤ b → own b = 0 := fun b hb => Hown.out b (by omega)
  rw [hgp] at hbk hog hse ⊢
  rw [← hse]
  clear hse
  have Hbk := Lib.hid hbk
  have Hog := Lib.hid hog
  have Hle4 := Lib.hid hle4
  have Hb4 := Lib.hid hb4
  have Hown4 := Lib.hid hown4
  clear hbP hbk hle4 hb4 hog hown4 hgp hsz4 Hown Hle Hb3
  have hb45 : Below w4.heap.size w4 (w4.alloc (.cells #[.slice (some ⟨gpp, 0, none⟩) 1 1] 23)) := (Below.refl _ _).alloc (Nat.le_refl _) _
  have hbk5 := Hbk.out.below hb45 Hbk.out.lt
  refine (All_any w.heap.size gl 6 t _ 1 1 _ [⟨some ⟨gpp, 0, none⟩, 1, 1, [ch]⟩] [ch] (by simp [catS]) _ ((Hle4.out.vis (Vis.of_below hb45)).tp (by rw [Hn1.out]; omega)) (Rd.made w4 23 1 1 #[.slice (some ⟨gpp, 0, none⟩) 1 1] rfl) (fun s hs => by simp at hs; subst hs; exact rd_bkw hbk5 rfl) (Nat.le_refl _) (by omega) (by simp)).mono ?_
  rintro e w6 ⟨A8, c8, rfl, hm8, hv8⟩
  rw [Hps.out, Hm.out] at hm8 ⊢
  have hv46 : VB w.heap.size w4 w6 := (VisK.of_below hb45).trans hv8
  have Hle6 := Lib.hid (Hle4.out.vis hv46.1)
  have Hb6 := Lib.hid (Hb4.out.trans (VB.to_below hv46 Hb4.out.size))
  have Hbk6 := Lib.hid (hv46.1.bk Hbk.out (by decide) (by decide))
  have Hm8 := Lib.hid hm8
  have hs46 : w4.heap.size ≤ (w4.alloc (.cells #[.slice (some ⟨gpp, 0, none⟩) 1 1] 23)).heap.size := hb45.size
  have Hown8 := Lib.hid (show ∀ b, (w4.alloc (.cells #[.slice (some ⟨gpp, 0, none⟩) 1 1] 23)).heap.size ≤ b → own b = 0 from fun b hb => Hown4.out b (by omega))
  clear hb45 hbk5 hm8 hv8 hv46 hs46 Hle4 Hb4 Hbk Hown4 Hps
  have hins := LInsert_any w6 w.heap.size own gl t 6 k 122 Hle6.out (by rw [Hn1.out]; omega) (by rw [Hn1.out]; exact Hkn.out) (by omega) (by omega)
  unfold InsE at hins
  have e122 : (((122 : UInt8).toNat : Nat) : Int) = 122 := rfl
  rw [e122] at hins
  clear e122
  go_wp2_with fail
  refine hins.mono ?_
  clear hins
  rintro e w7 ⟨rfl, own7, hle7, hlf7⟩
  have hb7 := hlf7.belowW (by have := Hb6.out.size; omega)
  have Hle7 := Lib.hid hle7
  have Hb7 := Lib.hid (Hb6.out.trans hb7)
  have Hm87 := Lib.hid (Hm8.out.lf hlf7 (by decide) (by decide) Hown8.out)
  have Hbk7 := Lib.hid (hlf7.vis.bk Hbk6.out (by decide) (by decide) (fun f => f Hog.out))
  clear hle7 hlf7 hb7 Hle6 Hb6 Hm8 Hbk6 Hown8 Hog
  go_wp2_with fail
  have hlen7 : (insN t k 122).length ≤ 127 := by rw [insN_len _ _ (by rw [Hn1.out]; exact Hkn.out), Hn1.out]; omega
  have hb79 : Below w7.heap.size w7 (w7.alloc (.cells #[.slice (some ⟨gpp, 0, none⟩) 1 1] 23)) := (Below.refl _ _).alloc (Nat.le_refl _) _
  have hbk9 := Hbk7.out.below hb79 Hbk7.out.lt
  refine (All_any w.heap.size gl 6 (insN t k 122) _ 1 1 _ [⟨some ⟨gpp, 0, none⟩, 1, 1, [ch]⟩] [ch] (by simp [catS]) _ ((Hle7.out.vis (Vis.of_below hb79)).tp hlen7) (Rd.made w7 23 1 1 #[.slice (some ⟨gpp, 0, none⟩) 1 1] rfl) (fun s hs => by simp at hs; subst hs; exact rd_bkw hbk9 rfl) (Nat.le_refl _) (by omega) (by simp)).mono ?_
  rintro e w8 ⟨A9, c9, rfl, hm9, hv9⟩
  rw [Hps2.out, List.length_map, Hm.out] at hm9 ⊢
  have hv79 : VB w.heap.size w7 w8 := (VisK.of_below hb79).trans hv9
  have Hle8 := Lib.hid (Hle7.out.vis hv79.1)
  have Hb8 := Lib.hid (Hb7.out.trans (VB.to_below hv79 Hb7.out.size))
  have Hm88 := Lib.hid (hv79.1.made Hm87.out (by decide) (by decide))
  have Hm9 := Lib.hid hm9
  have Hlen7 := Lib.hid hlen7
  clear hb79 hbk9 hm9 hv9 hv79 Hle7 Hb7 Hm87 Hbk7 hlen7 Hps2
  go_wp2_with fail
  have hm52 : m ≤ 51 := by have := Hmle.out; omega
  go_loopw [14, 15] (fun i s wr => ∃ j : Nat, j ≤ m ∧ i = .int .i64 (j : Int) ∧ Below w8.heap.size w8 wr) (fun i _ _ => m - (intOf i).toNat)
  case atStart => exact ⟨0, Nat.zero_le _, rfl, Below.refl _ _⟩
  case round =>
    obtain ⟨j, hj, rfl, hbr⟩ := hrel
    have Hbr := Lib.hid hbr
    clear hbr
    by_cases hlt : j < m
    · have r1 := Hm88.out.rd.below Hbr.out
      have r2 := Hm9.out.rd.below Hbr.out
      obtain ⟨a, ha⟩ : ∃ a, ps[j]? = some a := ⟨_, List.getElem?_eq_getElem (by rw [Hm.out]; exact hlt)⟩
      have han := Hpb.out a (List.mem_of_getElem? ha)
      obtain ⟨b8, o8, rfl, _, hc8⟩ := r1.2 (by omega)
      obtain ⟨b9, o9, rfl, _, hc9⟩ := r2.2 (by omega)
      have d1 : wr.cell? ⟨b8, o8 + j, none⟩ = some (.int .i64 (a : Int)) := hc8 j _ (by rw [List.getElem?_map, ha]; rfl)
      have d2 : wr.cell? ⟨b9, o9 + j, none⟩ = some (.int .i64 ((sh k a : Nat) : Int)) := hc9 j _ (by rw [List.getElem?_map, List.getElem?_map, ha]; rfl)
      clear r1 r2 hc8 hc9 ha
      by_cases hak : k ≤ a
      · have hs : sh k a = a + 1 := by unfold sh; rw [if_neg (by omega)]
        rw [hs] at d2
        have g1 : decide ((a : Int) ≥ (k : Int)) = true := decide_eq_true (by omega)
        have g2 : IntKind.i64.wrap ((a : Int) + 1) = ((a + 1 : Nat) : Int) := by rw [IntKind.wrap_i64]; omega
        clear hs
        generalize a + 1 = a1 at d2 g2
        go_wp2_with fail
        go_roundw
        case rel => exact ⟨j + 1, by omega, by go_num, Hbr.out⟩
        case measure => simp [intOf]; omega
      · have hs : sh k a = a := by unfold sh; rw [if_pos (by omega)]
        rw [hs] at d2
        have g1 : decide ((a : Int) ≥ (k : Int)) = false := decide_eq_false (by omega)
        clear hs
        go_wp2_with fail
        go_roundw
        case rel => exact ⟨j + 1, by omega, by go_num, Hbr.out⟩
        case measure => simp [intOf]; omega
    · obtain rfl : j = m := by omega
      obtain ⟨W, hW⟩ : ∃ W, W = wr := ⟨_, rfl⟩
      subst hW
      have Hlew := Lib.hid (Hle8.out.vis (Vis.of_below Hbr.out))
      have Hbw := Lib.hid (Hb8.out.trans (Hbr.out.mono Hb8.out.size))
      clear Hle8 Hb8 Hbr
      go_wp2_with fail
      refine (Told14_any W).mono ?_
      rintro e W1 ⟨rfl, hb10⟩
      have Hle10 := Lib.hid (Hlew.out.vis (Vis.of_below hb10))
      have Hb10 := Lib.hid (Hbw.out.trans (hb10.mono Hbw.out.size))
      clear hb10 Hlew Hbw
      go_wp2_with fail
      have hp2 := parts_one W1 #[.int .u8 122] (1, 2) [122] 1 rfl rfl
      have hv2 : Below W1.heap.size W1 ((W1.alloc (.cells #[.int .u8 122] 5 (1, 2))).alloc (.cells #[.slice (some ⟨W1.heap.size, 0, none⟩) 1 1] 23)) := ((Below.refl _ _).alloc (Nat.le_refl _) _).alloc (by simp) _
      refine (All_any w.heap.size gl 6 (insN t k 122) _ 1 1 (W1.heap.size + 2) [(⟨some ⟨W1.heap.size, 0, none⟩, 1, 1, [122]⟩ : Sl)] [122] rfl _ ((Hle10.out.vis (Vis.of_below hv2)).tp Hlen7.out) hp2.1 hp2.2 (by simp) (by omega) (by simp)).mono ?_
      rintro e W2 ⟨A2, c2, rfl, hm2, hu2⟩
      rw [Hpz.out] at hm2 ⊢
      have hx2 : VB w.heap.size W1 W2 := (VisK.of_below hv2).trans hu2
      have Hb12 := Lib.hid (Hb10.out.trans (VB.to_below hx2 Hb10.out.size))
      have Hm2 := Lib.hid hm2
      clear hx2 hu2 hv2 hp2 hm2 Hle10 Hb10
      go_wp2_with fail
      have hb2 : Below W2.heap.size W2 (W2.alloc (.cells #[.int .i64 (k : Int)] 3)) := (Below.refl _ _).alloc (Nat.le_refl _) _
      refine (refSame_any A2 _ 1 c2 1 1 _ _ [k] [k] _ (Hm2.out.rd.below hb2) (Rd.made W2 3 1 1 #[.int .i64 (k : Int)] rfl) (by omega) (by omega)).mono ?_
      rintro e W3 ⟨rfl, hb3⟩
      have Hb13 := Lib.hid (Hb12.out.trans ((hb2.trans (hb3.mono hb2.size)).mono Hb12.out.size))
      have hd1 : decide (([k] : List Nat) = [k]) = true := decide_eq_true rfl
      rw [hd1]
      clear hb3 hb2 Hm2 Hb12
      go_wp2_with fail
      go_ret
      exact ⟨rfl, Hb13.out⟩
end Go.Proofs.YthkkcelfgcholaaGreat
