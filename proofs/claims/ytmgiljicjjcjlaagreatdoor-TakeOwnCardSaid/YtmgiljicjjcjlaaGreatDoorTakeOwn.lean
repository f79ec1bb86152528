/- The walk of TakeOwn: what was taken, or given, may be changed by who has it. Conditions: the list's length is a length; the table of math/bits stands in its variable. -/
import Derived.Test.YtmgiljicjjcjlaaGreatDoorPkP
import Derived.Test.YtmgiljicjjcjlaaGreatDoorTkAll
namespace Go.Proofs.YtmgiljicjjcjlaaGreatDoor
open Go.RowKit
set_option linter.unusedVariables false
set_option linter.unusedSimpArgs false
/- What was made of other types than bytes stands while bytes are written. -/
theorem ShelfRow.sameU {w w' : World} {B : Nat} {v : Value} {L : List Nat} {lv m : Nat} (h : ShelfRow w B v L lv m) (k : ∀ b t cs, t ≠ 5 → Bk w b t cs → Bk w' b t cs) : ShelfRow w' B v L lv m := by
  obtain ⟨G, h1, h2⟩ := h
  exact ⟨G, own_same h1 fun b cs _ hb => k _ _ _ (by decide) hb, fun p hp => ⟨(h2 p hp).1, (h2 p hp).2.same fun b t cs ht hb => k _ _ _ (by rintro rfl; revert ht; decide) hb⟩⟩
theorem WalkAt.sameU {w w' : World} {B gk : Nat} {L : List Nat} (h : WalkAt w B gk L) (k : ∀ b t cs, t ≠ 5 → Bk w b t cs → Bk w' b t cs) : WalkAt w' B gk L := by
  obtain ⟨gv, gt, h1, ⟨hB, S, v, h2, h3⟩, h4⟩ := h
  exact ⟨gv, gt, k _ _ _ (by decide) h1, ⟨hB, S, v, k _ _ _ (by decide) h2, fun lv hl => (h3 lv hl).sameU k⟩, k _ _ _ (by decide) h4⟩
theorem PermAt.sameU {w w' : World} {B gp ga : Nat} {vl vo vt vf : Value} {R P : Nat} {ks : List Nat} {C : List (Nat × Nat)} {tk : List Bool} {fr : List Nat} (h : PermAt w B gp ga vl vo vt vf R P ks C tk fr) (k : ∀ b t cs, t ≠ 5 → Bk w b t cs → Bk w' b t cs) : PermAt w' B gp ga vl vo vt vf R P ks C tk fr :=
  ⟨k _ _ _ (by decide) h.blk, own_same h.lrow fun b cs _ hb => k _ _ _ (by decide) hb, own_same h.orow fun b cs _ hb => k _ _ _ (by decide) hb, k _ _ _ (by decide) h.ar, own_same h.trow fun b cs _ hb => k _ _ _ (by decide) hb, own_same h.frow fun b cs _ hb => k _ _ _ (by decide) hb, h.apart, h.lt, h.lo⟩
theorem TpAt.sameU {w w' : World} {Bw gl rate : Nat} {t : List UInt8} (h : TpAt w Bw gl t rate) (k : ∀ b t cs, t ≠ 5 → Bk w b t cs → Bk w' b t cs) : TpAt w' Bw gl t rate := by
  obtain ⟨rs, gk, gp, ga, vl, vo, vt, B, tk, h1, h2, h3⟩ := h
  exact ⟨rs, gk, gp, ga, vl, vo, vt, B, tk, h1, ⟨k _ _ _ (by decide) h2.blk, h2.walk.sameU k, h2.perm.sameU k⟩, h3⟩
/-- Where a made slice lies. -/
theorem Made.bk {w : World} {B : Nat} {e : TypeId} {sz : Nat} {A : Option Addr} {n c : Nat} {xs : List Value} (h : Made w B e sz A n c xs) (hn : 0 < n) : ∃ (g : Nat) (cs : Array Value), A = some ⟨g, 0, none⟩ ∧ B ≤ g ∧ Bk w g e cs ∧ n * sz ≤ cs.size ∧ ∀ (j : Nat) (u : Value), xs[j]? = some u → cs[j]? = some u := by
  rcases h.own.2 with ⟨_, h0⟩ | ⟨g, cap, cur, h1, h2, h3, h4, h5, h6, h7⟩
  · omega
  · injection h1 with h1
    refine ⟨g, cur, h1, h2, h3, ?_, fun j u hu => ?_⟩
    · rw [h6]
      exact Nat.mul_le_mul_right _ h4
    · rw [← h7, List.getElem?_take] at hu
      split at hu
      · rw [← Array.getElem?_toList]; exact hu
      · cases hu
set_option maxRecDepth 100000 in
set_option maxHeartbeats 4000000 in
theorem TakeOwn_walk (A : Option Addr) (n c : Nat) (l : List Int) (few : Bool) (w : World) (hr : Rd w w.heap.size 1 A n (l.map iv)) (hn : n ≤ maxLen) (hT : TabW w) :
    Calls Tryz.prog 5 #[.slice A n c, .bool few] w fun e w' => e = .returned (.bool true) ∧ Below w.heap.size w w' := by
  have hw := hT.pos
  have Hr := Lib.hid hr
  have HT := Lib.hid hT
  clear hr hT
  go_enter Tryz.func5, Tryz.ntmps5
  go_wp2_with fail
  refine (Text_any A n c w.heap.size l 40 few w Hr.out (Nat.le_refl _) hn (by omega)).mono ?_
  rintro e w1 ⟨t, A1, c1, ht40, _, rfl, hm1, hb1⟩
  obtain ⟨n1, hn1⟩ : ∃ n1, t.length = n1 := ⟨_, rfl⟩
  rw [hn1] at hm1 ht40
  rw [hn1]
  have Hn1 := Lib.hid hn1
  have Hm1 := Lib.hid hm1
  have Hb1 := Lib.hid hb1
  clear hn1 hm1 hb1 Hr
  go_wp2_with fail
  have hbA : Below w1.heap.size w1 (w1.alloc (.cells #[.slice A1 n1 c1] 23)) := (Below.refl _ _).alloc (Nat.le_refl _) _
  have hrd := Rd.made w1 23 1 1 #[.slice A1 n1 c1] rfl
  have hm1A := Hm1.out.below hbA
  refine (TpNew_any 3 _ 1 1 _ [⟨A1, n1, c1, t⟩] t (by simp [catS]) _ hrd (fun s hs => by simp at hs; subst hs; exact hm1A.rd) (Nat.le_refl _) (by omega) (by rw [Hn1.out]; omega) (by omega) (by omega)).mono ?_
  rintro e w3 ⟨gl, rfl, _, htx, hb3⟩
  have hb23 := hbA.trans (hb3.mono hbA.size)
  have hbw3 := Hb1.out.trans (hb23.mono Hb1.out.size)
  have hm13 := Hm1.out.below hb23
  have htx3 := TpAt.mono htx (B' := w.heap.size) (by have := Hb1.out.size; have := hbA.size; omega)
  have HT3 := Lib.hid (HT.out.below hbw3 hw)
  have Hm1' := Lib.hid hm13
  have Hb3 := Lib.hid hbw3
  have Ht := Lib.hid htx3
  clear hrd hm1A hb3 hbA hb23 hbw3 hm13 htx3 htx Hb1 Hm1
  by_cases hn0 : n1 < 1
  · have hn00 : decide (n1 < 1) = true := decide_eq_true hn0
    go_wp2_with fail
    refine (Told15_any w3 HT3.out).mono ?_
    rintro e w4 ⟨rfl, hb4⟩
    have Hb4 := Lib.hid (Hb3.out.trans (hb4.mono Hb3.out.size))
    clear hb4
    go_wp2_with fail
    go_ret
    exact ⟨rfl, Hb4.out⟩
  have hn00 : decide (n1 < 1) = false := decide_eq_false hn0
  obtain ⟨ch, hch⟩ : ∃ ch, t[0]? = some ch := ⟨_, List.getElem?_eq_getElem (by rw [Hn1.out]; omega)⟩
  obtain ⟨b1, cs1, rfl, hB1, hbk1, hsz1, hcs1⟩ := Hm1'.out.bk (by omega)
  have d1 : w3.cell? ⟨b1, 0, none⟩ = some (.int .u8 (ch.toNat : Int)) := (hbk1.cell 0).trans (hcs1 0 _ (by rw [List.getElem?_map, hch]; rfl))
  have s0 := strOfT Hm1'.out.rd c1
  have f1 := hbk1.frozen 0
  have g1 := hbk1.lt
  have h1pos : (0 : Int) < (n1 : Int) := by omega
  obtain ⟨u1, hu1⟩ : ∃ u, u = Value.int .u8 (((ch.toNat : Int) + 1) % 256) := ⟨_, rfl⟩
  have hb4 := Hb3.out.setCell (p := ⟨b1, 0, none⟩) hB1 u1
  have ht4 : TpAt (w3.setCell ⟨b1, 0, none⟩ u1) w.heap.size gl t 3 := Ht.out.sameU fun b t cs ht hk => hk.far (p := ⟨b1, 0, none⟩) (Bk.ne hk hbk1 ht) u1
  have HT4 := Lib.hid (HT.out.below hb4 hw)
  have Hb4 := Lib.hid hb4
  have Ht4 := Lib.hid ht4
  have Hch := Lib.hid hch
  clear hb4 ht4 hbk1 hcs1 hch Hm1' HT3 Ht Hb3 HT
  go_wp2_with fail
  rw [← hu1]
  obtain ⟨W4, hW4⟩ : ∃ x, w3.setCell ⟨b1, 0, none⟩ u1 = x := ⟨_, rfl⟩
  rw [hW4] at HT4 Hb4 Ht4 ⊢
  clear hW4 hu1 d1 s0 f1 g1
  have hp1 := Piece_any w.heap.size gl 3 t 0 n1 W4 Ht4.out HT4.out hw (by rw [Hn1.out]; omega)
  unfold PiecePost at hp1
  refine hp1.mono ?_
  rintro e w5 ⟨A5, c5, rfl, hm5, hu5⟩
  clear hp1
  have htk : (t.drop 0).take n1 = t := by rw [List.drop_zero, List.take_of_length_le (by rw [Hn1.out]; exact Nat.le_refl _)]
  rw [htk] at hm5
  obtain ⟨b5, cs5, rfl, hB5, hbk5, hsz5, hcs5⟩ := hm5.bk (by omega)
  have d5 : w5.cell? ⟨b5, 0, none⟩ = some (.int .u8 (ch.toNat : Int)) := (hbk5.cell 0).trans (hcs5 0 _ (by rw [List.getElem?_map, Hch.out]; rfl))
  have s5 := strOfT hm5.rd c5
  have f5 := hbk5.frozen 0
  have g5 := hbk5.lt
  obtain ⟨u5, hu5e⟩ : ∃ u, u = Value.int .u8 (((ch.toNat : Int) + 1) % 256) := ⟨_, rfl⟩
  have hv6 : VB w.heap.size W4 (w5.setCell ⟨b5, 0, none⟩ u5) := ⟨Vis.fresh hu5.1 (p := ⟨b5, 0, none⟩) hB5 u5, Keep.setCell hu5.2 (p := ⟨b5, 0, none⟩) (.inr hB5) u5⟩
  have Hv6 := Lib.hid hv6
  clear hm5 hu5 hbk5 hcs5 hv6 htk
  go_wp2_with fail
  rw [← hu5e]
  obtain ⟨W6, hW6⟩ : ∃ x, w5.setCell ⟨b5, 0, none⟩ u5 = x := ⟨_, rfl⟩
  rw [hW6] at Hv6 ⊢
  clear hW6 hu5e d5 s5 f5 g5
  have HT6 := Lib.hid (HT4.out.vb Hv6.out hw HT4.out.pos)
  have Hb6 := Lib.hid (Hb4.out.trans (VB.to_below Hv6.out Hb4.out.size))
  obtain ⟨rs, gk, gp, ga, vl, vo, vt, B, tk, hs, hl, hn127⟩ := Ht4.out.vis Hv6.out.1
  clear Hv6 HT4 Hb4 Ht4
  obtain ⟨i0, hi00, hi01⟩ := hs.row (p := 0) (by rw [symL_len]; omega)
  have hi0 : rs[i0]? = some 0 := List.getElem?_eq_some_iff.2 ⟨hi00, hi01⟩
  have hlen : rs.length = t.length + 1 := by rw [hs.len, symL_len]
  have hC0 : 0 < (sampC rs 3 (t.length + 1)).length := by
    have : (i0, 0) ∈ sampC rs 3 (t.length + 1) := by
      rw [sampM]
      exact ⟨by omega, by rw [List.getD_eq_getElem?_getD, hi0]; rfl, rfl⟩
    exact List.length_pos_of_mem this
  have hCl := sampC_le rs 3 (t.length + 1)
  have hlast := LiveLast_any w.heap.size gl gk gp ga vl vo vt B (t.length + 1) 3 _ _ tk W6 hl (lastL_lt (symL_lt t)) (by rw [lastL_len, hlen]; omega)
  have hLn : (lastL (symL t) rs).length = n1 + 1 := by rw [lastL_len, hlen, Hn1.out]
  unfold WAllPost at hlast
  rw [hLn] at hlast
  obtain ⟨xs, hxs⟩ : ∃ x, (lastL (symL t) rs).map sv = x := ⟨_, rfl⟩
  rw [hxs] at hlast
  obtain ⟨np, hnp⟩ : ∃ x, (sampC rs 3 (t.length + 1)).length = x := ⟨_, rfl⟩
  rw [hnp] at hC0 hCl
  rw [Hn1.out] at hCl
  have Hs := Lib.hid hs
  have Hl := Lib.hid hl
  have Hi0 := Lib.hid hi0
  have Hnp := Lib.hid hnp
  have H127 := Lib.hid hn127
  clear hs hl hi00 hi01 hi0 hlen hLn hxs hnp hn127
  refine hlast.mono ?_
  rintro e w7 ⟨A7, c7, rfl, hm7, hv7⟩
  clear hlast
  have hpairs := LivePairs_any w.heap.size gl gk gp ga vl vo vt B (t.length + 1) 3 _ _ tk w7 (Hl.out.vis hv7.1) (by rw [Hnp.out]; have := ht40; have := Hn1.out; omega)
  unfold PAllPost at hpairs
  rw [Hnp.out] at hpairs
  have Hm7 := Lib.hid hm7
  have Hv7 := Lib.hid hv7
  have Hpairs := Lib.hid hpairs
  clear hm7 hv7 hpairs
  go_wp2_with fail
  refine Hpairs.out.mono ?_
  rintro e w8 ⟨A8, c8, rfl, hm8, hb8⟩
  clear Hpairs
  have hv8 := Hv7.out.below hb8
  have hm78 := Hm7.out.below hb8
  obtain ⟨g7, cs7, rfl, hB7, hbk7, hsz7, _⟩ := hm78.bk (by omega)
  obtain ⟨g8, cs8, rfl, hB8, hbk8, hsz8, _⟩ := hm8.bk hC0
  have hB8' : W6.heap.size ≤ g8 := Nat.le_trans Hv7.out.1.size hB8
  have Hbk7 := Lib.hid hbk7
  have Hbk8 := Lib.hid hbk8
  have Hv8 := Lib.hid hv8
  clear hm8 hb8 hv8 hm78 Hm7 Hv7 hbk7 hbk8
  go_wp2_with fail
  go_loopw [13] (fun i wr => ∃ k : Nat, k ≤ n1 + 1 ∧ i = .int .i64 (k : Int) ∧ (∃ cs, Bk wr g7 3 cs ∧ (n1 + 1) * 1 ≤ cs.size) ∧ Bk wr g8 38 cs8 ∧ VB w.heap.size W6 wr) (fun i _ => n1 + 1 - (intOf i).toNat)
  case atStart => exact ⟨0, Nat.zero_le _, rfl, ⟨cs7, Hbk7.out, hsz7⟩, Hbk8.out, Hv8.out⟩
  case round =>
    obtain ⟨k, hk, rfl, ⟨cs, hbk, hsz⟩, hbkp, hv⟩ := hrel
    by_cases hlt : k < n1 + 1
    · obtain ⟨u, hu⟩ : ∃ u, wr.cell? ⟨g7, k, none⟩ = some u := ⟨_, (hbk.cell k).trans (Array.getElem?_eq_getElem (by omega))⟩
      have hfz := hbk.frozen k
      have hgl7 := hbk.lt
      have hbk2 := hbk.set k (.int .i64 9)
      have hbkp2 := hbkp.far (p := ⟨g7, k, none⟩) (Bk.ne hbkp hbk (by decide)) (.int .i64 9)
      have hv2 : VB w.heap.size W6 (wr.setCell ⟨g7, k, none⟩ (.int .i64 9)) := ⟨Vis.fresh hv.1 (p := ⟨g7, k, none⟩) hB7 _, Keep.setCell hv.2 (p := ⟨g7, k, none⟩) (.inr hB7) _⟩
      have hsz2 : (n1 + 1) * 1 ≤ (cs.setIfInBounds k (.int .i64 9)).size := by rw [Array.size_setIfInBounds]; exact hsz
      have Hbk2 := Lib.hid hbk2
      have Hbkp2 := Lib.hid hbkp2
      have Hv2 := Lib.hid hv2
      clear hbk hbkp hv hbk2 hbkp2 hv2
      have hltI : (k : Int) < ((n1 : Int) + 1) := by omega
      go_wp2_with fail
      go_roundw
      case rel => exact ⟨k + 1, by omega, by go_num, ⟨_, Hbk2.out, hsz2⟩, Hbkp2.out, Hv2.out⟩
      case measure => simp [intOf]; omega
    · obtain rfl : k = n1 + 1 := by omega
      have Hbkp := Lib.hid hbkp
      have Hv := Lib.hid hv
      clear hbk hbkp hv hsz
      go_wp2_with fail
      go_loopw [14] (fun i wr => ∃ k : Nat, k ≤ np ∧ i = .int .i64 (k : Int) ∧ (∃ cs, Bk wr g8 38 cs ∧ np * 2 ≤ cs.size) ∧ VB w.heap.size W6 wr) (fun i _ => np - (intOf i).toNat)
      case atStart => exact ⟨0, Nat.zero_le _, rfl, ⟨cs8, Hbkp.out, hsz8⟩, Hv.out⟩
      case round =>
        obtain ⟨k, hk, rfl, ⟨cs, hbk, hsz⟩, hv⟩ := hrel
        by_cases hlt : k < np
        · obtain ⟨u, hu⟩ : ∃ u, wr.cell? ⟨g8, k * 2 + 1, none⟩ = some u := ⟨_, (hbk.cell (k * 2 + 1)).trans (Array.getElem?_eq_getElem (by omega))⟩
          have hfz := hbk.frozen (k * 2 + 1)
          have hgl8 := hbk.lt
          have hbk2 := hbk.set (k * 2 + 1) (.int .i64 77)
          have hv2 : VB w.heap.size W6 (wr.setCell ⟨g8, k * 2 + 1, none⟩ (.int .i64 77)) := ⟨Vis.fresh hv.1 (p := ⟨g8, k * 2 + 1, none⟩) hB8' _, Keep.setCell hv.2 (p := ⟨g8, k * 2 + 1, none⟩) (.inr hB8') _⟩
          have hsz2 : np * 2 ≤ (cs.setIfInBounds (k * 2 + 1) (.int .i64 77)).size := by rw [Array.size_setIfInBounds]; exact hsz
          have Hbk2 := Lib.hid hbk2
          have Hv2 := Lib.hid hv2
          clear hbk hv hbk2 hv2
          go_wp2_with fail
          go_roundw
          case rel => exact ⟨k + 1, by omega, by go_num, ⟨_, Hbk2.out, hsz2⟩, Hv2.out⟩
          case measure => simp [intOf]; omega
        · obtain rfl : k = np := by omega
          have Hv := Lib.hid hv
          have HTr := Lib.hid (HT6.out.vb hv hw HT6.out.pos)
          have Hbr := Lib.hid (Hb6.out.trans (VB.to_below hv Hb6.out.size))
          clear hbk hv hsz
          go_wp2_with fail
          refine (Told15_any wr HTr.out).mono ?_
          rintro e wa ⟨rfl, hba⟩
          have hva := Hv.out.below hba
          have HTa := Lib.hid (HTr.out.below (hba.mono (Nat.le_refl _)) HTr.out.pos)
          have Hla := Lib.hid (Hl.out.vis hva.1)
          have Hba := Lib.hid (Hbr.out.trans (hba.mono Hbr.out.size))
          clear hba hva HTr Hbr
          go_wp2_with fail
          have htx := TakeText_any w.heap.size gl 3 t wa ⟨rs, gk, gp, ga, vl, vo, vt, B, tk, Hs.out, Hla.out, H127.out⟩ HTa.out hw
          unfold TakePost at htx
          rw [Hn1.out] at htx
          refine htx.mono ?_
          rintro e wb ⟨Ab, cb, rfl, hmb, hvb⟩
          clear htx
          have sb := strOfT hmb.rd cb
          have Hlb := Lib.hid (Hla.out.vis hvb.1)
          have Hbb := Lib.hid (Hba.out.trans (VB.to_below hvb Hba.out.size))
          clear hmb hvb
          go_wp2_with fail
          refine (LiveRow_any w.heap.size gl gk gp ga vl vo vt B 3 t rs tk i0 0 wb Hlb.out Hs.out H127.out Hi0.out).mono ?_
          rintro e wc ⟨rfl, hvc⟩
          have Hlc := Lib.hid (Hlb.out.vis hvc.1)
          have Hbc := Lib.hid (Hbb.out.trans (VB.to_below hvc Hbb.out.size))
          clear hvc sb
          go_wp2_with fail
          refine (LivePos_any w.heap.size gl gk gp ga vl vo vt B 3 t rs tk i0 0 wc Hlc.out Hs.out H127.out Hi0.out).mono ?_
          rintro e wd ⟨rfl, hvd⟩
          have Hbd := Lib.hid (Hbc.out.trans (VB.to_below hvd Hbc.out.size))
          clear hvd
          go_wp2_with fail
          go_ret
          exact ⟨rfl, Hbd.out⟩
end Go.Proofs.YtmgiljicjjcjlaaGreatDoor
