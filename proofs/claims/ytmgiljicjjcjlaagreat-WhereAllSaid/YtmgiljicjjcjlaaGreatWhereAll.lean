/- The walk of WhereAll: each letter's places together are all places, once. Conditions: the list's length is a length. -/
import Derived.Test.YtmgiljicjjcjlaaGreatPkM
import Derived.Test.YtmgiljicjjcjlaaGreatFnIs
namespace Go.Proofs.YtmgiljicjjcjlaaGreat
open Go.RowKit
set_option linter.unusedVariables false
set_option linter.unusedSimpArgs false
theorem Rd.cellOf {w : World} {B n b o j : Nat} {xs : List Value} {u : Value} (h : Rd w B 1 (some ⟨b, o, none⟩) n xs) (hj : xs[j]? = some u) : w.cell? ⟨b, o + j, none⟩ = some u := by
  have hn : 0 < n := by have := (List.getElem?_eq_some_iff.1 hj).1; have := h.1; omega
  obtain ⟨b1, o1, e, _, hc⟩ := h.2 hn
  injection e with e
  injection e with e1 e2
  subst e1
  subst e2
  exact hc j u hj
theorem VB.fresh {B : Nat} {w w1 : World} (h : VB B w w1) {p : Addr} (hp : w.heap.size ≤ p.block) (u : Value) : VB B w (w1.setCell p u) :=
  ⟨Vis.fresh h.1 hp u, Keep.setCell h.2 (.inr hp) u⟩
theorem sv_at {L : List Nat} {j a : Nat} (h : L[j]? = some a) : (L.map sv)[j]? = some (.int .i64 (a : Int)) := by rw [List.getElem?_map, h]; rfl
set_option maxRecDepth 100000 in
set_option maxHeartbeats 4000000 in
theorem WhereAll_walk (A : Option Addr) (n c : Nat) (l : List Int) (few : Bool) (rate : Int) (w : World) (hr : Rd w w.heap.size 1 A n (l.map iv)) (hn : n ≤ maxLen) :
    Calls Tryz.prog 3 #[.slice A n c, .bool few, .int .i64 rate] w fun e w' => e = .returned (.bool true) ∧ Below w.heap.size w w' := by
  have Hr := Lib.hid hr
  clear hr
  go_enter Tryz.func3, Tryz.ntmps3
  go_wp2_with fail
  refine (Text_any A n c w.heap.size l 60 few w Hr.out (Nat.le_refl _) hn (by omega)).mono ?_
  rintro e w1 ⟨t, A1, c1, ht60, _, rfl, hm1, hb1⟩
  obtain ⟨n1, hn1⟩ : ∃ n1, t.length = n1 := ⟨_, rfl⟩
  rw [hn1] at hm1 ht60
  rw [hn1]
  have Hn1 := Lib.hid hn1
  have Hm1 := Lib.hid hm1
  have Hb1 := Lib.hid hb1
  clear hn1 hm1 hb1 Hr
  obtain ⟨k, hk1, hk2⟩ := umod_ex rate 64 (by omega)
  have e1 : IntKind.i64.wrap (k : Int) = (k : Int) := by rw [IntKind.wrap_i64]; omega
  have e2 : IntKind.i64.wrap (1 + (k : Int)) = ((1 + k : Nat) : Int) := by rw [IntKind.wrap_i64]; omega
  have hk3 : 1 + k ≤ 64 := by omega
  have hk4 : 1 ≤ 1 + k := by omega
  generalize 1 + k = x1 at e2 hk3 hk4
  clear hk2
  have Hk3 := Lib.hid hk3
  have Hk4 := Lib.hid hk4
  clear hk3 hk4
  go_wp2_with fail
  have hbA : Below w1.heap.size w1 (w1.alloc (.cells #[.slice A1 n1 c1] 23)) := (Below.refl _ _).alloc (Nat.le_refl _) _
  have hrd := Rd.made w1 23 1 1 #[.slice A1 n1 c1] rfl
  have hm1A := Hm1.out.below hbA
  refine (TpNew_any x1 _ 1 1 _ [⟨A1, n1, c1, t⟩] t (by simp [catS]) _ hrd (fun s hs => by simp at hs; subst hs; exact hm1A.rd) (Nat.le_refl _) (by omega) (by rw [Hn1.out]; omega) Hk4.out Hk3.out).mono ?_
  rintro e w3 ⟨gl, rfl, _, htx, hb3⟩
  have hb23 := hbA.trans (hb3.mono hbA.size)
  have hbw3 := Hb1.out.trans (hb23.mono Hb1.out.size)
  have hm13 := Hm1.out.below hb23
  have htx3 := TpAt.mono htx (B' := w.heap.size) (by have := Hb1.out.size; have := hbA.size; omega)
  have Hm1' := Lib.hid hm13
  have Hb3 := Lib.hid hbw3
  have Ht := Lib.hid htx3
  clear hrd hm1A hb3 hbA hb23 hbw3 hm13 htx3 htx Hb1 Hm1 e1 e2
  have Ht60 := Lib.hid ht60
  clear ht60
  have hgl3 : w.heap.size ≤ w3.heap.size := Hb3.out.size
  go_wp2_with fail
  have hbk0 : Bk (w3.alloc (.cells (Array.replicate 60 (.bool false)) 29)) w3.heap.size 29 (isV t 0 [] 0) := by
    rw [isV_zero]
    exact Bk.new _ _ _
  have hv0 : VB w.heap.size w3 (w3.alloc (.cells (Array.replicate 60 (.bool false)) 29)) := VisK.of_below ((Below.refl _ _).alloc (Nat.le_refl _) _)
  go_loopw [11, 12] (fun s i wr => ∃ b : Nat, b ≤ 256 ∧ i = .int .i64 (b : Int) ∧ s = .int .i64 ((sumO t b : Nat) : Int) ∧ VB w.heap.size w3 wr ∧ Bk wr w3.heap.size 29 (isV t b [] 0)) (fun _ i _ => 256 - (intOf i).toNat)
  case atStart => exact ⟨0, by omega, rfl, rfl, hv0, hbk0⟩
  case round =>
    obtain ⟨b, hb, rfl, rfl, hv, hbk⟩ := hrel
    have hso := sumO_le t b
    rw [Hn1.out] at hso
    obtain ⟨sj, hsj⟩ : ∃ s, sumO t b = s := ⟨_, rfl⟩
    rw [hsj] at hso ⊢
    have Hsj := Lib.hid hsj
    have Htr := Lib.hid (Ht.out.vis hv.1)
    have Hv := Lib.hid hv
    have Hbk := Lib.hid hbk
    clear hsj hv hbk hbk0 hv0
    by_cases hlt : b < 256
    · have e1 : IntKind.u8.wrap (b : Int) = (b : Int) := by rw [IntKind.wrap_u8]; omega
      obtain ⟨ch, hch⟩ := byte_ex (b : Int) (by omega) (by omega)
      have hcn : ch.toNat = b := by omega
      have hsy : symB [ch] = [b + 1] := by simp [symB]; omega
      have hpl := places_len t [ch]
      rw [hsy] at hpl
      have hsn : sumO t (b + 1) = sj + (placesT t [ch]).length := by
        show sumO t b + occ (symL t) [b + 1] = _
        rw [Hsj.out, hpl]
      have hple := sumO_le t (b + 1)
      rw [hsn, Hn1.out] at hple
      obtain ⟨ps, hps⟩ : ∃ x, placesT t [ch] = x := ⟨_, rfl⟩
      obtain ⟨k2, hk2⟩ : ∃ x, ps.length = x := ⟨_, rfl⟩
      rw [hps, hk2] at hsn hple
      have hsj60 : sj ≤ 60 := by have := Ht60.out; omega
      have Hsn := Lib.hid hsn
      have Hch := Lib.hid hch
      have Hcn := Lib.hid hcn
      have Hps := Lib.hid hps
      have Hk2 := Lib.hid hk2
      have Hple := Lib.hid hple
      clear hch hsy hsn hpl hcn hps hk2 hple
      go_wp2_with fail
      have hp := parts_one wr #[.int .u8 (b : Int)] (0, 0) [ch] 1 (by simp [bv, Hch.out]) rfl
      have hbp : Below wr.heap.size wr ((wr.alloc (.cells #[.int .u8 (b : Int)] 5)).alloc (.cells #[.slice (some ⟨wr.heap.size, 0, none⟩) 1 1] 23)) := ((Below.refl _ _).alloc (Nat.le_refl _) _).alloc (by simp) _
      refine (All_any w.heap.size gl x1 t _ 1 1 (wr.heap.size + 2) [(⟨some ⟨wr.heap.size, 0, none⟩, 1, 1, [ch]⟩ : Sl)] [ch] rfl _ (Htr.out.vis (Vis.of_below hbp)) hp.1 hp.2 (by simp) (by omega) (by simp)).mono ?_
      rintro e w5 ⟨A5, c5, rfl, hm5, hv5⟩
      rw [Hps.out, Hk2.out] at hm5 ⊢
      have hv6 := (VisK.of_below (F := fun b => w.heap.size ≤ b) hbp).trans hv5
      have hbk5 := hv6.1.bk Hbk.out (by decide) (by decide)
      rw [isV_start t b [] ps] at hbk5
      have hv7 := Hv.out.trans hv6
      have Hm5 := Lib.hid hm5
      have Hbk5 := Lib.hid hbk5
      have Hv7 := Lib.hid hv7
      clear hp hbp hv5 hm5 hbk5 hv6 hv7
      obtain ⟨B5, hB5⟩ : ∃ x, x = ((wr.alloc (.cells #[.int .u8 (b : Int)] 5)).alloc (.cells #[.slice (some ⟨wr.heap.size, 0, none⟩) 1 1] 23)).heap.size := ⟨_, rfl⟩
      rw [← hB5] at Hm5
      clear hB5 e1
      have d256 : decide (b < 256) = true := decide_eq_true hlt
      go_wp2_with fail
      go_loopw [11, 14] (fun s i w8 => ∃ j : Nat, j ≤ k2 ∧ i = .int .i64 (j : Int) ∧ s = .int .i64 ((sj + j : Nat) : Int) ∧ VB w.heap.size w3 w8 ∧ Bk w8 w3.heap.size 29 (isV t b ps j) ∧ Made w8 B5 3 1 A5 k2 c5 (ps.map sv)) (fun _ i _ => k2 - (intOf i).toNat)
      case atStart => exact ⟨0, by omega, rfl, by first | rfl | simp, Hv7.out, Hbk5.out, Hm5.out⟩
      case round =>
        obtain ⟨j, hj, rfl, rfl, hv8, hbk8, hm8⟩ := hrel
        have hple := Hple.out
        have h60 := Ht60.out
        by_cases hlj : j < k2
        · obtain ⟨x, hx⟩ : ∃ x, ps[j]? = some x := ⟨ps[j]'(by rw [Hk2.out]; exact hlj), List.getElem?_eq_getElem (by rw [Hk2.out]; exact hlj)⟩
          have hmem : x ∈ placesT t [ch] := by rw [Hps.out]; exact List.mem_of_getElem? hx
          have htx := one_at.1 hmem
          have hxn : x < n1 := by rw [← Hn1.out]; exact (List.getElem?_eq_some_iff.1 htx).1
          have hnot := isB_not Hcn.out (j := j) (by rw [Hps.out]; exact hx)
          rw [Hps.out] at hnot
          have hx60 : x < 60 := by omega
          obtain ⟨b5, o5, rfl, _, _⟩ := hm8.rd.2 (by omega)
          have d1 := hm8.rd.cellOf (sv_at hx)
          have d2 : wr.cell? ⟨w3.heap.size, x, none⟩ = some (.bool false) := by rw [hbk8.cell x, isV_get _ _ _ _ hx60, hnot]
          have hm1r := hv8.1.made Hm1'.out (by decide) (by decide)
          obtain ⟨b1, o1, rfl, _, _⟩ := hm1r.rd.2 (by omega)
          have d3 : wr.cell? ⟨b1, o1 + x, none⟩ = some (.int .u8 (b : Int)) := by
            have := hm1r.rd.cellOf (j := x) (u := bv ch) (by rw [List.getElem?_map, htx]; rfl)
            rw [this]
            unfold bv
            rw [Hch.out]
          have hfz := hbk8.frozen x
          have hgw := hbk8.lt
          have g1 : ¬ n1 ≤ x := by omega
          have g2 : decide (n1 ≤ x) = false := decide_eq_false g1
          have e3 : IntKind.i64.wrap (b : Int) = (b : Int) := by rw [IntKind.wrap_i64]; omega
          have hv9 := VB.fresh (p := ⟨w3.heap.size, x, none⟩) hv8 (Nat.le_refl _) (.bool true)
          have hbk9 := hbk8.set x (.bool true)
          rw [isV_set hx] at hbk9
          have hm9 : Made (wr.setCell ⟨w3.heap.size, x, none⟩ (.bool true)) B5 3 1 (some ⟨b5, o5, none⟩) k2 c5 (ps.map sv) := made_same hm8 fun b cs hb => hb.far (p := ⟨w3.heap.size, x, none⟩) (Bk.ne hb hbk8 (by decide)) _
          have Hv9 := Lib.hid hv9
          have Hbk9 := Lib.hid hbk9
          have Hm9 := Lib.hid hm9
          clear hv8 hbk8 hm8 hmem htx hnot hm1r hv9 hbk9 hm9 hx
          go_wp2_with fail
          go_roundw
          case rel => exact ⟨j + 1, by omega, by go_num, by go_num, Hv9.out, Hbk9.out, Hm9.out⟩
          case measure => simp [intOf]; omega
        · obtain rfl : j = k2 := by omega
          have hbk9 := hbk8
          rw [← Hps.out, isV_next Hcn.out (by rw [Hps.out]; exact Hk2.out)] at hbk9
          have Hbk9 := Lib.hid hbk9
          have Hv9 := Lib.hid hv8
          clear hbk8 hbk9 hv8 hm8
          go_wp2_with fail
          go_roundw
          case rel => exact ⟨b + 1, by omega, by go_num, by rw [Hsn.out], Hv9.out, Hbk9.out⟩
          case measure => simp [intOf]; omega
    · obtain rfl : b = 256 := by omega
      have hall := sumO_all t
      rw [Hsj.out, Hn1.out] at hall
      obtain rfl : n1 = sj := hall.symm
      have hbW := Hb3.out.trans (VB.to_below Hv.out Hb3.out.size)
      have HbW := Lib.hid hbW
      clear hbW
      go_wp2_with fail
      refine (Told14_any wr).mono ?_
      rintro e w8 ⟨rfl, hb8⟩
      have hb9 := HbW.out.trans (hb8.mono HbW.out.size)
      go_wp2_with fail
      go_ret
      exact ⟨by simp, hb9⟩
end Go.Proofs.YtmgiljicjjcjlaaGreat
