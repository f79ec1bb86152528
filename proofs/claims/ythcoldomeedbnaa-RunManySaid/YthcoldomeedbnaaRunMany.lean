/- The walk of the law RunMany. No conditions. -/
import Derived.Test.YthcoldomeedbnaaRunSyms
namespace Go.Proofs.Ythcoldomeedbnaa
open Go.RowKit
set_option linter.unusedVariables false
set_option maxRecDepth 100000 in
set_option maxHeartbeats 1000000 in
theorem walkRunMany (w : World) (A0 : Option Addr) (m0 c0 : Nat) (l : List Int) (hr0 : Rd w w.heap.size 1 A0 m0 (l.map iv)) (hbd : ∀ x ∈ l, -9223372036854775808 ≤ x ∧ x ≤ 9223372036854775807) (hmc0 : m0 ≤ c0) (hcl0 : c0 ≤ maxLen) :
    Calls Try.prog 12 #[.slice A0 m0 c0] w fun e w' => e = .returned (.bool true) ∧ Below w.heap.size w w' := by
  have Hr0 := Lib.hid hr0
  clear hr0
  go_enter Try.func12, Try.ntmps12
  go_wp2_with fail
  refine (Syms_any _ _ _ l _ Hr0.out (by omega)).mono ?_
  rintro e w1 ⟨m, n, A1, c1, rfl, hmn, hn, _, hm1, hb1⟩
  have hs1 := hb1.size
  have Hr1 := Lib.hid hm1.rd
  clear hm1 Hr0
  obtain ⟨r, hr⟩ : ∃ r, runsOf m = r := ⟨_, rfl⟩
  obtain ⟨q, hq⟩ : ∃ q, r.length = q := ⟨_, rfl⟩
  have hqn : q ≤ n := by rw [← hq, ← hr, ← hmn]; exact runsOf_len m
  have hsum : runSum r = n := by rw [← hr, runSum_runs, hmn]
  have hnew : newAt m n = q := by unfold newAt; rw [← hmn, List.take_length, hr, hq]
  have hnle : ∀ k, k ≤ n → newAt m k ≤ 200 := fun k hk => by unfold newAt; have := runsOf_len (m.take k); rw [List.length_take] at this; omega
  have hpart : ∀ k, runSum (r.take k) ≤ 200 := fun k => by
    have h1 : runSum (r.take k) + runSum (r.drop k) = runSum r := by unfold runSum; rw [← List.sum_append, ← List.map_append, List.take_append_drop]
    omega
  have Hr' := Lib.hid hr
  have Hq := Lib.hid hq
  have Hsum := Lib.hid hsum
  have Hnew := Lib.hid hnew
  have Hnle := Lib.hid hnle
  have Hpart := Lib.hid hpart
  have Hmn := Lib.hid hmn
  clear hr hq hsum hnew hnle hpart hmn
  go_wp2_with fail
  refine (RunOf_is _ _ _ _ m _ r q Hr'.out Hq.out Hr1.out (Nat.le_refl _) (by omega)).mono ?_
  rintro e w2 ⟨A2, c2, rfl, hm2, hb2⟩
  have hB2 := hb1.trans (hb2.mono hs1)
  have Hr2 := Lib.hid hm2.rd
  have Hr12 := Lib.hid (Hr1.out.below hb2 |>.mono hb2.size)
  have hs2 := hB2.size
  clear hm2 hb2 hb1 Hr1
  go_wp2_with fail
  go_loopw [5, 7] (fun v i wr => ∃ k : Nat, k ≤ n ∧ i = .int .i64 k ∧ v = .int .i64 (newAt m k) ∧ Below w.heap.size w wr ∧ Below w2.heap.size w2 wr) (fun _ i _ => n - (intOf i).toNat)
  case atStart => exact ⟨0, Nat.zero_le _, rfl, rfl, hB2, Below.refl _ _⟩
  case round =>
    obtain ⟨k, hk, rfl, rfl, hb, hc⟩ := hrel
    by_cases hlt : k < n
    · obtain ⟨x, hx⟩ : ∃ x, m[k]? = some x := ⟨m[k]'(by have := Hmn.out; omega), List.getElem?_eq_getElem (by have := Hmn.out; omega)⟩
      obtain ⟨b, off, rfl, hbl, hcell⟩ := (Hr12.out.below hc).2 (by omega)
      have d1 : wr.cell? ⟨b, off + k, none⟩ = some (.int .i64 x) := by
        have := hcell k _ (by rw [List.getElem?_map, hx]; rfl)
        exact this
      have hbound := Hnle.out k hk
      by_cases hk0 : k = 0
      · subst hk0
        have hnext := newAt_first m x hx
        have Hnext := Lib.hid hnext
        have h0 : newAt m 0 = 0 := by simp [newAt, runsOf]
        rw [h0]
        clear hnext hx hcell h0 hbound
        go_wp2
        go_quiet (fail)
        go_wp2
        go_roundw
        case rel => exact ⟨1, by omega, by go_num, by rw [Hnext.out]; go_num, below_drewN hb _, below_drewN hc _⟩
        case measure => simp [intOf]; omega
      · obtain ⟨j, hj⟩ : ∃ j, k = j + 1 := ⟨k - 1, by omega⟩
        have Hj := Lib.hid hj
        obtain ⟨y, hy⟩ : ∃ y, m[j]? = some y := ⟨m[j]'(by have := Hmn.out; omega), List.getElem?_eq_getElem (by have := Hmn.out; omega)⟩
        have d2 : wr.cell? ⟨b, off + j, none⟩ = some (.int .i64 y) := by
          have := hcell j _ (by rw [List.getElem?_map, hy]; rfl)
          exact this
        have hjj : (k : Int) - 1 = (j : Int) := by omega
        have hj0 : ((k : Int) == 0) = false := by rw [beq_eq_false_iff_ne]; omega
        have hj1 : 0 < k := by omega
        by_cases hxy : y = x
        · have hnext := newAt_same m j x (hxy ▸ hy) (hj ▸ hx)
          have ht : (x == y) = true := by rw [beq_iff_eq]; exact hxy.symm
          have Hnext := Lib.hid hnext
          rw [← hj] at Hnext
          clear hnext hx hy hcell hxy hj hk0
          go_wp2
          go_quiet (fail)
          go_wp2
          go_roundw
          case rel => exact ⟨k + 1, by omega, by go_num, by rw [Hnext.out], below_drewN hb _, below_drewN hc _⟩
          case measure => simp [intOf]; omega
        · have hnext := newAt_other m j y x hy (hj ▸ hx) hxy
          have ht : (x == y) = false := by rw [beq_eq_false_iff_ne]; exact fun h => hxy h.symm
          have Hnext := Lib.hid hnext
          rw [← hj] at Hnext
          clear hnext hx hy hcell hxy hj hk0
          go_wp2
          go_quiet (fail)
          go_wp2
          go_roundw
          case rel => exact ⟨k + 1, by omega, by go_num, by rw [Hnext.out]; go_num, below_drewN hb _, below_drewN hc _⟩
          case measure => simp [intOf]; omega
    · have hkn : k = n := by omega
      have hge : n ≤ k := by omega
      have hsz := hb.size
      rw [hkn, Hnew.out]
      have Hc := Lib.hid (Hr2.out.below hc)
      clear hkn
      go_wp2
      go_loopw [6, 8] (fun v i wx => ∃ j : Nat, j ≤ q ∧ i = .int .i64 j ∧ v = .int .i64 (runSum (r.take j)) ∧ wx = wr) (fun _ i _ => q - (intOf i).toNat)
      case atStart => exact ⟨0, Nat.zero_le _, rfl, by simp [runSum], rfl⟩
      case round =>
        obtain ⟨j, hj, rfl, rfl, hww⟩ := hrel
        subst hww
        have hbound := Hpart.out j
        by_cases hjq : j < q
        · obtain ⟨x, hx⟩ : ∃ x, r[j]? = some x := ⟨r[j]'(by have := Hq.out; omega), List.getElem?_eq_getElem (by have := Hq.out; omega)⟩
          have hnext := runSum_snoc r j x hx
          have hbound2 := Hpart.out (j + 1)
          rw [hnext] at hbound2
          obtain ⟨b, off, rfl, hbl, hcell⟩ := Hc.out.2 (by omega)
          obtain ⟨s, c⟩ := x
          have d1 : wr.cell? ⟨b, off + j * 2 + 1, none⟩ = some (.int .i64 (c : Int)) := by rw [Nat.add_assoc]; exact hcell (j * 2 + 1) _ ((runCells_get r j 1 _ hx (by omega)).trans rfl)
          have Hnext := Lib.hid hnext
          simp only at hbound2
          clear hcell hx hnext
          go_wp2
          go_roundw
          case rel => exact ⟨j + 1, by omega, by go_num, by rw [Hnext.out]; go_num, trivial⟩
          case measure => simp [intOf]; omega
        · have hjn : j = q := by omega
          have hge2 : q ≤ j := by omega
          have htk : r.take j = r := List.take_of_length_le (by have := Hq.out; omega)
          rw [htk, Hsum.out]
          clear hjn htk
          go_wp2_with fail
          refine (told18_any _).mono ?_
          rintro e w3 ⟨rfl, hb3⟩
          have hB3 := hb.trans (hb3.mono hsz)
          go_wp2_with fail
          go_ret
          exact ⟨ret_bool (by simp), hB3⟩
end Go.Proofs.Ythcoldomeedbnaa
