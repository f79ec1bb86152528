/- The walks of scrimshawref6.Is, scrimshawref6.Good, scrimshawref16.Runs and scrimshawref16.AllRuns. Conditions: at most 2^40 symbols or runs. -/
import Derived.Test.YthcoldomeedbnaaRunSyms
namespace Go.Proofs.Ythcoldomeedbnaa
open Go.RowKit
set_option linter.unusedVariables false
set_option maxHeartbeats 400000 in
theorem refIs_any (x : Int) (w : World) :
    Calls Try.prog 50 #[.int .i64 x] w fun e w' => e = .returned (.bool (decide (symOk x))) ∧ w = w' := by
  have hd : ∀ b, b = decide (0 ≤ x ∧ x < 257) → Ending.returned (.bool b) = Ending.returned (.bool (decide (symOk x))) := fun b h => by rw [h]; rfl
  by_cases h0 : 0 ≤ x
  · by_cases h1 : x < 257
    · go_enter Try.func50, Try.ntmps50
      go_wp2
      go_ret
      exact ⟨hd _ (by simp [h0, h1]), rfl⟩
    · go_enter Try.func50, Try.ntmps50
      go_wp2
      go_ret
      exact ⟨hd _ (by simp [h0, h1]), rfl⟩
  · go_enter Try.func50, Try.ntmps50
    go_wp2
    go_ret
    exact ⟨hd _ (by simp; omega), rfl⟩
set_option maxRecDepth 100000 in
set_option maxHeartbeats 400000 in
theorem refGood_any (A : Option Addr) (m c B : Nat) (l : List Int) (w : World) (hr : Rd w B 1 A m (l.map iv)) (hm : m ≤ 1099511627776) :
    Calls Try.prog 48 #[.slice A m c] w fun e w' => e = .returned (.bool (decide (∀ x ∈ l, symOk x))) ∧ w = w' := by
  have hll : l.length = m := by simpa using hr.1
  have Hll := Lib.hid hll
  have Hr := Lib.hid hr
  clear hr hll
  go_enter Try.func48, Try.ntmps48
  go_wp2
  go_loop [3] (fun i => ∃ k : Nat, k ≤ m ∧ i = .int .i64 k ∧ ∀ x ∈ l.take k, symOk x) (fun i => m - (intOf i).toNat)
  case atStart => exact ⟨0, Nat.zero_le _, rfl, by simp⟩
  case round =>
    obtain ⟨k, hk, rfl, hok⟩ := hrel
    have Hok := Lib.hid hok
    clear hok
    by_cases hlt : k < m
    · obtain ⟨x, hx⟩ : ∃ x, l[k]? = some x := ⟨l[k]'(by have := Hll.out; omega), List.getElem?_eq_getElem (by have := Hll.out; omega)⟩
      obtain ⟨b, off, u, rfl, hbl, hu, hc⟩ := Hr.out.get hlt
      rw [List.getElem?_map, hx] at hu
      simp at hu
      subst hu
      unfold iv at hc
      have Hx := Lib.hid hx
      clear hx
      by_cases hs : symOk x
      · go_wp2_with fail
        refine (refIs_any x _).mono ?_
        rintro e w' ⟨rfl, rfl⟩
        rw [show decide (symOk x) = true by simpa using hs]
        go_wp2
        go_round
        case rel =>
          refine ⟨k + 1, by omega, by go_num, ?_⟩
          have hkl := (List.getElem?_eq_some_iff.1 Hx.out).1
          rw [List.take_succ_eq_append_getElem hkl, (List.getElem?_eq_some_iff.1 Hx.out).2]
          intro y hy
          rcases List.mem_append.1 hy with hy | hy
          · exact Hok.out y hy
          · rw [List.mem_singleton.1 hy]; exact hs
        case measure => simp [intOf]; omega
      · go_wp2_with fail
        refine (refIs_any x _).mono ?_
        rintro e w' ⟨rfl, rfl⟩
        rw [show decide (symOk x) = false by simpa using hs]
        go_wp2
        go_ret
        refine ⟨ret_bool ?_, rfl⟩
        symm
        rw [decide_eq_false_iff_not]
        exact fun h => hs (h x (List.mem_of_getElem? Hx.out))
    · have hge : m ≤ k := by omega
      go_wp2
      go_ret
      refine ⟨ret_bool ?_, rfl⟩
      symm
      rw [decide_eq_true_iff]
      have := Hok.out
      rwa [List.take_of_length_le (by have := Hll.out; omega)] at this
theorem good_iff (l : List Int) : (∀ x ∈ l, symOk x) ↔ ∀ x ∈ runsOf l, symOk x.1 := by
  constructor
  · intro h x hx
    have h1 := (runsOf_ok l).1 x hx
    have h2 : x.1 ∈ expand (runsOf l) := List.mem_flatMap.2 ⟨x, hx, List.mem_replicate.2 ⟨by omega, rfl⟩⟩
    rw [expand_runs] at h2
    exact h _ h2
  · intro h x hx
    rw [← expand_runs l] at hx
    obtain ⟨y, hy, hxy⟩ := List.mem_flatMap.1 hx
    rw [(List.mem_replicate.1 hxy).2]
    exact h y hy
theorem run_infoR : (Try.prog.info? 60).map (fun i => (i.zero, i.size, i.bytes)) = some (some (.agg #[.int .i64 0, .int .i64 0]), 2, 16) := by kernel_rfl
set_option maxRecDepth 100000 in
set_option maxHeartbeats 2000000 in
theorem refRuns_own (A : Option Addr) (m c B : Nat) (l : List Int) (w : World) (hr : Rd w B 1 A m (l.map iv)) (hB : B ≤ w.heap.size) (hm : m ≤ 1099511627776) :
    Calls Try.prog 38 #[.slice A m c] w fun e w' => ∃ v, e = .returned v ∧ w'.ownsRow w.heap.size 60 2 v (runsOf l).length (runCells (runsOf l)) ∧ Below w.heap.size w w' := by
  obtain ⟨i0, hi0, hz0, hz1, hz2⟩ := info_parts run_infoR
  have hll : l.length = m := by simpa using hr.1
  have Hll := Lib.hid hll
  have Hr := Lib.hid (hr.mono hB)
  clear hr hll
  go_enter Try.func38, Try.ntmps38
  go_wp2
  go_loopw [3, 4] (fun v i wr => ∃ k : Nat, k ≤ m ∧ i = .int .i64 k ∧ wr.ownsRow w.heap.size 60 2 v (runsOf (l.take k)).length (runCells (runsOf (l.take k))) ∧ Below w.heap.size w wr) (fun _ i _ => m - (intOf i).toNat)
  case atStart => exact ⟨0, Nat.zero_le _, rfl, World.ownsRow_nil _ _ _ _, Below.refl _ _⟩
  case round =>
    obtain ⟨k, hk, rfl, hown, hb⟩ := hrel
    have hsz := hb.size
    by_cases hlt : k < m
    · obtain ⟨s, hs⟩ : ∃ s, l[k]? = some s := ⟨l[k]'(by have := Hll.out; omega), List.getElem?_eq_getElem (by have := Hll.out; omega)⟩
      obtain ⟨b, off, u, rfl, hbl, hu, hc⟩ := (Hr.out.below hb).get hlt
      rw [List.getElem?_map, hs] at hu
      simp at hu
      subst hu
      unfold iv at hc
      have hnext := runsOf_snoc l k s hs
      have hlen := runsOf_len (l.take k)
      rw [List.length_take] at hlen
      have hcnt : ∀ x ∈ runsOf (l.take k), x.2 ≤ m := fun x hx => by have := runsOf_mem _ x hx; rw [List.length_take] at this; omega
      generalize runsOf (l.take k) = r at *
      have Hnext := Lib.hid hnext
      clear hnext hs
      rcases List.eq_nil_or_concat r with rfl | ⟨q, ⟨x, n⟩, rfl⟩
      · obtain ⟨A', c', rfl, hm3⟩ := made_of_own hown
        have hlen0 : ([] : List (Int × Nat)).length = 0 := rfl
        rw [hlen0] at *
        clear hm3 hcnt
        go_wp2
        go_quiet (fail)
        obtain ⟨wq, hwq⟩ : ∃ wq, wr.drewN nq = wq := ⟨_, rfl⟩
        have hown2 : wq.ownsRow w.heap.size 60 2 (.slice A' 0 c') 0 (runCells []) := by rw [← hwq]; exact hown
        have hb2 : Below w.heap.size w wq := by rw [← hwq]; exact below_drewN hb _
        have hc2 : wq.cell? ⟨b, off + k, none⟩ = some (.int .i64 s) := by rw [← hwq]; exact hc
        have hsz2 := hb2.size
        rw [hwq]
        clear hwq hown hb hc hsz
        go_wp2_with (at_builtin; refine wpList_push _ rfl (.tmp 38) (.tmp 44) _ rfl w.heap.size 60 i0 _ 2 16 Try.underlying59 hi0 hz0 hz1 hz2 rfl (by decide) (.slice A' 0 c') 0 _ rfl hown2 rfl rfl (by simp [Value.oneCell']) (by unfold maxLen; omega) (by omega) hsz2 ?_; intro v2 w2 hown3 hg2 hs2 hat2)
        have hb3 := below_grown hb2 hown2 hg2 hsz2
        clear hg2 hat2
        go_roundw
        case rel =>
          refine ⟨k + 1, by omega, by go_num, ?_, hb3⟩
          rw [Hnext.out, runStep_nil]
          exact hown3
        case measure => simp [intOf]; omega
      · rw [List.concat_eq_append] at *
        obtain ⟨p, hp⟩ : ∃ p, q.length = p := ⟨_, rfl⟩
        have hl1 : (q ++ [(x, n)]).length = p + 1 := by simp [hp]
        rw [hl1] at hown hlen
        obtain ⟨g, cap, cur, rfl, hg0, hgb, hpc, hcm, _⟩ : ∃ g cap cur, u3 = .slice (some ⟨g, 0, none⟩) (p + 1) cap ∧ w.heap.size ≤ g ∧ wr.heap[g]? = some (.cells cur 60 (0, 0)) ∧ p + 1 ≤ cap ∧ cap ≤ maxLen ∧ True := by
          rcases hown.2 with ⟨_, h⟩ | ⟨g, cap, cur, h1, h2, h3, h4, h5, _⟩
          · omega
          · exact ⟨g, cap, cur, h1, h2, h3, h4, h5, trivial⟩
        have hx0 : (runCells (q ++ [(x, n)]))[p * 2]? = some (iv x) := by
          have := runCells_get (q ++ [(x, n)]) p 0 (x, n) (by rw [List.getElem?_append_right (by omega), hp]; simp) (by omega)
          simpa [runCell] using this
        have hx1 : (runCells (q ++ [(x, n)]))[p * 2 + 1]? = some (iv n) := by
          have := runCells_get (q ++ [(x, n)]) p 1 (x, n) (by rw [List.getElem?_append_right (by omega), hp]; simp) (by omega)
          simpa [runCell] using this
        have g0 : wr.cell? ⟨g, p * 2, none⟩ = some (.int .i64 x) := (hown.cellAt (p * 2) (by omega)).trans hx0
        have g1 : wr.cell? ⟨g, p * 2 + 1, none⟩ = some (.int .i64 (n : Int)) := (hown.cellAt (p * 2 + 1) (by omega)).trans hx1
        have f1 := hown.frozenAt (p * 2 + 1)
        have hnb : (n : Int) ≤ 1099511627776 := by have := hcnt (x, n) (by simp); simp only at this; omega
        obtain ⟨P1, hP1⟩ : ∃ P1, P1 = p + 1 := ⟨_, rfl⟩
        have hpp : (P1 : Int) - 1 = (p : Int) := by omega
        have hpos : 0 < P1 := by omega
        have hpos2 : (0 : Int) < (P1 : Int) := by omega
        have t4 : decide ((P1 : Int) > 0) = true := by rw [decide_eq_true_iff]; omega
        have t5 : p < P1 := by omega
        have Hp := Lib.hid hp
        rw [← hP1] at hown hlen hpc ⊢
        have HP1 := Lib.hid hP1
        clear hx0 hx1 hp hl1 hgb hcnt hP1
        by_cases hxs : x = s
        · have t1 : (x == s) = true := by rw [beq_iff_eq]; exact hxs
          have Hxs := Lib.hid hxs
          clear hxs
          go_wp2
          go_quiet (fail)
          go_wp2
          obtain ⟨hst, hgr⟩ := hown.stored (p * 2 + 1) (.int .i64 ((n : Int) + 1))
          refine ⟨⟨k + 1, by omega, by go_num, ?_, (below_drewN hb nq).setCell (p := ⟨g, p * 2 + 1, none⟩) hg0 _⟩, by simp [intOf]; omega⟩
          rw [Hnext.out, ← Hxs.out, runStep_same]
          have e1 : (q ++ [(x, n + 1)]).length = P1 := by simp [Hp.out, HP1.out]
          have e2 : (runCells (q ++ [(x, n)])).set (p * 2 + 1) (.int .i64 ((n : Int) + 1)) = runCells (q ++ [(x, n + 1)]) := by
            rw [runCells_append, runCells_append, List.set_append_right _ _ (by rw [runCells_len, Hp.out]; omega), runCells_len, Hp.out]
            congr 1
            rw [show p * 2 + 1 - p * 2 = 1 by omega]
            rfl
          rw [e1, ← e2]
          exact hst
        · have t1 : (x == s) = false := by rw [beq_eq_false_iff_ne]; exact hxs
          have Hxs := Lib.hid hxs
          clear hxs
          go_wp2
          go_quiet (fail)
          obtain ⟨wq, hwq⟩ : ∃ wq, wr.drewN nq = wq := ⟨_, rfl⟩
          have hown2 : wq.ownsRow w.heap.size 60 2 (.slice (some ⟨g, 0, none⟩) P1 cap) P1 (runCells (q ++ [(x, n)])) := by rw [← hwq]; exact hown
          have hb2 : Below w.heap.size w wq := by rw [← hwq]; exact below_drewN hb _
          have hc2 : wq.cell? ⟨b, off + k, none⟩ = some (.int .i64 s) := by rw [← hwq]; exact hc
          have hsz2 := hb2.size
          rw [hwq]
          clear hwq hown hb hc hsz g0 g1 f1
          go_wp2_with (at_builtin; refine wpList_push _ rfl (.tmp 38) (.tmp 44) _ rfl w.heap.size 60 i0 _ 2 16 Try.underlying59 hi0 hz0 hz1 hz2 rfl (by decide) (.slice (some ⟨g, 0, none⟩) P1 cap) P1 _ rfl hown2 rfl rfl (by simp [Value.oneCell']) (by unfold maxLen; omega) (by omega) hsz2 ?_; intro v2 w2 hown3 hg2 hs2 hat2)
          have hb3 := below_grown hb2 hown2 hg2 hsz2
          clear hg2 hat2
          go_roundw
          case rel =>
            refine ⟨k + 1, by omega, by go_num, ?_, hb3⟩
            rw [Hnext.out, runStep_other _ _ _ _ Hxs.out, runCells_append]
            have e1 : (q ++ [(x, n)] ++ [(s, 1)]).length = P1 + 1 := by simp [Hp.out, HP1.out]
            rw [e1]
            exact hown3
          case measure => simp [intOf]; omega
    · have hkm : k = m := by omega
      have htk : l.take k = l := List.take_of_length_le (by have := Hll.out; omega)
      have hge : m ≤ k := by omega
      rw [htk] at hown
      clear hkm htk
      go_wp2
      go_ret
      exact ⟨u3, rfl, hown, hb⟩
theorem refRuns_is (A : Option Addr) (m c B : Nat) (l : List Int) (w : World) (r : List (Int × Nat)) (n : Nat) (h : runsOf l = r) (hn : r.length = n) (hr : Rd w B 1 A m (l.map iv)) (hB : B ≤ w.heap.size) (hm : m ≤ 1099511627776) :
    Calls Try.prog 38 #[.slice A m c] w fun e w' => ∃ A' c', e = .returned (.slice A' n c') ∧ Made w' w.heap.size 60 2 A' n c' (runCells r) ∧ Below w.heap.size w w' := by
  subst h
  subst hn
  refine (refRuns_own A m c B l w hr hB hm).mono fun e w' ⟨v, he, ho, hb⟩ => ?_
  obtain ⟨A', c', rfl, hm⟩ := made_of_own ho
  exact ⟨A', c', he, hm, hb⟩
end Go.Proofs.Ythcoldomeedbnaa
