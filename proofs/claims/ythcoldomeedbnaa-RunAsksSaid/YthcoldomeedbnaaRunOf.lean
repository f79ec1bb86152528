/- The walks of run.Of and scrimshawref16.Runs: they lay the runs into new memory. Condition: at most 2^40 symbols. -/
import Derived.Test.YthcoldomeedbnaaNumLaws
import Derived.Test.YthcoldomeedbnaaRunPlain
import Derived.Laws.StructEq
import Derived.BigQuiet
import Derived.Deep.QuietTactic
namespace Go.Proofs.Ythcoldomeedbnaa
open Go.RowKit
set_option linter.unusedVariables false
/-- A run's two cells. -/
def runCell (x : Int × Nat) : List Value := [iv x.1, iv (x.2 : Int)]
def runCells (r : List (Int × Nat)) : List Value := r.flatMap runCell
theorem runCells_len (r : List (Int × Nat)) : (runCells r).length = r.length * 2 := by
  induction r with
  | nil => rfl
  | cons a r ih =>
    have e : runCells (a :: r) = runCell a ++ runCells r := by simp [runCells]
    rw [e, List.length_append, ih, List.length_cons]
    simp [runCell]; omega
theorem runCells_append (a b : List (Int × Nat)) : runCells (a ++ b) = runCells a ++ runCells b := by simp [runCells, List.flatMap_append]
theorem runCells_get (r : List (Int × Nat)) (i j : Nat) (x : Int × Nat) (h : r[i]? = some x) (hj : j < 2) : (runCells r)[i * 2 + j]? = (runCell x)[j]? := by
  induction r generalizing i with
  | nil => simp at h
  | cons a r ih =>
    have e : runCells (a :: r) = runCell a ++ runCells r := by simp [runCells]
    have hl : (runCell a).length = 2 := rfl
    rcases i with _ | i
    · simp at h
      subst h
      rw [e, Nat.zero_mul, Nat.zero_add, List.getElem?_append_left (by omega)]
    · simp only [List.getElem?_cons_succ] at h
      rw [e, List.getElem?_append_right (by omega), hl, show (i + 1) * 2 + j - 2 = i * 2 + j by omega]
      exact ih i h
theorem run_info : (Try.prog.info? 57).map (fun i => (i.zero, i.size, i.bytes)) = some (some (.agg #[.int .i64 0, .int .i64 0]), 2, 16) := by kernel_rfl

set_option maxRecDepth 100000 in
set_option maxHeartbeats 2000000 in
theorem Of_own (A : Option Addr) (m c B : Nat) (l : List Int) (w : World) (hr : Rd w B 1 A m (l.map iv)) (hB : B ≤ w.heap.size) (hm : m ≤ 1099511627776) :
    Calls Try.prog 34 #[.slice A m c] w fun e w' => ∃ v, e = .returned v ∧ w'.ownsRow w.heap.size 57 2 v (runsOf l).length (runCells (runsOf l)) ∧ Below w.heap.size w w' := by
  obtain ⟨i0, hi0, hz0, hz1, hz2⟩ := info_parts run_info
  have hll : l.length = m := by simpa using hr.1
  have Hll := Lib.hid hll
  have Hr := Lib.hid (hr.mono hB)
  clear hr hll
  go_enter Try.func34, Try.ntmps34
  go_wp2
  go_loopw [3, 9] (fun v i wr => ∃ k : Nat, k ≤ m ∧ i = .int .i64 k ∧ wr.ownsRow w.heap.size 57 2 v (runsOf (l.take k)).length (runCells (runsOf (l.take k))) ∧ Below w.heap.size w wr) (fun _ i _ => m - (intOf i).toNat)
  case atStart => exact ⟨0, Nat.zero_le _, rfl, World.ownsRow_nil _ _ _ _, Below.refl _ _⟩
  case round =>
    obtain ⟨k, hk, rfl, hown, hb⟩ := hrel
    have hsz := hb.size
    by_cases hlt : k < m
    · obtain ⟨s, hs⟩ : ∃ s, l[k]? = some s := ⟨l[k]'(by have := Hll.out; omega), List.getElem?_eq_getElem (by have := Hll.out; omega)⟩
      obtain ⟨b, off, u, rfl, hbl, hu, hc⟩ := (Hr.out.below hb).get hlt
      rw [List.getElem?_map, hs] at hu
      simp at hu
      subst hu
      unfold iv at hc
      have hnext := runsOf_snoc l k s hs
      have hlen := runsOf_len (l.take k)
      rw [List.length_take] at hlen
      have hcnt : ∀ x ∈ runsOf (l.take k), x.2 ≤ m := fun x hx => by have := runsOf_mem _ x hx; rw [List.length_take] at this; omega
      generalize runsOf (l.take k) = r at *
      have Hnext := Lib.hid hnext
      clear hnext hs
      rcases List.eq_nil_or_concat r with rfl | ⟨q, ⟨x, n⟩, rfl⟩
      · obtain ⟨A', c', rfl, hm3⟩ := made_of_own hown
        have hlen0 : ([] : List (Int × Nat)).length = 0 := rfl
        rw [hlen0] at *
        clear hm3 hcnt
        go_wp2_with (at_builtin; refine wpList_push _ rfl (.tmp 36) (.tmp 39) _ rfl w.heap.size 57 i0 _ 2 16 Try.underlying54 hi0 hz0 hz1 hz2 rfl (by decide) (.slice A' 0 c') 0 _ rfl hown rfl rfl (by simp [Value.oneCell']) (by unfold maxLen; omega) (by omega) hsz ?_; intro v2 w2 hown2 hg2 hs2 hat2)
        have hb2 := below_grown hb hown hg2 hsz
        clear hg2 hat2
        go_roundw
        case rel =>
          refine ⟨k + 1, by omega, by go_num, ?_, hb2⟩
          rw [Hnext.out, runStep_nil]
          exact hown2
        case measure => simp [intOf]; omega
      · rw [List.concat_eq_append] at *
        obtain ⟨p, hp⟩ : ∃ p, q.length = p := ⟨_, rfl⟩
        have hl1 : (q ++ [(x, n)]).length = p + 1 := by simp [hp]
        rw [hl1] at hown hlen
        obtain ⟨g, cap, cur, rfl, hg0, hgb, hpc, hcm, _⟩ : ∃ g cap cur, u3 = .slice (some ⟨g, 0, none⟩) (p + 1) cap ∧ w.heap.size ≤ g ∧ wr.heap[g]? = some (.cells cur 57 (0, 0)) ∧ p + 1 ≤ cap ∧ cap ≤ maxLen ∧ True := by
          rcases hown.2 with ⟨_, h⟩ | ⟨g, cap, cur, h1, h2, h3, h4, h5, _⟩
          · omega
          · exact ⟨g, cap, cur, h1, h2, h3, h4, h5, trivial⟩
        have hx0 : (runCells (q ++ [(x, n)]))[p * 2]? = some (iv x) := by
          have := runCells_get (q ++ [(x, n)]) p 0 (x, n) (by rw [List.getElem?_append_right (by omega), hp]; simp) (by omega)
          simpa [runCell] using this
        have hx1 : (runCells (q ++ [(x, n)]))[p * 2 + 1]? = some (iv n) := by
          have := runCells_get (q ++ [(x, n)]) p 1 (x, n) (by rw [List.getElem?_append_right (by omega), hp]; simp) (by omega)
          simpa [runCell] using this
        have g0 : wr.cell? ⟨g, p * 2, none⟩ = some (.int .i64 x) := (hown.cellAt (p * 2) (by omega)).trans hx0
        have g1 : wr.cell? ⟨g, p * 2 + 1, none⟩ = some (.int .i64 (n : Int)) := (hown.cellAt (p * 2 + 1) (by omega)).trans hx1
        have f1 := hown.frozenAt (p * 2 + 1)
        have hnb : (n : Int) ≤ 1099511627776 := by have := hcnt (x, n) (by simp); simp only at this; omega
        have hpp : ((p + 1 : Nat) : Int) - 1 = (p : Int) := by omega
        have Hp := Lib.hid hp
        clear hx0 hx1 hp hl1 hgb hcnt
        by_cases hxs : x = s
        · have t1 : (x == s) = true := by rw [beq_iff_eq]; exact hxs
          have Hxs := Lib.hid hxs
          clear hxs
          go_wp2
          obtain ⟨hst, hgr⟩ := hown.stored (p * 2 + 1) (.int .i64 ((n : Int) + 1))
          refine ⟨⟨k + 1, by omega, by go_num, ?_, hb.setCell (p := ⟨g, p * 2 + 1, none⟩) hg0 _⟩, by simp [intOf]; omega⟩
          rw [Hnext.out, ← Hxs.out, runStep_same]
          have e1 : (q ++ [(x, n + 1)]).length = p + 1 := by simp [Hp.out]
          have e2 : (runCells (q ++ [(x, n)])).set (p * 2 + 1) (.int .i64 ((n : Int) + 1)) = runCells (q ++ [(x, n + 1)]) := by
            rw [runCells_append, runCells_append, List.set_append_right _ _ (by rw [runCells_len, Hp.out]; omega), runCells_len, Hp.out]
            congr 1
            rw [show p * 2 + 1 - p * 2 = 1 by omega]
            rfl
          rw [e1, ← e2]
          exact hst
        · have t1 : (x == s) = false := by rw [beq_eq_false_iff_ne]; exact hxs
          have Hxs := Lib.hid hxs
          clear hxs
          go_wp2_with (at_builtin; refine wpList_push _ rfl (.tmp 36) (.tmp 39) _ rfl w.heap.size 57 i0 _ 2 16 Try.underlying54 hi0 hz0 hz1 hz2 rfl (by decide) (.slice (some ⟨g, 0, none⟩) (p + 1) cap) (p + 1) _ rfl hown rfl rfl (by simp [Value.oneCell']) (by unfold maxLen; omega) (by omega) hsz ?_; intro v2 w2 hown2 hg2 hs2 hat2)
          have hb2 := below_grown hb hown hg2 hsz
          clear hg2 hat2
          go_roundw
          case rel =>
            refine ⟨k + 1, by omega, by go_num, ?_, hb2⟩
            rw [Hnext.out, runStep_other _ _ _ _ Hxs.out, runCells_append]
            have e1 : (q ++ [(x, n)] ++ [(s, 1)]).length = p + 1 + 1 := by simp [Hp.out]
            rw [e1]
            exact hown2
          case measure => simp [intOf]; omega
    · have hkm : k = m := by omega
      have htk : l.take k = l := List.take_of_length_le (by have := Hll.out; omega)
      have hge : m ≤ k := by omega
      rw [htk] at hown
      clear hkm htk
      go_wp2
      go_ret
      exact ⟨u3, rfl, hown, hb⟩
theorem RunOf_is (A : Option Addr) (m c B : Nat) (l : List Int) (w : World) (r : List (Int × Nat)) (n : Nat) (h : runsOf l = r) (hn : r.length = n) (hr : Rd w B 1 A m (l.map iv)) (hB : B ≤ w.heap.size) (hm : m ≤ 1099511627776) :
    Calls Try.prog 34 #[.slice A m c] w fun e w' => ∃ A' c', e = .returned (.slice A' n c') ∧ Made w' w.heap.size 57 2 A' n c' (runCells r) ∧ Below w.heap.size w w' := by
  subst h
  subst hn
  refine (Of_own A m c B l w hr hB hm).mono fun e w' ⟨v, he, ho, hb⟩ => ?_
  obtain ⟨A', c', rfl, hm⟩ := made_of_own ho
  exact ⟨A', c', he, hm, hb⟩
end Go.Proofs.Ythcoldomeedbnaa
