/- The walk of run.All: it lays the symbols into new memory. No conditions. -/
import Derived.Test.YthcoldomeedbnaaRunOf
namespace Go.Proofs.Ythcoldomeedbnaa
open Go.RowKit
set_option linter.unusedVariables false
/-- Runs as they may come in: any number. -/
def run2Cell (x : Int × Int) : List Value := [iv x.1, iv x.2]
def run2Cells (r : List (Int × Int)) : List Value := r.flatMap run2Cell
theorem run2Cells_cast (r : List (Int × Nat)) : run2Cells (castRuns r) = runCells r := by
  simp [run2Cells, castRuns, runCells, List.flatMap_map]
  rfl
theorem run2Cells_len (r : List (Int × Int)) : (run2Cells r).length = r.length * 2 := by
  induction r with
  | nil => rfl
  | cons a r ih =>
    have e : run2Cells (a :: r) = run2Cell a ++ run2Cells r := by simp [run2Cells]
    rw [e, List.length_append, ih, List.length_cons]
    simp [run2Cell]; omega
theorem run2Cells_get (r : List (Int × Int)) (i j : Nat) (x : Int × Int) (h : r[i]? = some x) (hj : j < 2) : (run2Cells r)[i * 2 + j]? = (run2Cell x)[j]? := by
  induction r generalizing i with
  | nil => simp at h
  | cons a r ih =>
    have e : run2Cells (a :: r) = run2Cell a ++ run2Cells r := by simp [run2Cells]
    have hl : (run2Cell a).length = 2 := rfl
    rcases i with _ | i
    · simp at h
      subst h
      rw [e, Nat.zero_mul, Nat.zero_add, List.getElem?_append_left (by omega)]
    · simp only [List.getElem?_cons_succ] at h
      rw [e, List.getElem?_append_right (by omega), hl, show (i + 1) * 2 + j - 2 = i * 2 + j by omega]
      exact ih i h
theorem int_info : (Try.prog.info? 3).map (fun i => (i.zero, i.size, i.bytes)) = some (some (.int .i64 0), 1, 8) := by kernel_rfl

set_option maxRecDepth 100000 in
set_option maxHeartbeats 2000000 in
theorem RunAll_own (A : Option Addr) (m c B : Nat) (r : List (Int × Int)) (w : World) (hr : Rd w B 2 A m (run2Cells r)) (hB : B ≤ w.heap.size) (hm : m ≤ 1099511627776) :
    Calls Try.prog 42 #[.slice A m c] w fun e w' => ∃ v, e = .returned v ∧ w'.ownsRow w.heap.size 3 1 v (allRuns r).length ((allRuns r).map iv) ∧ Below w.heap.size w w' := by
  obtain ⟨i0, hi0, hz0, hz1, hz2⟩ := info_parts int_info
  have hll : r.length = m := by have := hr.1; rw [run2Cells_len] at this; omega
  have Hll := Lib.hid hll
  have Hr := Lib.hid (hr.mono hB)
  clear hr hll
  go_enter Try.func42, Try.ntmps42
  go_wp2
  go_loopw [3, 8] (fun v i wr => ∃ k : Nat, k ≤ m ∧ i = .int .i64 k ∧ wr.ownsRow w.heap.size 3 1 v (allRuns (r.take k)).length ((allRuns (r.take k)).map iv) ∧ Below w.heap.size w wr) (fun _ i _ => m - (intOf i).toNat)
  case atStart => exact ⟨0, Nat.zero_le _, rfl, World.ownsRow_nil _ _ _ _, Below.refl _ _⟩
  case round =>
    obtain ⟨k, hk, rfl, hown, hb⟩ := hrel
    have hsz := hb.size
    by_cases hlt : k < m
    · obtain ⟨x, hx⟩ : ∃ x, r[k]? = some x := ⟨r[k]'(by have := Hll.out; omega), List.getElem?_eq_getElem (by have := Hll.out; omega)⟩
      obtain ⟨b, off, rfl, hbl, hc⟩ := (Hr.out.below hb).2 (by omega)
      have c0 : wr.cell? ⟨b, off + k * 2, none⟩ = some (.int .i64 x.1) := hc (k * 2 + 0) _ ((run2Cells_get r k 0 x hx (by omega)).trans rfl)
      have c1 : wr.cell? ⟨b, off + k * 2 + 1, none⟩ = some (.int .i64 x.2) := by rw [Nat.add_assoc]; exact hc (k * 2 + 1) _ ((run2Cells_get r k 1 x hx (by omega)).trans rfl)
      have hnext := allRuns_snoc r k x hx
      have hlen := allRuns_len (r.take k)
      generalize allRuns (r.take k) = o at *
      obtain ⟨q, hq⟩ : ∃ q, o.length = q := ⟨_, rfl⟩
      rw [hq] at hown hlen
      obtain ⟨A', c', rfl, hm3⟩ := made_of_own hown
      obtain ⟨s, n⟩ := x
      simp only at c0 c1
      have hst : allStep o (s, n) = o ++ List.replicate (allMore n q) s := by rw [← hq]; rfl
      rw [hst] at hnext
      obtain ⟨t, ht⟩ : ∃ t, allMore n q = t := ⟨_, rfl⟩
      have hta : (t : Int) ≤ max (min n (1000000 - (q : Int))) 0 := by rw [← ht]; unfold allMore; omega
      have htb : max (min n (1000000 - (q : Int))) 0 ≤ (t : Int) := by rw [← ht]; unfold allMore; omega
      have htq : q + t ≤ 1000000 := by rw [← ht]; unfold allMore; omega
      rw [ht] at hnext
      have Hnext := Lib.hid hnext
      have Hq := Lib.hid hq
      have Hown := Lib.hid hown
      clear hnext hc hx hm3 hst ht hq hown
      go_wp2
      all_goals
        obtain ⟨wo, hwo⟩ : ∃ wo : World, wo = wr.alloc (.cells #[.int .i64 s, .int .i64 n] 57) := ⟨_, rfl⟩
        have hown0 : wo.ownsRow w.heap.size 3 1 (.slice A' q c') q (o.map iv) := by rw [hwo]; exact Hown.out.alloc _
        have hb0 : Below w.heap.size w wo := by rw [hwo]; exact hb.alloc hsz _
        have hbk : Bk wo wr.heap.size 57 #[.int .i64 s, .int .i64 n] := by rw [hwo]; exact Bk.new wr _ _
        rw [← hwo]
        obtain ⟨gs, hgs⟩ : ∃ gs, gs = wr.heap.size := ⟨_, rfl⟩
        rw [← hgs] at hbk ⊢
        clear hwo hgs
        go_loopw [3, 19] (fun v i wx => ∃ j : Nat, j ≤ t ∧ i = .int .i64 j ∧ wx.ownsRow w.heap.size 3 1 v (q + j) ((o ++ List.replicate j s).map iv) ∧ Below w.heap.size w wx ∧ Bk wx gs 57 #[.int .i64 s, .int .i64 n]) (fun _ i _ => t - (intOf i).toNat)
        case atStart => exact ⟨0, Nat.zero_le _, rfl, by simpa using hown0, hb0, hbk⟩
        case round =>
          obtain ⟨j, hj, rfl, hown1, hb1, hbk1⟩ := hrel
          have hsz1 := hb1.size
          have c3 : wr.cell? ⟨gs, 0, none⟩ = some (.int .i64 s) := hbk1.cell 0
          have hgl := hbk1.lt
          by_cases hjt : j < t
          · go_wp2_with (at_builtin; refine wpList_push _ rfl (.tmp 21) (.tmp 24) _ rfl w.heap.size 3 i0 (.int .i64 0) 1 8 Try.underlying52 hi0 hz0 hz1 hz2 rfl (by decide) u3 (q + j) _ rfl hown1 rfl rfl (by simp [Value.oneCell']) (by unfold maxLen; omega) (by omega) hsz1 ?_; intro v2 w2 hown2 hg2 hs2 hat2)
            all_goals
              have hb2 := below_grown hb1 hown1 hg2 hsz1
              have hbk2 := hbk1.grown hg2 (own_bk_ne hown1 hbk1 (by decide))
              clear hg2 hat2
              refine ⟨⟨j + 1, by omega, by go_num, ?_, hb2, hbk2⟩, by simp [intOf]; omega⟩
              rw [List.replicate_succ', ← List.append_assoc, List.map_append]
              exact hown2
          · have hjt2 : j = t := by omega
            have hge : t ≤ j := by omega
            rw [hjt2] at hown1
            clear hjt2
            go_wp2
            all_goals
              refine ⟨⟨k + 1, by omega, by go_num, ?_, hb1⟩, by simp [intOf]; omega⟩
              rw [Hnext.out, List.length_append, List.length_replicate, Hq.out]
              exact hown1
    · have hkm : k = m := by omega
      have htk : r.take k = r := List.take_of_length_le (by have := Hll.out; omega)
      have hge : m ≤ k := by omega
      rw [htk] at hown
      clear hkm htk
      go_wp2
      go_ret
      exact ⟨u3, rfl, hown, hb⟩
theorem RunAll_is (A : Option Addr) (m c B : Nat) (r : List (Int × Int)) (w : World) (l : List Int) (n : Nat) (h : allRuns r = l) (hn : l.length = n) (hr : Rd w B 2 A m (run2Cells r)) (hB : B ≤ w.heap.size) (hm : m ≤ 1099511627776) :
    Calls Try.prog 42 #[.slice A m c] w fun e w' => ∃ A' c', e = .returned (.slice A' n c') ∧ Made w' w.heap.size 3 1 A' n c' (l.map iv) ∧ Below w.heap.size w w' := by
  subst h
  subst hn
  refine (RunAll_own A m c B r w hr hB hm).mono fun e w' ⟨v, he, ho, hb⟩ => ?_
  obtain ⟨A', c', rfl, hm⟩ := made_of_own ho
  exact ⟨A', c', he, hm, hb⟩
end Go.Proofs.Ythcoldomeedbnaa
