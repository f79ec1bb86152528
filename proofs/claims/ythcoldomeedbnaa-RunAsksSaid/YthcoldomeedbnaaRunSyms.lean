/- The walk of scrimshawlaw18.Syms, and plain laws of runs. No conditions. -/
import Derived.Test.YthcoldomeedbnaaRunLaws
namespace Go.Proofs.Ythcoldomeedbnaa
open Go.RowKit
set_option linter.unusedVariables false
set_option maxRecDepth 100000 in
set_option maxHeartbeats 1000000 in
theorem Syms_any (A : Option Addr) (m0 c0 : Nat) (l : List Int) (w : World) (hr : Rd w w.heap.size 1 A m0 (l.map iv)) (hm0 : m0 ≤ maxLen) :
    Calls Try.prog 33 #[.slice A m0 c0, .int .i64 200] w fun e w' => ∃ (m : List Int) (n : Nat) (A' : Option Addr) (c' : Nat), e = .returned (.slice A' n c') ∧ m.length = n ∧ n ≤ 200 ∧ (∀ x ∈ m, symOk x) ∧ Made w' w.heap.size 3 1 A' n c' (m.map iv) ∧ Below w.heap.size w w' := by
  unfold maxLen at hm0
  obtain ⟨i0, hi0, hz0, hz1, hz2⟩ := info_parts int_info
  have hll : l.length = m0 := by simpa using hr.1
  have Hll := Lib.hid hll
  have Hr := Lib.hid hr
  clear hr hll
  go_enter Try.func33, Try.ntmps33
  go_wp2
  go_loopw [5, 6] (fun v i wr => ∃ (k : Nat) (m : List Int) (n : Nat), k ≤ m0 ∧ i = .int .i64 k ∧ m.length = n ∧ n ≤ 200 ∧ (∀ x ∈ m, symOk x) ∧ wr.ownsRow w.heap.size 3 1 v n (m.map iv) ∧ Below w.heap.size w wr) (fun _ i _ => m0 - (intOf i).toNat)
  case atStart => exact ⟨0, [], 0, Nat.zero_le _, rfl, rfl, by omega, by simp, World.ownsRow_nil _ _ _ _, Below.refl _ _⟩
  case round =>
    obtain ⟨k, m, n, hk, rfl, hmn, hn, hsy, hown, hb⟩ := hrel
    have hsz := hb.size
    by_cases hlt : k < m0
    · obtain ⟨s, hs⟩ : ∃ s, l[k]? = some s := ⟨l[k]'(by have := Hll.out; omega), List.getElem?_eq_getElem (by have := Hll.out; omega)⟩
      obtain ⟨b, off, u, rfl, hbl, hu, hc⟩ := (Hr.out.below hb).get hlt
      rw [List.getElem?_map, hs] at hu
      simp at hu
      subst hu
      unfold iv at hc
      have hc0 : w.cell? ⟨b, off + k, none⟩ = some (.int .i64 s) := (hb.cell hbl).symm.trans hc
      have Hhc := Lib.hid hc0
      obtain ⟨c8, hc8, hc81⟩ := umod_ex ((IntKind.u64.wrap s).tdiv 8) 9 (by omega)
      obtain ⟨d8, hd8, hd81⟩ := umod_ex s 8 (by omega)
      have Hd8 := Lib.hid hd8
      clear hc0 hs hd8
      go_wp2
      go_loopw [5, 7] (fun v i wr => ∃ (m : List Int) (n : Nat) (c : Nat), c ≤ 9 ∧ i = .int .u64 c ∧ m.length = n ∧ n ≤ 200 ∧ (∀ x ∈ m, symOk x) ∧ wr.ownsRow w.heap.size 3 1 v n (m.map iv) ∧ Below w.heap.size w wr) (fun _ i _ => (intOf i).toNat)
      case atStart => exact ⟨m, n, 1 + c8, by omega, int_eq (by omega), hmn, hn, hsy, hown, hb⟩
      case round =>
        clear hc hown hb hsz hsy hmn hn
        obtain ⟨m, n, c, hc9, rfl, hmn, hn, hsy, hown, hb⟩ := hrel
        have hsz := hb.size
        have hcell : _ = _ := (hb.cell (p := ⟨b, off + k, none⟩) hbl).trans Hhc.out
        have hd8 := Hd8.out
        clear hc8 hc81
        obtain ⟨A1, c1, rfl, hm1⟩ := made_of_own hown
        clear hm1
        by_cases hg1 : 0 < c
        · by_cases hg2 : n < 200
          · go_wp2_with (at_builtin; refine wpList_push _ rfl (.tmp 32) (.tmp 42) _ rfl w.heap.size 3 i0 (.int .i64 0) 1 8 Try.underlying52 hi0 hz0 hz1 hz2 rfl (by decide) (.slice A1 n c1) n _ rfl hown rfl rfl (by simp [Value.oneCell']) (by unfold maxLen; omega) (by omega) hsz ?_; intro v2 w2 hown2 hg2 hs2 hat2)
            have hb3 := below_grown hb hown hg2 hsz
            clear hg2 hat2
            go_roundw
            case rel =>
              refine ⟨m ++ [(d8 : Int) * 37 % 257], n + 1, c - 1, by omega, int_eq (by omega), by simp [hmn], by omega, ?_, ?_, hb3⟩
              · intro x hx
                rcases List.mem_append.1 hx with hx | hx
                · exact hsy x hx
                · rw [List.mem_singleton.1 hx]
                  unfold symOk
                  omega
              · rw [List.map_append]
                exact hown2
            case measure => simp [intOf]; omega
          · have hg3 : 200 ≤ n := by omega
            go_wp2
            go_roundw
            case rel => exact ⟨k + 1, m, n, by omega, by go_num, hmn, hn, hsy, hown, hb⟩
            case measure => simp [intOf]; omega
        · have hg3 : c = 0 := by omega
          subst hg3
          go_wp2
          go_roundw
          case rel => exact ⟨k + 1, m, n, by omega, by go_num, hmn, hn, hsy, hown, hb⟩
          case measure => simp [intOf]; omega
    · have hge : m0 ≤ k := by omega
      obtain ⟨A1, c1, rfl, hm1⟩ := made_of_own hown
      go_wp2
      go_ret
      exact ⟨m, n, A1, c1, rfl, hmn, hn, hsy, hm1, hb⟩
/-- How many symbols of a list are other than the one ahead of them. -/
def newAt (m : List Int) (k : Nat) : Nat := (runsOf (m.take k)).length
theorem runs_last (m : List Int) (k : Nat) (x : Int) (h : m[k]? = some x) : ∃ q n, runsOf (m.take (k + 1)) = q ++ [(x, n)] := by
  rw [runsOf_snoc m k x h]
  rcases List.eq_nil_or_concat (runsOf (m.take k)) with h0 | ⟨q, ⟨y, n⟩, h0⟩
  · rw [h0, runStep_nil]; exact ⟨[], 1, rfl⟩
  · rw [h0, List.concat_eq_append]
    by_cases hy : y = x
    · subst hy; rw [runStep_same]; exact ⟨q, n + 1, rfl⟩
    · rw [runStep_other _ _ _ _ hy]; exact ⟨_, 1, rfl⟩
theorem newAt_same (m : List Int) (k : Nat) (x : Int) (h0 : m[k]? = some x) (h1 : m[k + 1]? = some x) : newAt m (k + 1 + 1) = newAt m (k + 1) := by
  obtain ⟨q, n, hq⟩ := runs_last m k x h0
  unfold newAt
  rw [runsOf_snoc m (k + 1) x h1, hq, runStep_same]
  simp
theorem newAt_other (m : List Int) (k : Nat) (x y : Int) (h0 : m[k]? = some x) (h1 : m[k + 1]? = some y) (hxy : x ≠ y) : newAt m (k + 1 + 1) = newAt m (k + 1) + 1 := by
  obtain ⟨q, n, hq⟩ := runs_last m k x h0
  unfold newAt
  rw [runsOf_snoc m (k + 1) y h1, hq, runStep_other _ _ _ _ hxy]
  simp
theorem newAt_first (m : List Int) (x : Int) (h0 : m[0]? = some x) : newAt m 1 = 1 := by
  unfold newAt
  rw [runsOf_snoc m 0 x h0]
  simp [runsOf, runStep_nil]
/-- The sum of runs' numbers. -/
def runSum (r : List (Int × Nat)) : Nat := (r.map (·.2)).sum
theorem runSum_snoc (r : List (Int × Nat)) (k : Nat) (x : Int × Nat) (h : r[k]? = some x) : runSum (r.take (k + 1)) = runSum (r.take k) + x.2 := by
  have hk : k < r.length := (List.getElem?_eq_some_iff.1 h).1
  unfold runSum
  rw [List.take_succ_eq_append_getElem hk, (List.getElem?_eq_some_iff.1 h).2]
  simp
theorem runSum_expand (r : List (Int × Nat)) : runSum r = (expand r).length := by
  unfold runSum
  induction r with
  | nil => rfl
  | cons x r ih =>
    have e : expand (x :: r) = List.replicate x.2 x.1 ++ expand r := by simp [expand]
    rw [e, List.map_cons, List.sum_cons, ih, List.length_append, List.length_replicate]
theorem runSum_runs (l : List Int) : runSum (runsOf l) = l.length := by rw [runSum_expand, expand_runs]
end Go.Proofs.Ythcoldomeedbnaa
