/- The walks of bytes.Clone, slices.Grow (of nil), slices.Concat, bytes.Equal, bytes.HasPrefix, slices.Equal of ints. Conditions: sizes of at most 2^40. -/
import Derived.Test.YtmebhlopmgfobaaLoose7
import Derived.Lib.AppendZeros
import Derived.Lib.LazyBuf
import Derived.BigQuiet
import Derived.Deep.QuietTactic
namespace Go.Proofs.Ytmebhlopmgfobaa
open Go.RowKit
set_option linter.unusedVariables false
set_option linter.unusedSimpArgs false
theorem u8_info : (Try.prog.info? 5).map (fun i => (i.zero, i.size, i.bytes)) = some (some (.int .u8 0), 1, 1) := by kernel_rfl
theorem int_info : (Try.prog.info? 3).map (fun i => (i.zero, i.size, i.bytes)) = some (some (.int .i64 0), 1, 8) := by kernel_rfl

set_option maxRecDepth 100000 in
set_option maxHeartbeats 1000000 in
theorem Clone_any (A : Option Addr) (n c B : Nat) (l : List UInt8) (w : World) (hr : Rd w B 1 A n (l.map bv)) (hB : B ≤ w.heap.size) (hn : n ≤ 1099511627776) :
    Calls Try.prog 18 #[.slice A n c] w fun e w' => ∃ A' c', e = .returned (.slice A' n c') ∧ Made w' w.heap.size 5 1 A' n c' (l.map bv) ∧ Below w.heap.size w w' := by
  obtain ⟨i0, hi0, hz0, hz1, hz2⟩ := info_parts u8_info
  have q22 : ∀ (w : World) (a : Option Addr) (n c : Nat), (binOp .eql 22 (.slice a n c) (.slice none 0 0)).run Try.prog w = .ok (.bool a.isNone) w := fun w a n c => Lib.run_eql_slice_nil w _ _ a n c _ _ Try.underlying22
  rcases A with _ | a
  · have hn0 : n = 0 := by
      rcases Nat.eq_zero_or_pos n with h | h
      · exact h
      · obtain ⟨_, _, h, _⟩ := hr.2 h
        cases h
    subst hn0
    have hl : l = [] := by
      have := hr.1
      simp only [List.length_map, Nat.zero_mul] at this
      exact List.eq_nil_of_length_eq_zero this
    subst hl
    go_enter Try.func18, Try.ntmps18
    go_wp2
    go_ret
    exact ⟨none, 0, rfl, ⟨World.ownsRow_nil _ _ _ _, Rd.nil _ _ _ _, Nat.le_refl _, Nat.zero_le _⟩, Below.refl _ _⟩
  · have Hr := Lib.hid hr
    clear hr
    go_enter Try.func18, Try.ntmps18
    go_wp2_with (at_builtin; refine wpList_append_rd _ rfl (.tmp 5) (.tmp 6) _ rfl w.heap.size 5 i0 (.int .u8 0) 1 1 Try.underlying22 hi0 hz0 hz1 hz2 rfl (by decide) (.slice (some ⟨w.heap.size, 0, none⟩) 0 0) 0 [] rfl (own_empty w 5 1) w.heap.size (some a) n c _ rfl ((Hr.out.mono hB).alloc (Nat.le_refl _) _) (oneCell_bv _) (by unfold maxLen; omega) (by omega) (by simp) ?_; intro v5 w5 hown5 hg5 hat5)
    have hB5 := below_grown ((Below.refl w.heap.size w).alloc (Nat.le_refl _) _) (own_empty w 5 1) hg5 (by simp)
    rw [Nat.zero_add, List.nil_append] at hown5
    obtain ⟨A', c', rfl, hm⟩ := made_of_own hown5
    go_wp2
    go_ret
    exact ⟨A', c', rfl, hm, hB5⟩
set_option maxRecDepth 100000 in
set_option maxHeartbeats 1000000 in
theorem Grow_nil (n : Nat) (w : World) (hn : n ≤ 1099511627776) :
    Calls Try.prog 28 #[.slice none 0 0, .int .i64 (n : Int)] w fun e w' => ∃ v, e = .returned v ∧ w'.ownsRow w.heap.size 5 1 v 0 [] ∧ Below w.heap.size w w' := by
  obtain ⟨i0, hi0, hz0, hz1, hz2⟩ := info_parts u8_info
  rcases Nat.eq_zero_or_pos n with h0 | h0
  · subst h0
    go_enter Try.func28, Try.ntmps28
    go_wp2
    go_ret
    exact ⟨_, rfl, World.ownsRow_nil _ _ _ _, Below.refl _ _⟩
  · have hrun := Lib.run_append_nil_zeros (P := Try.prog) w 22 3 22 5 i0 (.int .u8 0) .i64 .i64 Try.underlying22 Try.underlying3 hi0 hz0 n h0 (by omega) (by omega) (by rw [hz2]; omega)
    have hge := grownCap_ge w n 0 5
    have hle := grownCap_le_maxLen w n 0 5 (by unfold maxLen; omega)
    generalize grownCap w n 0 5 = cp at *
    have hsz : (Builtin.zeroCells (Value.int .u8 0).cells n ++ Builtin.zeroCells (Value.int .u8 0).cells (cp - n)).size = cp * 1 := by
      simp [Builtin.zeroCells, Value.cells]
      omega
    have Hsz := Lib.hid hsz
    have Hrun := Lib.hid hrun
    clear hsz hrun
    have hdec : ¬ ((n : Int) < 0) := by omega
    go_enter Try.func28, Try.ntmps28
    go_wp2_with (at_builtin; refine Lib.wpList_append_run _ rfl (.tmp 20) (.tmp 21) _ _ rfl _ _ rfl rfl _ _ Hrun.out ?_)
    go_ret
    exact ⟨_, rfl, World.ownsRow_made _ _ _ (Nat.le_refl _) hle Hsz.out, (Below.refl _ _).drew.alloc (Nat.le_refl _) _⟩
end Go.Proofs.Ytmebhlopmgfobaa
