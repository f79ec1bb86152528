/- The walks of arena.New, Live, and of Take on a fresh arena. No conditions. -/
import Derived.Test.YtdpknieiigibfaaFnBlock
import Derived.BigQuiet
import Derived.Deep.QuietTactic
namespace Go.Proofs.Ytdpknieiigibfaa
open Go.RowKit
set_option linter.unusedVariables false
set_option linter.unusedSimpArgs false
theorem bool_info : (Try.prog.info? 4).map (fun i => (i.zero, i.size, i.bytes)) = some (some (.bool false), 1, 1) := by kernel_rfl
set_option maxRecDepth 100000 in
theorem ArenaNew_any (w : World) :
    Calls Try.prog 30 #[.int .i64 268435456] w fun e w' => e = .returned (.pointer (some ⟨w.heap.size, 0, none⟩)) ∧ Bk w' w.heap.size 88 #[.slice none 0 0, .slice none 0 0, .int .i64 268435456] ∧ Below w.heap.size w w' := by
  go_enter Try.func30, Try.ntmps30
  go_wp2
  go_ret
  exact ⟨rfl, Bk.new _ _ _, (Below.refl _ _).alloc (Nat.le_refl _) _⟩
set_option maxRecDepth 100000 in
set_option maxHeartbeats 1000000 in
theorem ArenaLive0 (ga : Nat) (w : World) (hb : Bk w ga 88 #[.slice none 0 0, .slice none 0 0, .int .i64 268435456]) :
    Calls Try.prog 54 #[.pointer (some ⟨ga, 0, none⟩)] w fun e w' => e = .returned (.int .i64 0) ∧ Below w.heap.size w w' := by
  have c0 : w.cell? ⟨ga, 0, none⟩ = some (.slice none 0 0) := (hb.cell 0).trans rfl
  have c1 : w.cell? ⟨ga, 1, none⟩ = some (.slice none 0 0) := (hb.cell 1).trans rfl
  go_enter Try.func54, Try.ntmps54
  go_wp2
  go_quiet (fail)
  go_wp2
  go_ret
  exact ⟨rfl, below_drewN (Below.refl _ _) _⟩
theorem rd_one {w : World} {g : Nat} {e : TypeId} {v : Value} (h : Bk w g e #[v]) : Rd w w.heap.size 1 (some ⟨g, 0, none⟩) 1 [v] := by
  refine ⟨rfl, fun _ => ⟨g, 0, rfl, h.lt, fun i u hu => ?_⟩⟩
  rw [Nat.zero_add, h.cell i]
  rcases i with _ | i
  · exact hu
  · simp at hu
set_option maxRecDepth 100000 in
set_option maxHeartbeats 2000000 in
theorem Take_first (ga : Nat) (w : World) (hb : Bk w ga 88 #[.slice none 0 0, .slice none 0 0, .int .i64 268435456]) :
    Calls Try.prog 38 #[.pointer (some ⟨ga, 0, none⟩)] w fun e w' => e = .returned (.tuple #[.int .i64 0, .int .i64 0]) ∧ Keep (fun b => b = ga) w w' ∧ ∃ A c, Bk w' ga 88 #[.slice A 1 c, .slice none 0 0, .int .i64 268435456] ∧ Made w' w.heap.size 4 1 A 1 c [.bool true] := by
  obtain ⟨i0, hi0, hz0, hz1, hz2⟩ := info_parts bool_info
  have hgl := hb.lt
  have Hb := Lib.hid hb
  have HW := Lib.hid (Below.refl w.heap.size w)
  clear hb
  go_enter Try.func38, Try.ntmps38
  go_wp2
  refine wp_region_any (by kernel_rfl) ?_
  refine wpAny_loose2 [10, 11, 12, 13, 14, 15, 16, 9] Grow (Vs [is (.pointer (some ⟨ga, 0, none⟩)), is (.int .i64 0), is (.pointer (some ⟨ga, 0, none⟩)), is (.pointer (some ⟨ga, 0, none⟩)), is (.pointer (some ⟨ga, 2, none⟩)), is (.int .i64 268435456), is (.bool false), is (.bool false)]) _ _ rfl (by kernel_rfl) (Below.refl _ _) (fun _ _ => Grow.trans) (stb_all (by repeat' (first | exact stb_is _ | exact stb_row _ _ _ | (refine List.forall_mem_cons.2 ⟨?_, ?_⟩) | (intro p hp; cases hp)))) ?_ ?_
  · refine steps_of ?_
    refine steps_cons ?_ ?_
    · refine step_on rfl rfl ?_
      intro ev w5 hS hc hf hold hval a K ha hK
      have e0 : ev (.tmp 0) = .pointer (some ⟨ga, 0, none⟩) := hold 0 (by kernel_rfl)
      replace hS : Grow w w5 := ⟨hS.os, hS.tape, hS.output, hS.size, hS.block⟩
      go_simp
      exact hK _ _ (Below.refl _ _) rfl
    refine steps_cons ?_ ?_
    · refine step_on rfl rfl ?_
      intro ev w5 hS hc hf hold hval a K ha hK
      have e10 : ev (.tmp 10) = .pointer (some ⟨ga, 0, none⟩) := hval 0 10 (by kernel_rfl) rfl
      replace hS : Grow w w5 := ⟨hS.os, hS.tape, hS.output, hS.size, hS.block⟩
      go_simp
      refine (ArenaLive0 ga w5 (Hb.out.below hS Hb.out.lt)).mono ?_
      rintro e w8 ⟨rfl, hb8⟩
      exact hK _ _ hb8 rfl
    refine steps_cons ?_ ?_
    · refine step_on rfl rfl ?_
      intro ev w5 hS hc hf hold hval a K ha hK
      have e0 : ev (.tmp 0) = .pointer (some ⟨ga, 0, none⟩) := hold 0 (by kernel_rfl)
      replace hS : Grow w w5 := ⟨hS.os, hS.tape, hS.output, hS.size, hS.block⟩
      go_simp
      exact hK _ _ (Below.refl _ _) rfl
    refine steps_cons ?_ ?_
    · refine step_on rfl rfl ?_
      intro ev w5 hS hc hf hold hval a K ha hK
      have e12 : ev (.tmp 12) = .pointer (some ⟨ga, 0, none⟩) := hval 2 12 (by kernel_rfl) rfl
      replace hS : Grow w w5 := ⟨hS.os, hS.tape, hS.output, hS.size, hS.block⟩
      go_simp
      exact hK _ _ (Below.refl _ _) rfl
    refine steps_cons ?_ ?_
    · refine step_on rfl rfl ?_
      intro ev w5 hS hc hf hold hval a K ha hK
      have e13 : ev (.tmp 13) = .pointer (some ⟨ga, 0, none⟩) := hval 3 13 (by kernel_rfl) rfl
      replace hS : Grow w w5 := ⟨hS.os, hS.tape, hS.output, hS.size, hS.block⟩
      go_simp
      exact hK _ _ (Below.refl _ _) rfl
    refine steps_cons ?_ ?_
    · refine step_on rfl rfl ?_
      intro ev w5 hS hc hf hold hval a K ha hK
      have e14 : ev (.tmp 14) = .pointer (some ⟨ga, 2, none⟩) := hval 4 14 (by kernel_rfl) rfl
      replace hS : Grow w w5 := ⟨hS.os, hS.tape, hS.output, hS.size, hS.block⟩
      have c15 : w5.cell? ⟨ga, 2, none⟩ = some (.int .i64 268435456) := ((Hb.out.below hS Hb.out.lt).cell 2).trans rfl
      go_simp
      exact hK _ _ (Below.refl _ _) rfl
    refine steps_cons ?_ ?_
    · refine step_on rfl rfl ?_
      intro ev w5 hS hc hf hold hval a K ha hK
      have e11 : ev (.tmp 11) = .int .i64 0 := hval 1 11 (by kernel_rfl) rfl
      have e15 : ev (.tmp 15) = .int .i64 268435456 := hval 5 15 (by kernel_rfl) rfl
      replace hS : Grow w w5 := ⟨hS.os, hS.tape, hS.output, hS.size, hS.block⟩
      go_simp
      exact hK _ _ (Below.refl _ _) rfl
    refine steps_cons ?_ ?_
    · refine step_on rfl rfl ?_
      intro ev w5 hS hc hf hold hval a K ha hK
      have e16 : ev (.tmp 16) = .bool false := hval 6 16 (by kernel_rfl) rfl
      replace hS : Grow w w5 := ⟨hS.os, hS.tape, hS.output, hS.size, hS.block⟩
      go_simp
      exact hK _ _ (Below.refl _ _) rfl
    exact steps_nil
  · intro ev w6 hS hval
    replace hS : Grow w w6 := ⟨hS.os, hS.tape, hS.output, hS.size, hS.block⟩
    have e9 : ev (.tmp 9) = .bool false := hval 7 9 rfl
    simp only [putsOf, List.foldl_cons, List.foldl_nil, Act.put, List.setIfInBounds_toArray, List.set_cons_zero, List.set_cons_succ]
    rw [e9]
    clear hval
    have Hb2 := Lib.hid (Hb.out.below hS Hb.out.lt)
    have hsz2 := Below.size hS
    have HS2 := Lib.hid hS
    have c1 : w6.cell? ⟨ga, 1, none⟩ = some (.slice none 0 0) := (Hb2.out.cell 1).trans rfl
    clear hS
    have c0 : w6.cell? ⟨ga, 0, none⟩ = some (.slice none 0 0) := (Hb2.out.cell 0).trans rfl
    have f0 := Hb2.out.frozen 0
    have hga6 : ga < w6.heap.size := by omega
    revert Hb2 hsz2 c0 c1 f0 HS2 hga6
    generalize w6 = W2
    intro Hb2 hsz2 HS2 c1 c0 f0 hga6
    have a0 := (World.cell?_alloc_lt W2 (Obj.cells #[.bool true] 4) ⟨ga, 0, none⟩ hga6).trans c0
    go_wp2_with (at_builtin; refine wpList_push _ rfl (.tmp 53) (.tmp 54) _ rfl w.heap.size 4 i0 (.bool false) 1 1 Try.underlying86 hi0 hz0 hz1 hz2 rfl (by decide) (.slice none 0 0) 0 [] rfl (World.ownsRow_nil _ _ _ _) rfl rfl (by simp [Value.oneCell']) (by unfold maxLen; omega) (by omega) hsz2 ?_; intro v5 w5 hown5 hg5 hs5 hat5; rw [Nat.zero_add, List.nil_append] at hown5; obtain ⟨A9, c9, rfl, hm9⟩ := made_of_own hown5; have hB5 : Below W2.heap.size W2 w5 := ⟨hg5.os, hg5.tape, hg5.output, hg5.size, fun k hk => hg5.block k hk (by simp [Value.ownBlock])⟩; have hb5 := Hb2.out.below hB5 hga6; have d0 : w5.cell? ⟨ga, 0, none⟩ = some (.slice none 0 0) := (hb5.cell 0).trans rfl; have e0 := hb5.frozen 0)
    go_ret2
    have hset := Keep.setCell (F := fun b => b = ga) (Keep.refl (fun b => b = ga) w5) (p := ⟨ga, 0, none⟩) (.inl rfl) (.slice A9 1 c9)
    exact ⟨rfl, ((Keep.of_below HS2.out).trans (Keep.of_below hB5)).trans hset, A9, c9, hb5.set 0 _, (hm9.mono (by omega)).keepF hset (fun b hb => by subst hb; exact hgl)⟩
end Go.Proofs.Ytdpknieiigibfaa
