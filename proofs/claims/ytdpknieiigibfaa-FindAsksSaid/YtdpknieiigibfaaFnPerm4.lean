/- The walks of arena's Live and Take (no number is free), of slices.Insert at the end, of perm's New and Add (a row behind all others). Conditions: at most 2^20 numbers. -/
import Derived.Test.YtdpknieiigibfaaFnPerm3
namespace Go.Proofs.Ytdpknieiigibfaa
open Go.RowKit
set_option linter.unusedVariables false
set_option linter.unusedSimpArgs false
set_option maxRecDepth 100000 in
set_option maxHeartbeats 1000000 in
theorem ArenaLive_any (ga : Nat) (A : Option Addr) (c : Nat) (Af : Option Addr) (cf N M : Nat) (w : World) (hb : Bk w ga 88 #[.slice A N c, .slice Af M cf, .int .i64 268435456]) (hN : N ≤ 1048576) (hM : M ≤ N) :
    Calls Try.prog 54 #[.pointer (some ⟨ga, 0, none⟩)] w fun e w' => e = .returned (.int .i64 ((N - M : Nat) : Int)) ∧ Below w.heap.size w w' := by
  have c0 : w.cell? ⟨ga, 0, none⟩ = some (.slice A N c) := (hb.cell 0).trans rfl
  have c1 : w.cell? ⟨ga, 1, none⟩ = some (.slice Af M cf) := (hb.cell 1).trans rfl
  have h64 : IntKind.i64.wrap ((N : Int) - (M : Int)) = ((N - M : Nat) : Int) := by rw [IntKind.wrap_i64]; omega
  clear hb
  go_enter Try.func54, Try.ntmps54
  go_wp2
  go_quiet (fail)
  go_wp2
  go_ret
  exact ⟨ret_i64 (by omega), below_drewN (Below.refl _ _) _⟩
set_option maxRecDepth 100000 in
set_option maxHeartbeats 2000000 in
theorem TakeMore_any (B ga : Nat) (A : Option Addr) (c : Nat) (Af : Option Addr) (cf N : Nat) (tk : List Bool) (w : World) (hb : Bk w ga 88 #[.slice A N c, .slice Af 0 cf, .int .i64 268435456]) (hown : w.ownsRow B 4 1 (.slice A N c) N (tk.map Value.bool)) (hB : B ≤ w.heap.size) (hN : N ≤ 1000000) :
    Calls Try.prog 38 #[.pointer (some ⟨ga, 0, none⟩)] w fun e w' => e = .returned (.tuple #[.int .i64 (N : Int), .int .i64 0]) ∧ Keep (fun b => b = ga ∨ (Value.slice A N c).ownBlock = some b) w w' ∧ ∃ vt, Bk w' ga 88 #[vt, .slice Af 0 cf, .int .i64 268435456] ∧ w'.ownsRow B 4 1 vt (N + 1) ((tk ++ [true]).map Value.bool) ∧ (vt.ownBlock = (Value.slice A N c).ownBlock ∨ ∃ g, vt.ownBlock = some g ∧ w.heap.size ≤ g) := by
  obtain ⟨i0, hi0, hz0, hz1, hz2⟩ := info_parts bool_info
  have hgl := hb.lt
  have Hb := Lib.hid hb
  have Hown := Lib.hid hown
  have Hne := Lib.hid (own_bk_ne hown hb (by decide))
  clear hb hown
  go_enter Try.func38, Try.ntmps38
  go_wp2
  refine wp_region_any (by kernel_rfl) ?_
  refine wpAny_loose2 [10, 11, 12, 13, 14, 15, 16, 9] (Grow) (Vs [is (.pointer (some ⟨ga, 0, none⟩)), is (.int .i64 (N : Int)), is (.pointer (some ⟨ga, 0, none⟩)), is (.pointer (some ⟨ga, 0, none⟩)), is (.pointer (some ⟨ga, 2, none⟩)), is (.int .i64 268435456), is (.bool false), is (.bool false)]) _ _ rfl (by kernel_rfl) (Below.refl _ _) (fun _ _ => Grow.trans) (stbs_all (by repeat' (first | exact stbs_is _ _ | exact stbs_any _ | (refine List.forall_mem_cons.2 ⟨?_, ?_⟩) | (intro p hp; cases hp)))) ?_ ?_
  · refine steps_of ?_
    refine steps_cons ?_ ?_
    · refine step_on rfl rfl ?_
      intro ev w5 hS hc hf hold hval a K ha hK
      have e0 : ev (.tmp 0) = .pointer (some ⟨ga, 0, none⟩) := hold 0 (by kernel_rfl)
      replace hS : (Grow) w w5 := ⟨hS.os, hS.tape, hS.output, hS.size, hS.block⟩
      go_simp
      exact hK _ _ ((Below.refl _ _)) rfl
    refine steps_cons ?_ ?_
    · refine step_on rfl rfl ?_
      intro ev w5 hS hc hf hold hval a K ha hK
      have e10 : ev (.tmp 10) = .pointer (some ⟨ga, 0, none⟩) := hval 0 10 (by kernel_rfl) rfl
      replace hS : (Grow) w w5 := ⟨hS.os, hS.tape, hS.output, hS.size, hS.block⟩
      go_simp
      refine (ArenaLive_any ga A c Af cf N 0 w5 (Hb.out.below hS Hb.out.lt) (by omega) (by omega)).mono ?_
      rintro e w8 ⟨rfl, hb8⟩
      exact hK _ _ hb8 rfl
    refine steps_cons ?_ ?_
    · refine step_on rfl rfl ?_
      intro ev w5 hS hc hf hold hval a K ha hK
      have e0 : ev (.tmp 0) = .pointer (some ⟨ga, 0, none⟩) := hold 0 (by kernel_rfl)
      replace hS : (Grow) w w5 := ⟨hS.os, hS.tape, hS.output, hS.size, hS.block⟩
      go_simp
      exact hK _ _ ((Below.refl _ _)) rfl
    refine steps_cons ?_ ?_
    · refine step_on rfl rfl ?_
      intro ev w5 hS hc hf hold hval a K ha hK
      have e12 : ev (.tmp 12) = .pointer (some ⟨ga, 0, none⟩) := hval 2 12 (by kernel_rfl) rfl
      replace hS : (Grow) w w5 := ⟨hS.os, hS.tape, hS.output, hS.size, hS.block⟩
      go_simp
      exact hK _ _ ((Below.refl _ _)) rfl
    refine steps_cons ?_ ?_
    · refine step_on rfl rfl ?_
      intro ev w5 hS hc hf hold hval a K ha hK
      have e13 : ev (.tmp 13) = .pointer (some ⟨ga, 0, none⟩) := hval 3 13 (by kernel_rfl) rfl
      replace hS : (Grow) w w5 := ⟨hS.os, hS.tape, hS.output, hS.size, hS.block⟩
      go_simp
      exact hK _ _ ((Below.refl _ _)) rfl
    refine steps_cons ?_ ?_
    · refine step_on rfl rfl ?_
      intro ev w5 hS hc hf hold hval a K ha hK
      have e14 : ev (.tmp 14) = .pointer (some ⟨ga, 2, none⟩) := hval 4 14 (by kernel_rfl) rfl
      replace hS : (Grow) w w5 := ⟨hS.os, hS.tape, hS.output, hS.size, hS.block⟩
      have c15 : w5.cell? ⟨ga, 2, none⟩ = some (.int .i64 268435456) := ((Hb.out.below hS Hb.out.lt).cell 2).trans rfl
      go_simp
      exact hK _ _ ((Below.refl _ _)) rfl
    refine steps_cons ?_ ?_
    · refine step_on rfl rfl ?_
      intro ev w5 hS hc hf hold hval a K ha hK
      have e11 : ev (.tmp 11) = .int .i64 (N : Int) := hval 1 11 (by kernel_rfl) rfl
      have e15 : ev (.tmp 15) = .int .i64 268435456 := hval 5 15 (by kernel_rfl) rfl
      replace hS : (Grow) w w5 := ⟨hS.os, hS.tape, hS.output, hS.size, hS.block⟩
      have hne : ((N : Int) == 268435456) = false := by simp; omega
      go_simp
      exact hK _ _ (Below.refl _ _) (by first | rfl | simp [is] | (simp [is]; omega))
    refine steps_cons ?_ ?_
    · refine step_on rfl rfl ?_
      intro ev w5 hS hc hf hold hval a K ha hK
      have e16 : ev (.tmp 16) = .bool false := hval 6 16 (by kernel_rfl) rfl
      replace hS : (Grow) w w5 := ⟨hS.os, hS.tape, hS.output, hS.size, hS.block⟩
      go_simp
      exact hK _ _ ((Below.refl _ _)) rfl
    exact steps_nil
  · intro ev w6 hS hval
    replace hS : (Grow) w w6 := ⟨hS.os, hS.tape, hS.output, hS.size, hS.block⟩
    have e9 : ev (.tmp 9) = .bool false := hval 7 9 rfl
    simp only [putsOf, List.foldl_cons, List.foldl_nil, Act.put, List.setIfInBounds_toArray, List.set_cons_zero, List.set_cons_succ]
    rw [e9]
    clear hval
    have hb2 := Hb.out.below hS Hb.out.lt
    have hsz2 := Below.size hS
    have hown2 := own_below Hown.out hS
    have c1 : w6.cell? ⟨ga, 1, none⟩ = some (.slice Af 0 cf) := (hb2.cell 1).trans rfl
    have c0 : w6.cell? ⟨ga, 0, none⟩ = some (.slice A N c) := (hb2.cell 0).trans rfl
    have f0 := hb2.frozen 0
    have hga6 : ga < w6.heap.size := by omega
    have HS2 := Lib.hid hS
    have Hb2 := Lib.hid hb2
    have Hown2 := Lib.hid hown2
    clear hS hb2 hown2
    generalize w6 = W2 at Hb2 hsz2 c0 c1 f0 HS2 hga6 Hown2 ⊢
    have a0 := (World.cell?_alloc_lt W2 (Obj.cells #[.bool true] 4) ⟨ga, 0, none⟩ hga6).trans c0
    go_wp2_with (at_builtin; refine wpList_push _ rfl (.tmp 53) (.tmp 54) _ rfl B 4 i0 (.bool false) 1 1 Try.underlying86 hi0 hz0 hz1 hz2 rfl (by decide) (.slice A N c) N _ rfl Hown2.out rfl rfl (by simp [Value.oneCell']) (by unfold maxLen; omega) (by omega) (by omega) ?_; intro v5 w5 hown5 hg5 hs5 hat5; have hbk5 := Hb2.out.grown hg5 Hne.out; have Hown5 := Lib.hid hown5; have Hg5 := Lib.hid hg5; have Hat5 := Lib.hid hat5; have Hbk5 := Lib.hid hbk5; have d0 : w5.cell? ⟨ga, 0, none⟩ = some (.slice A N c) := (hbk5.cell 0).trans rfl; have g0 := hbk5.frozen 0; obtain ⟨A9, c9, rfl, hm9⟩ := made_of_own hown5; clear hown5 hg5 hat5 hbk5 hm9)
    go_ret2
    have hset := Keep.setCell (F := fun b => b = ga ∨ (Value.slice A N c).ownBlock = some b) (Keep.refl _ w5) (p := ⟨ga, 0, none⟩) (.inl (.inl rfl)) (.slice A9 (N + 1) c9)
    have hk2 : Keep (fun b => b = ga ∨ (Value.slice A N c).ownBlock = some b) w W2 := Keep.of_below HS2.out
    have hk5 := hk2.grown Hg5.out (fun k hk => .inl (.inr hk))
    refine ⟨rfl, hk5.trans' hset (fun b _ h => h), _, Hbk5.out.set 0 _, ?_, ?_⟩
    · have := own_same (w' := w5.setCell ⟨ga, 0, none⟩ (.slice A9 (N + 1) c9)) Hown5.out fun b cs _ hb' => hb'.far (Bk.ne hb' Hbk5.out (by decide)) _
      simpa using this
    · rcases Hat5.out with h | h
      · exact .inl h
      · exact .inr ⟨_, h, by have := HS2.out.size; omega⟩
set_option maxRecDepth 100000 in
set_option maxHeartbeats 1000000 in
theorem InsertEnd_any (B : Nat) (A : Option Addr) (n c : Nat) (xs : List Value) (Av : Option Addr) (cv k : Nat) (w : World) (hown : w.ownsRow B 3 1 (.slice A n c) n xs) (hr : Rd w w.heap.size 1 Av 1 [sv k]) (hB : B ≤ w.heap.size) (hn : n ≤ 1000000) :
    Calls Try.prog 39 #[.slice A n c, .int .i64 (n : Int), .slice Av 1 cv] w fun e w' => ∃ v, e = .returned v ∧ w'.ownsRow B 3 1 v (n + 1) (xs ++ [sv k]) ∧ w.grownBy w' (Value.slice A n c).ownBlock ∧ (v.ownBlock = (Value.slice A n c).ownBlock ∨ v.ownBlock = some w.heap.size) := by
  obtain ⟨i0, hi0, hz0, hz1, hz2⟩ := info_parts int_info
  have kc := run_cut_lo (P := Try.prog) 22 3 1 Try.underlying22 Try.sizeOf3 A n c n (Nat.le_refl _)
  have Hown := Lib.hid hown
  have Hr := Lib.hid hr
  clear hown hr
  go_enter Try.func39, Try.ntmps39
  go_wp2_with (at_builtin; refine wpList_append_rd _ rfl (.tmp 23) (.tmp 24) _ rfl B 3 i0 (.int .i64 0) 1 8 Try.underlying22 hi0 hz0 hz1 hz2 rfl (by decide) (.slice A n c) n _ rfl Hown.out w.heap.size Av 1 cv _ rfl Hr.out (by simp [Value.oneCell', sv]) (by unfold maxLen; omega) (by omega) hB ?_; intro v5 w5 hown5 hg5 hat5)
  go_ret
  exact ⟨v5, rfl, hown5, hg5, hat5⟩
end Go.Proofs.Ytdpknieiigibfaa
