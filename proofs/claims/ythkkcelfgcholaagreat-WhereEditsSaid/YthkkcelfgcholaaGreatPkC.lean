/- The walks of arena.New, Live, and of Take on a fresh arena. No conditions. The walk of the tree's fix at a leaf that is the only node. Conditions: at most 128 bits. The walks of the tree's node, leaf, build on a fresh tree, and of tree.New. Conditions: at most 128 bits. The walks of the tree's build of one leaf, tree.New, and what a tree is: TreeAt. Conditions: at most 128 bits. -/
import Derived.Test.YthkkcelfgcholaaGreatQFnBlock
import Derived.BigQuiet
import Derived.Deep.QuietTactic
namespace Go.Proofs.YthkkcelfgcholaaGreat
open Go.RowKit
set_option linter.unusedVariables false
set_option linter.unusedSimpArgs false
theorem bool_info : (Tryz.prog.info? 4).map (fun i => (i.zero, i.size, i.bytes)) = some (some (.bool false), 1, 1) := by kernel_rfl
set_option maxRecDepth 100000 in
theorem ArenaNew_any (w : World) :
    Calls Tryz.prog 40 #[.int .i64 268435456] w fun e w' => e = .returned (.pointer (some ⟨w.heap.size, 0, none⟩)) ∧ Bk w' w.heap.size 108 #[.slice none 0 0, .slice none 0 0, .int .i64 268435456] ∧ Below w.heap.size w w' := by
  go_enter Tryz.func40, Tryz.ntmps40
  go_wp2
  go_ret
  exact ⟨rfl, Bk.new _ _ _, (Below.refl _ _).alloc (Nat.le_refl _) _⟩
set_option maxRecDepth 100000 in
set_option maxHeartbeats 1000000 in
theorem ArenaLive0 (ga : Nat) (w : World) (hb : Bk w ga 108 #[.slice none 0 0, .slice none 0 0, .int .i64 268435456]) :
    Calls Tryz.prog 82 #[.pointer (some ⟨ga, 0, none⟩)] w fun e w' => e = .returned (.int .i64 0) ∧ Below w.heap.size w w' := by
  have c0 : w.cell? ⟨ga, 0, none⟩ = some (.slice none 0 0) := (hb.cell 0).trans rfl
  have c1 : w.cell? ⟨ga, 1, none⟩ = some (.slice none 0 0) := (hb.cell 1).trans rfl
  go_enter Tryz.func82, Tryz.ntmps82
  go_wp2
  go_quiet (fail)
  go_wp2
  go_ret
  exact ⟨rfl, below_drewN (Below.refl _ _) _⟩
theorem rd_one {w : World} {g : Nat} {e : TypeId} {v : Value} (h : Bk w g e #[v]) : Rd w w.heap.size 1 (some ⟨g, 0, none⟩) 1 [v] := by
  refine ⟨rfl, fun _ => ⟨g, 0, rfl, h.lt, fun i u hu => ?_⟩⟩
  rw [Nat.zero_add, h.cell i]
  rcases i with _ | i
  · exact hu
  · simp at hu
set_option maxRecDepth 100000 in
set_option maxHeartbeats 2000000 in
theorem Take_first (ga : Nat) (w : World) (hb : Bk w ga 108 #[.slice none 0 0, .slice none 0 0, .int .i64 268435456]) :
    Calls Tryz.prog 48 #[.pointer (some ⟨ga, 0, none⟩)] w fun e w' => e = .returned (.tuple #[.int .i64 0, .int .i64 0]) ∧ Keep (fun b => b = ga) w w' ∧ ∃ A c, Bk w' ga 108 #[.slice A 1 c, .slice none 0 0, .int .i64 268435456] ∧ Made w' w.heap.size 4 1 A 1 c [.bool true] := by
  obtain ⟨i0, hi0, hz0, hz1, hz2⟩ := info_parts bool_info
  have hgl := hb.lt
  have Hb := Lib.hid hb
  have HW := Lib.hid (Below.refl w.heap.size w)
  clear hb
  go_enter Tryz.func48, Tryz.ntmps48
  go_wp2
  refine wp_region_any (by kernel_rfl) ?_
  refine wpAny_loose2 [10, 11, 12, 13, 14, 15, 16, 9] Grow (Vs [is (.pointer (some ⟨ga, 0, none⟩)), is (.int .i64 0), is (.pointer (some ⟨ga, 0, none⟩)), is (.pointer (some ⟨ga, 0, none⟩)), is (.pointer (some ⟨ga, 2, none⟩)), is (.int .i64 268435456), is (.bool false), is (.bool false)]) _ _ rfl (by kernel_rfl) (Below.refl _ _) (fun _ _ => Grow.trans) (stb_all (by repeat' (first | exact stb_is _ | exact stb_row _ _ _ | (refine List.forall_mem_cons.2 ⟨?_, ?_⟩) | (intro p hp; cases hp)))) ?_ ?_
  · refine steps_of ?_
    refine steps_cons ?_ ?_
    · refine step_on rfl rfl ?_
      intro ev w5 hS hc hf hold hval a K ha hK
      have e0 : ev (.tmp 0) = .pointer (some ⟨ga, 0, none⟩) := hold 0 (by kernel_rfl)
      replace hS : Grow w w5 := ⟨hS.os, hS.tape, hS.output, hS.size, hS.block⟩
      go_simp
      exact hK _ _ (Below.refl _ _) rfl
    refine steps_cons ?_ ?_
    · refine step_on rfl rfl ?_
      intro ev w5 hS hc hf hold hval a K ha hK
      have e10 : ev (.tmp 10) = .pointer (some ⟨ga, 0, none⟩) := hval 0 10 (by kernel_rfl) rfl
      replace hS : Grow w w5 := ⟨hS.os, hS.tape, hS.output, hS.size, hS.block⟩
      go_simp
      refine (ArenaLive0 ga w5 (Hb.out.below hS Hb.out.lt)).mono ?_
      rintro e w8 ⟨rfl, hb8⟩
      exact hK _ _ hb8 rfl
    refine steps_cons ?_ ?_
    · refine step_on rfl rfl ?_
      intro ev w5 hS hc hf hold hval a K ha hK
      have e0 : ev (.tmp 0) = .pointer (some ⟨ga, 0, none⟩) := hold 0 (by kernel_rfl)
      replace hS : Grow w w5 := ⟨hS.os, hS.tape, hS.output, hS.size, hS.block⟩
      go_simp
      exact hK _ _ (Below.refl _ _) rfl
    refine steps_cons ?_ ?_
    · refine step_on rfl rfl ?_
      intro ev w5 hS hc hf hold hval a K ha hK
      have e12 : ev (.tmp 12) = .pointer (some ⟨ga, 0, none⟩) := hval 2 12 (by kernel_rfl) rfl
      replace hS : Grow w w5 := ⟨hS.os, hS.tape, hS.output, hS.size, hS.block⟩
      go_simp
      exact hK _ _ (Below.refl _ _) rfl
    refine steps_cons ?_ ?_
    · refine step_on rfl rfl ?_
      intro ev w5 hS hc hf hold hval a K ha hK
      have e13 : ev (.tmp 13) = .pointer (some ⟨ga, 0, none⟩) := hval 3 13 (by kernel_rfl) rfl
      replace hS : Grow w w5 := ⟨hS.os, hS.tape, hS.output, hS.size, hS.block⟩
      go_simp
      exact hK _ _ (Below.refl _ _) rfl
    refine steps_cons ?_ ?_
    · refine step_on rfl rfl ?_
      intro ev w5 hS hc hf hold hval a K ha hK
      have e14 : ev (.tmp 14) = .pointer (some ⟨ga, 2, none⟩) := hval 4 14 (by kernel_rfl) rfl
      replace hS : Grow w w5 := ⟨hS.os, hS.tape, hS.output, hS.size, hS.block⟩
      have c15 : w5.cell? ⟨ga, 2, none⟩ = some (.int .i64 268435456) := ((Hb.out.below hS Hb.out.lt).cell 2).trans rfl
      go_simp
      exact hK _ _ (Below.refl _ _) rfl
    refine steps_cons ?_ ?_
    · refine step_on rfl rfl ?_
      intro ev w5 hS hc hf hold hval a K ha hK
      have e11 : ev (.tmp 11) = .int .i64 0 := hval 1 11 (by kernel_rfl) rfl
      have e15 : ev (.tmp 15) = .int .i64 268435456 := hval 5 15 (by kernel_rfl) rfl
      replace hS : Grow w w5 := ⟨hS.os, hS.tape, hS.output, hS.size, hS.block⟩
      go_simp
      exact hK _ _ (Below.refl _ _) rfl
    refine steps_cons ?_ ?_
    · refine step_on rfl rfl ?_
      intro ev w5 hS hc hf hold hval a K ha hK
      have e16 : ev (.tmp 16) = .bool false := hval 6 16 (by kernel_rfl) rfl
      replace hS : Grow w w5 := ⟨hS.os, hS.tape, hS.output, hS.size, hS.block⟩
      go_simp
      exact hK _ _ (Below.refl _ _) rfl
    exact steps_nil
  · intro ev w6 hS hval
    replace hS : Grow w w6 := ⟨hS.os, hS.tape, hS.output, hS.size, hS.block⟩
    have e9 : ev (.tmp 9) = .bool false := hval 7 9 rfl
    simp only [putsOf, List.foldl_cons, List.foldl_nil, Act.put, List.setIfInBounds_toArray, List.set_cons_zero, List.set_cons_succ]
    rw [e9]
    clear hval
    have Hb2 := Lib.hid (Hb.out.below hS Hb.out.lt)
    have hsz2 := Below.size hS
    have HS2 := Lib.hid hS
    have c1 : w6.cell? ⟨ga, 1, none⟩ = some (.slice none 0 0) := (Hb2.out.cell 1).trans rfl
    clear hS
    have c0 : w6.cell? ⟨ga, 0, none⟩ = some (.slice none 0 0) := (Hb2.out.cell 0).trans rfl
    have f0 := Hb2.out.frozen 0
    have hga6 : ga < w6.heap.size := by omega
    revert Hb2 hsz2 c0 c1 f0 HS2 hga6
    generalize w6 = W2
    intro Hb2 hsz2 HS2 c1 c0 f0 hga6
    have a0 := (World.cell?_alloc_lt W2 (Obj.cells #[.bool true] 4) ⟨ga, 0, none⟩ hga6).trans c0
    go_wp2_with (at_builtin; refine wpList_push _ rfl (.tmp 53) (.tmp 54) _ rfl w.heap.size 4 i0 (.bool false) 1 1 Tryz.underlying106 hi0 hz0 hz1 hz2 rfl (by decide) (.slice none 0 0) 0 [] rfl (World.ownsRow_nil _ _ _ _) rfl rfl (by simp [Value.oneCell']) (by unfold maxLen; omega) (by omega) hsz2 ?_; intro v5 w5 hown5 hg5 hs5 hat5; rw [Nat.zero_add, List.nil_append] at hown5; obtain ⟨A9, c9, rfl, hm9⟩ := made_of_own hown5; have hB5 : Below W2.heap.size W2 w5 := ⟨hg5.os, hg5.tape, hg5.output, hg5.size, fun k hk => hg5.block k hk (by simp [Value.ownBlock])⟩; have hb5 := Hb2.out.below hB5 hga6; have d0 : w5.cell? ⟨ga, 0, none⟩ = some (.slice none 0 0) := (hb5.cell 0).trans rfl; have e0 := hb5.frozen 0)
    go_ret2
    have hset := Keep.setCell (F := fun b => b = ga) (Keep.refl (fun b => b = ga) w5) (p := ⟨ga, 0, none⟩) (.inl rfl) (.slice A9 1 c9)
    exact ⟨rfl, ((Keep.of_below HS2.out).trans (Keep.of_below hB5)).trans hset, A9, c9, hb5.set 0 _, (hm9.mono (by omega)).keepF hset (fun b hb => by subst hb; exact hgl)⟩
end Go.Proofs.YthkkcelfgcholaaGreat
namespace Go.Proofs.YthkkcelfgcholaaGreat
open Go.RowKit
set_option linter.unusedVariables false
set_option linter.unusedSimpArgs false
/-- A leaf's eight cells. -/
def leafL (x y : Int) (gb : Nat) : List Value := [.int .i64 (-1), .int .i64 (-1), .int .i64 0, .int .i64 x, .int .i64 y, .int .i64 0, .int .i64 0, .pointer (some ⟨gb, 0, none⟩)]
/-- The row of nodes: a leaf alone. -/
def RowS (B gl cl gb : Nat) (x y : Int) (w : World) : Prop := w.ownsRow B 120 8 (.slice (some ⟨gl, 0, none⟩) 1 cl) 1 (leafL x y gb)
theorem RowS.grow {B gl cl gb : Nat} {x y : Int} {w w' : World} (h : RowS B gl cl gb x y w) (k : Below w.heap.size w w') : RowS B gl cl gb x y w' := own_below h k
theorem RowS.at3 {B gl cl gb : Nat} {x y : Int} {w : World} (h : RowS B gl cl gb x y w) (z : Int) : RowS B gl cl gb z y (w.setCell ⟨gl, 3, none⟩ (.int .i64 z)) := (World.ownsRow.stored h 3 (.int .i64 z)).1
theorem RowS.at4 {B gl cl gb : Nat} {x y : Int} {w : World} (h : RowS B gl cl gb x y w) (z : Int) : RowS B gl cl gb x z (w.setCell ⟨gl, 4, none⟩ (.int .i64 z)) := (World.ownsRow.stored h 4 (.int .i64 z)).1
theorem RowS.lt {B gl cl gb : Nat} {x y : Int} {w : World} (h : RowS B gl cl gb x y w) : B ≤ gl ∧ gl < w.heap.size := World.ownsRow.lt h gl rfl
theorem RowS.bk_ne {B gl cl gb g : Nat} {x y : Int} {w : World} {t : TypeId} {cs : Array Value} (h : RowS B gl cl gb x y w) (hg : Bk w g t cs) (hne : 120 ≠ t) : g ≠ gl := fun e => own_bk_ne h hg hne (by rw [e]; rfl)
def FixC (W0 : World) (B gl cl gb : Nat) (w1 : World) : Prop := Keep (fun b => b = gl) W0 w1 ∧ ∃ x y, RowS B gl cl gb x y w1
def FixS (B gl cl gb : Nat) (N O : Int) (j : Nat) (w1 w2 : World) : Prop :=
  (j = 14 → Keep (fun b => b = gl) w1 w2 ∧ ∀ x y, RowS B gl cl gb x y w1 → RowS B gl cl gb N y w2) ∧ (j = 17 → Keep (fun b => b = gl) w1 w2 ∧ ∀ x y, RowS B gl cl gb x y w1 → RowS B gl cl gb x O w2) ∧ (j ≠ 14 → j ≠ 17 → Grow w1 w2)
theorem fixs_grow {B gl cl gb : Nat} {N O : Int} {j : Nat} {w1 w2 : World} (h1 : j ≠ 14) (h2 : j ≠ 17) (h : Grow w1 w2) : FixS B gl cl gb N O j w1 w2 := ⟨fun e => absurd e h1, fun e => absurd e h2, fun _ _ => h⟩
theorem fixc_step {W0 w1 w2 : World} {B gl cl gb j : Nat} {N O : Int} (h : FixC W0 B gl cl gb w1) (k : FixS B gl cl gb N O j w1 w2) : FixC W0 B gl cl gb w2 := by
  obtain ⟨h1, x, y, h2⟩ := h
  by_cases h14 : j = 14
  · obtain ⟨k1, k2⟩ := k.1 h14
    exact ⟨h1.trans k1, _, _, k2 x y h2⟩
  · by_cases h17 : j = 17
    · obtain ⟨k1, k2⟩ := k.2.1 h17
      exact ⟨h1.trans k1, _, _, k2 x y h2⟩
    · have kg := k.2.2 h14 h17
      exact ⟨h1.trans (Keep.of_below kg), x, y, h2.grow kg⟩
def N3 (B gl cl gb : Nat) (N : Int) : Value → World → Prop := fun _ w1 => ∃ y, RowS B gl cl gb N y w1
def N4 (B gl cl gb : Nat) (O : Int) : Value → World → Prop := fun _ w1 => ∃ x, RowS B gl cl gb x O w1
set_option maxRecDepth 100000 in
set_option maxHeartbeats 4000000 in
theorem fix_leaf (gt ga gl cl gb B : Nat) (rt v : Int) (bs : List Bool) (w : World) (ht : Bk w gt 117 #[.pointer (some ⟨ga, 0, none⟩), .slice (some ⟨gl, 0, none⟩) 1 cl, .int .i64 rt, .int .i64 v]) {x0 y0 : Int} (hr : RowS B gl cl gb x0 y0 w) (hb : Bk w gb 147 (blkC bs)) (hl : bs.length ≤ 128) :
    Calls Tryz.prog 154 #[.pointer (some ⟨gt, 0, none⟩), .int .i64 0] w fun e w' => e = .returned (.tuple #[]) ∧ Keep (fun b => b = gl) w w' ∧ RowS B gl cl gb (bs.length : Int) ((bs.count true : Nat) : Int) w' := by
  obtain ⟨N, hN⟩ : ∃ N : Int, (bs.length : Int) = N := ⟨_, rfl⟩
  obtain ⟨O, hO⟩ : ∃ O : Int, ((bs.count true : Nat) : Int) = O := ⟨_, rfl⟩
  rw [hN, hO]
  have HN := Lib.hid hN
  have HO := Lib.hid hO
  have c1 : w.cell? ⟨gt, 1, none⟩ = some (.slice (some ⟨gl, 0, none⟩) 1 cl) := (ht.cell 1).trans rfl
  have c7 : w.cell? ⟨gl, 7, none⟩ = some (.pointer (some ⟨gb, 0, none⟩)) := (World.ownsRow.cellAt hr 7 (by omega)).trans rfl
  have hglt := hr.lt
  have hbne := hr.bk_ne hb (by decide)
  have Hb := Lib.hid hb
  have Hr := Lib.hid hr
  clear hN hO ht hb hr
  go_enter Tryz.func154, Tryz.ntmps154
  go_wp2
  refine wp_region_any (by kernel_rfl) ?_
  refine wpAny_loose8 [18, 19, 20, 21, 22, 23, 24, 25, 26, 27, 28, 29, 30, 31, 32, 33] (FixC w B gl cl gb) (FixS B gl cl gb N O) (fun _ _ => True) (Vs [is (.pointer (some ⟨gl, 0, none⟩)), is (.pointer (some ⟨gl, 0, none⟩)), is (.pointer (some ⟨gl, 0, none⟩)), is (.pointer (some ⟨gl, 0, none⟩)), is (.pointer (some ⟨gl, 7, none⟩)), is (.pointer (some ⟨gb, 0, none⟩)), is (.int .i64 N), is (.pointer (some ⟨gl, 0, none⟩)), is (.pointer (some ⟨gl, 0, none⟩)), is (.pointer (some ⟨gl, 7, none⟩)), is (.pointer (some ⟨gb, 0, none⟩)), is (.int .i64 O), is (.pointer (some ⟨gl, 0, none⟩)), is (.pointer (some ⟨gl, 3, none⟩)), N3 B gl cl gb N, is (.pointer (some ⟨gl, 0, none⟩)), is (.pointer (some ⟨gl, 4, none⟩)), N4 B gl cl gb O]) _ _ rfl (by kernel_rfl) ⟨⟨rfl, rfl, rfl, Nat.le_refl _, fun _ _ _ => rfl⟩, _, _, Hr.out⟩ (fun _ => trivial) (fun j w1 w2 h k => fixc_step h k) (fun _ _ _ _ _ _ _ _ _ => trivial) ?_ ?_ ?_
  · intro i j v w1 w2 hij haf hv hC k
    rcases i with _ | _ | _ | _ | _ | _ | _ | _ | _ | _ | _ | _ | _ | _ | _ | _ | _ | _ | i
    · exact hv
    · exact hv
    · exact hv
    · exact hv
    · exact hv
    · exact hv
    · exact hv
    · exact hv
    · exact hv
    · exact hv
    · exact hv
    · exact hv
    · exact hv
    · exact hv
    · obtain ⟨y, hv⟩ := hv
      by_cases h17 : j = 17
      · exact ⟨_, (k.2.1 h17).2 _ _ hv⟩
      · exact ⟨_, RowS.grow hv (k.2.2 (fun e => hij e.symm) h17)⟩
    · exact hv
    · exact hv
    · obtain ⟨x, hv⟩ := hv
      by_cases h14 : j = 14
      · exact ⟨_, (k.1 h14).2 _ _ hv⟩
      · exact ⟨_, RowS.grow hv (k.2.2 h14 (fun e => hij e.symm))⟩
    · exact trivial
  · refine steps_of ?_
    refine steps_cons ?_ ?_
    · refine step_on3 rfl rfl ?_
      intro ev w5 hS hU hc hf hold hval a K ha hK
      obtain ⟨hk5, x5, y5, hr5⟩ := hS
      have e4 : ev (.tmp 4) = .pointer (some ⟨gl, 0, none⟩) := hold 4 (by kernel_rfl)
      go_simp
      exact hK _ _ (fixs_grow (by decide) (by decide) (Below.refl _ _)) rfl
    refine steps_cons ?_ ?_
    · refine step_on3 rfl rfl ?_
      intro ev w5 hS hU hc hf hold hval a K ha hK
      obtain ⟨hk5, x5, y5, hr5⟩ := hS
      have e4 : ev (.tmp 4) = .pointer (some ⟨gl, 0, none⟩) := hold 4 (by kernel_rfl)
      go_simp
      exact hK _ _ (fixs_grow (by decide) (by decide) (Below.refl _ _)) rfl
    refine steps_cons ?_ ?_
    · refine step_on3 rfl rfl ?_
      intro ev w5 hS hU hc hf hold hval a K ha hK
      obtain ⟨hk5, x5, y5, hr5⟩ := hS
      have e4 : ev (.tmp 4) = .pointer (some ⟨gl, 0, none⟩) := hold 4 (by kernel_rfl)
      go_simp
      exact hK _ _ (fixs_grow (by decide) (by decide) (Below.refl _ _)) rfl
    refine steps_cons ?_ ?_
    · refine step_on3 rfl rfl ?_
      intro ev w5 hS hU hc hf hold hval a K ha hK
      obtain ⟨hk5, x5, y5, hr5⟩ := hS
      have e20 : ev (.tmp 20) = .pointer (some ⟨gl, 0, none⟩) := hval 2 20 (by kernel_rfl) rfl
      go_simp
      exact hK _ _ (fixs_grow (by decide) (by decide) (Below.refl _ _)) rfl
    refine steps_cons ?_ ?_
    · refine step_on3 rfl rfl ?_
      intro ev w5 hS hU hc hf hold hval a K ha hK
      obtain ⟨hk5, x5, y5, hr5⟩ := hS
      have e21 : ev (.tmp 21) = .pointer (some ⟨gl, 0, none⟩) := hval 3 21 (by kernel_rfl) rfl
      go_simp
      exact hK _ _ (fixs_grow (by decide) (by decide) (Below.refl _ _)) rfl
    refine steps_cons ?_ ?_
    · refine step_on3 rfl rfl ?_
      intro ev w5 hS hU hc hf hold hval a K ha hK
      obtain ⟨hk5, x5, y5, hr5⟩ := hS
      have e22 : ev (.tmp 22) = .pointer (some ⟨gl, 7, none⟩) := hval 4 22 (by kernel_rfl) rfl
      have d7 : w5.cell? ⟨gl, 7, none⟩ = some (.pointer (some ⟨gb, 0, none⟩)) := (World.ownsRow.cellAt hr5 7 (by omega)).trans rfl
      go_simp
      exact hK _ _ (fixs_grow (by decide) (by decide) (Below.refl _ _)) rfl
    refine steps_cons ?_ ?_
    · refine step_on3 rfl rfl ?_
      intro ev w5 hS hU hc hf hold hval a K ha hK
      obtain ⟨hk5, x5, y5, hr5⟩ := hS
      have e23 : ev (.tmp 23) = .pointer (some ⟨gb, 0, none⟩) := hval 5 23 (by kernel_rfl) rfl
      have hb5 := hk5.bk Hb.out (fun e => hbne e)
      go_simp
      refine (BlockLen_any gb bs w5 hb5).mono ?_
      rintro e w8 ⟨rfl, rfl⟩
      exact hK _ _ (fixs_grow (by decide) (by decide) (Below.refl _ _)) (i64_eq HN.out)
    refine steps_cons ?_ ?_
    · refine step_on3 rfl rfl ?_
      intro ev w5 hS hU hc hf hold hval a K ha hK
      obtain ⟨hk5, x5, y5, hr5⟩ := hS
      have e4 : ev (.tmp 4) = .pointer (some ⟨gl, 0, none⟩) := hold 4 (by kernel_rfl)
      go_simp
      exact hK _ _ (fixs_grow (by decide) (by decide) (Below.refl _ _)) rfl
    refine steps_cons ?_ ?_
    · refine step_on3 rfl rfl ?_
      intro ev w5 hS hU hc hf hold hval a K ha hK
      obtain ⟨hk5, x5, y5, hr5⟩ := hS
      have e25 : ev (.tmp 25) = .pointer (some ⟨gl, 0, none⟩) := hval 7 25 (by kernel_rfl) rfl
      go_simp
      exact hK _ _ (fixs_grow (by decide) (by decide) (Below.refl _ _)) rfl
    refine steps_cons ?_ ?_
    · refine step_on3 rfl rfl ?_
      intro ev w5 hS hU hc hf hold hval a K ha hK
      obtain ⟨hk5, x5, y5, hr5⟩ := hS
      have e26 : ev (.tmp 26) = .pointer (some ⟨gl, 0, none⟩) := hval 8 26 (by kernel_rfl) rfl
      go_simp
      exact hK _ _ (fixs_grow (by decide) (by decide) (Below.refl _ _)) rfl
    refine steps_cons ?_ ?_
    · refine step_on3 rfl rfl ?_
      intro ev w5 hS hU hc hf hold hval a K ha hK
      obtain ⟨hk5, x5, y5, hr5⟩ := hS
      have e27 : ev (.tmp 27) = .pointer (some ⟨gl, 7, none⟩) := hval 9 27 (by kernel_rfl) rfl
      have d7 : w5.cell? ⟨gl, 7, none⟩ = some (.pointer (some ⟨gb, 0, none⟩)) := (World.ownsRow.cellAt hr5 7 (by omega)).trans rfl
      go_simp
      exact hK _ _ (fixs_grow (by decide) (by decide) (Below.refl _ _)) rfl
    refine steps_cons ?_ ?_
    · refine step_on3 rfl rfl ?_
      intro ev w5 hS hU hc hf hold hval a K ha hK
      obtain ⟨hk5, x5, y5, hr5⟩ := hS
      have e28 : ev (.tmp 28) = .pointer (some ⟨gb, 0, none⟩) := hval 10 28 (by kernel_rfl) rfl
      have hb5 := hk5.bk Hb.out (fun e => hbne e)
      go_simp
      refine (BlockOnes_any gb bs w5 hb5 hl).mono ?_
      rintro e w8 ⟨rfl, rfl⟩
      exact hK _ _ (fixs_grow (by decide) (by decide) (Below.refl _ _)) (i64_eq HO.out)
    refine steps_cons ?_ ?_
    · refine step_on3 rfl rfl ?_
      intro ev w5 hS hU hc hf hold hval a K ha hK
      obtain ⟨hk5, x5, y5, hr5⟩ := hS
      have e18 : ev (.tmp 18) = .pointer (some ⟨gl, 0, none⟩) := hval 0 18 (by kernel_rfl) rfl
      go_simp
      exact hK _ _ (fixs_grow (by decide) (by decide) (Below.refl _ _)) rfl
    refine steps_cons ?_ ?_
    · refine step_on3 rfl rfl ?_
      intro ev w5 hS hU hc hf hold hval a K ha hK
      obtain ⟨hk5, x5, y5, hr5⟩ := hS
      have e30 : ev (.tmp 30) = .pointer (some ⟨gl, 0, none⟩) := hval 12 30 (by kernel_rfl) rfl
      go_simp
      exact hK _ _ (fixs_grow (by decide) (by decide) (Below.refl _ _)) rfl
    refine steps_cons ?_ ?_
    · refine step_on3 rfl rfl ?_
      intro ev w5 hS hU hc hf hold hval a K ha hK
      obtain ⟨hk5, x5, y5, hr5⟩ := hS
      have e31 : ev (.tmp 31) = .pointer (some ⟨gl, 3, none⟩) := hval 13 31 (by kernel_rfl) rfl
      have e24 : ev (.tmp 24) = .int .i64 N := hval 6 24 (by kernel_rfl) rfl
      have d3 : w5.cell? ⟨gl, 3, none⟩ = some (.int .i64 x5) := (World.ownsRow.cellAt hr5 3 (by omega)).trans rfl
      have f3 := World.ownsRow.frozenAt hr5 3
      go_simp
      exact hK (.bool true) _ ⟨fun _ => ⟨Keep.setCell (F := fun b => b = gl) (Keep.refl _ _) (p := ⟨gl, 3, none⟩) (.inl rfl) _, fun x y h => h.at3 N⟩, fun e => absurd e (by decide), fun e => absurd rfl e⟩ ⟨y5, hr5.at3 N⟩
    refine steps_cons ?_ ?_
    · refine step_on3 rfl rfl ?_
      intro ev w5 hS hU hc hf hold hval a K ha hK
      obtain ⟨hk5, x5, y5, hr5⟩ := hS
      have e19 : ev (.tmp 19) = .pointer (some ⟨gl, 0, none⟩) := hval 1 19 (by kernel_rfl) rfl
      go_simp
      exact hK _ _ (fixs_grow (by decide) (by decide) (Below.refl _ _)) rfl
    refine steps_cons ?_ ?_
    · refine step_on3 rfl rfl ?_
      intro ev w5 hS hU hc hf hold hval a K ha hK
      obtain ⟨hk5, x5, y5, hr5⟩ := hS
      have e32 : ev (.tmp 32) = .pointer (some ⟨gl, 0, none⟩) := hval 15 32 (by kernel_rfl) rfl
      go_simp
      exact hK _ _ (fixs_grow (by decide) (by decide) (Below.refl _ _)) rfl
    refine steps_cons ?_ ?_
    · refine step_on3 rfl rfl ?_
      intro ev w5 hS hU hc hf hold hval a K ha hK
      obtain ⟨hk5, x5, y5, hr5⟩ := hS
      have e33 : ev (.tmp 33) = .pointer (some ⟨gl, 4, none⟩) := hval 16 33 (by kernel_rfl) rfl
      have e29 : ev (.tmp 29) = .int .i64 O := hval 11 29 (by kernel_rfl) rfl
      have d4 : w5.cell? ⟨gl, 4, none⟩ = some (.int .i64 y5) := (World.ownsRow.cellAt hr5 4 (by omega)).trans rfl
      have f4 := World.ownsRow.frozenAt hr5 4
      go_simp
      exact hK (.bool true) _ ⟨fun e => absurd e (by decide), fun _ => ⟨Keep.setCell (F := fun b => b = gl) (Keep.refl _ _) (p := ⟨gl, 4, none⟩) (.inl rfl) _, fun x y h => h.at4 O⟩, fun _ e => absurd rfl e⟩ ⟨x5, hr5.at4 O⟩
    exact steps_nil
  · intro ev w6 hS hval hall
    obtain ⟨hk6, _⟩ := hS
    obtain ⟨_, y6, h14⟩ : ∃ v, N3 B gl cl gb N v w6 := hall 14 (by decide)
    obtain ⟨_, x6, h17⟩ : ∃ v, N4 B gl cl gb O v w6 := hall 17 (by decide)
    have hfin : RowS B gl cl gb N O w6 := by
      have q4 := (World.ownsRow.cellAt h14 4 (by omega)).symm.trans (World.ownsRow.cellAt h17 4 (by omega))
      have q5 : y6 = O := by simpa [leafL] using q4
      rw [← q5]
      exact h14
    simp only [putsOf, List.foldl_cons, List.foldl_nil, Act.put, List.setIfInBounds_toArray, List.set_cons_zero, List.set_cons_succ]
    clear hval hall
    go_wp2
    exact bodyPost_ret (results_none rfl _ _ _) rfl ⟨rfl, hk6, hfin⟩
end Go.Proofs.YthkkcelfgcholaaGreat
namespace Go.Proofs.YthkkcelfgcholaaGreat
open Go.RowKit
set_option linter.unusedVariables false
set_option linter.unusedSimpArgs false
theorem node_info : (Tryz.prog.info? 120).map (fun i => (i.zero, i.size, i.bytes)) = some (some (.agg #[.int .i64 0, .int .i64 0, .int .i64 0, .int .i64 0, .int .i64 0, .int .i64 0, .int .i64 0, .pointer none]), 8, 64) := by kernel_rfl
theorem rd_eight {w : World} {g sz : Nat} {e : TypeId} {cs : Array Value} (h : Bk w g e cs) (hs : cs.size = sz) : Rd w w.heap.size sz (some ⟨g, 0, none⟩) 1 cs.toList := by
  refine ⟨by simp [hs], fun _ => ⟨g, 0, rfl, h.lt, fun i u hu => ?_⟩⟩
  rw [Nat.zero_add, h.cell i]
  rw [← hu]
  simp
/-- A tree whose only node is a leaf of these bits, made since B; its arena. -/
structure Leaf (w : World) (B gt ga gl cl gb : Nat) (rt v : Int) (bs : List Bool) : Prop where
  tree : Bk w gt 117 #[.pointer (some ⟨ga, 0, none⟩), .slice (some ⟨gl, 0, none⟩) 1 cl, .int .i64 rt, .int .i64 v]
  row : RowS B gl cl gb (bs.length : Int) ((bs.count true : Nat) : Int) w
  blk : Bk w gb 147 (blkC bs)
  arena : ∃ A c, Bk w ga 108 #[.slice A 1 c, .slice none 0 0, .int .i64 268435456] ∧ Made w B 4 1 A 1 c [.bool true]
theorem own_row {w : World} {B : Nat} {A : Option Addr} {c : Nat} {xs : List Value} {e : TypeId} {sz : Nat} (h : w.ownsRow B e sz (.slice A 1 c) 1 xs) : ∃ gl, A = some ⟨gl, 0, none⟩ := by
  obtain ⟨g, cap, hv, _, _⟩ := World.ownsRow.form h (by omega)
  injection hv with hv
  exact ⟨g, hv⟩
theorem made_Tn {w w' : World} {B B' gl cl gb : Nat} {x y : Int} {A : Option Addr} {n c : Nat} {xs : List Value} (hr : RowS B gl cl gb x y w) (k : Keep (fun b => b = gl) w w') (h : Made w B' 4 1 A n c xs) : Made w' B' 4 1 A n c xs := by
  have ho : w'.ownsRow B' 4 1 (.slice A n c) n xs := by
    refine ⟨h.own.1, ?_⟩
    rcases h.own.2 with h1 | ⟨g', cap, cur, h1, h2, h3, h4⟩
    · exact .inl h1
    · refine .inr ⟨g', cap, cur, h1, h2, (k.block g' (lt_of_block h3) (fun e' => ?_)).trans h3, h4⟩
      exact hr.bk_ne (t := 4) h3 (by decide) e'
  exact ⟨ho, Rd.of_own ho, h.cap, h.max⟩
set_option maxRecDepth 100000 in
set_option maxHeartbeats 4000000 in
theorem node_first (gt ga gb : Nat) (v : Int) (bs : List Bool) (w : World) (ht : Bk w gt 117 #[.pointer (some ⟨ga, 0, none⟩), .slice none 0 0, .int .i64 (-1), .int .i64 v]) (ha : Bk w ga 108 #[.slice none 0 0, .slice none 0 0, .int .i64 268435456]) (hb : Bk w gb 147 (blkC bs)) (hl : bs.length ≤ 128) :
    Calls Tryz.prog 150 #[.pointer (some ⟨gt, 0, none⟩), .agg #[.int .i64 (-1), .int .i64 (-1), .int .i64 0, .int .i64 0, .int .i64 0, .int .i64 0, .int .i64 0, .pointer (some ⟨gb, 0, none⟩)]] w fun e w' => e = .returned (.int .i64 0) ∧ Keep (fun b => b = ga ∨ b = gt) w w' ∧ ∃ gl cl, Leaf w' w.heap.size gt ga gl cl gb (-1) v bs := by
  obtain ⟨i0, hi0, hz0, hz1, hz2⟩ := info_parts node_info
  have hgt := ht.lt
  have hga := ha.lt
  have hgb := hb.lt
  have hta : gt ≠ ga := Bk.ne ht ha (by decide)
  have htb : gt ≠ gb := Bk.ne ht hb (by decide)
  have hab : ga ≠ gb := Bk.ne ha hb (by decide)
  have q0 : w.cell? ⟨gt, 0, none⟩ = some (.pointer (some ⟨ga, 0, none⟩)) := (ht.cell 0).trans rfl
  have Ht := Lib.hid ht
  have Ha := Lib.hid ha
  have Hb := Lib.hid hb
  clear ht ha hb
  go_enter Tryz.func150, Tryz.ntmps150
  go_wp2_with fail
  obtain ⟨nb, hnb⟩ : ∃ nb, w.heap.size = nb := ⟨_, rfl⟩
  refine (Take_first ga _ (Ha.out.alloc _)).mono ?_
  rintro e w1 ⟨rfl, hk1, A1, c1, ha1, hm1⟩
  have hn1 : Bk w1 nb 120 #[.int .i64 (-1), .int .i64 (-1), .int .i64 0, .int .i64 0, .int .i64 0, .int .i64 0, .int .i64 0, .pointer (some ⟨gb, 0, none⟩)] := by
    rw [← hnb]
    exact hk1.bk (Bk.new w _ _) (fun h => absurd (show w.heap.size = ga from h) (by omega))
  have ht1 := hk1.bk (Ht.out.alloc _) (fun h => hta h)
  have hb1 := hk1.bk (Hb.out.alloc _) (fun h => hab h.symm)
  have hs1 := hk1.size
  rw [World.size_alloc] at hs1 hm1
  have q1 : w1.cell? ⟨gt, 1, none⟩ = some (.slice none 0 0) := (ht1.cell 1).trans rfl
  have HK1 := Lib.hid hk1
  clear hk1
  go_wp2_with fail
  refine wp_region_any (by kernel_rfl) ?_
  refine wpAny_keep [22, 23, 24, 25, 26, 27, 28, 29, 30, 31] (fun b => b = gt) 10 [4, 10] (fun w2 => Bk w2 gt 117 #[.pointer (some ⟨ga, 0, none⟩), .slice none 0 0, .int .i64 (-1), .int .i64 v]) (fun _ w2 => ∃ A c, Bk w2 gt 117 #[.pointer (some ⟨ga, 0, none⟩), .slice A 1 c, .int .i64 (-1), .int .i64 v] ∧ Made w2 (nb + 1) 120 8 A 1 c (leafL 0 0 gb)) [is (.pointer (some ⟨gt, 0, none⟩)), is (.pointer (some ⟨gt, 0, none⟩)), is (.pointer (some ⟨gt, 0, none⟩)), is (.pointer (some ⟨gt, 1, none⟩)), is (.slice none 0 0), is (.agg #[.int .i64 (-1), .int .i64 (-1), .int .i64 0, .int .i64 0, .int .i64 0, .int .i64 0, .int .i64 0, .pointer (some ⟨gb, 0, none⟩)]), newBk (fun b => b = gt) 120 #[.int .i64 (-1), .int .i64 (-1), .int .i64 0, .int .i64 0, .int .i64 0, .int .i64 0, .int .i64 0, .pointer (some ⟨gb, 0, none⟩)] fun g => .slice (some ⟨g, 0, none⟩) 1 1, madeV (nb + 1) 120 8 1 (leafL 0 0 gb), is (.pointer (some ⟨gt, 0, none⟩)), is (.pointer (some ⟨gt, 1, none⟩)), anyV] _ _ rfl (by kernel_rfl) (by kernel_rfl) (ht1) (fun w2 w3 h _ hg => Bk.below h hg h.lt) (fun _ _ _ ⟨A, c, h1, h2⟩ k => ⟨A, c, Bk.below h1 k h1.lt, h2.below k⟩) (by repeat' (first | exact stbk_is _ _ | exact stbk_any _ | exact stbk_newBk _ _ _ _ | exact stbk_made (fun b hb => by subst hb; omega) _ _ _ _ | (refine List.forall_mem_cons.2 ⟨?_, ?_⟩) | (intro p hp; cases hp))) ?_ ?_
  · refine steps_of ?_
    refine steps_cons ?_ ?_
    · refine step_on3 rfl rfl ?_
      intro ev w5 hS hU hc hf hold hval a K ha hK
      replace hS : Keep (fun b => b = gt) w1 w5 := ⟨hS.os, hS.tape, hS.output, hS.size, hS.block⟩
      clear hU
      have e0 : ev (.tmp 0) = .pointer (some ⟨gt, 0, none⟩) := hold 0 (by kernel_rfl)
      go_simp
      exact hK _ _ (kstep_grow (Below.refl _ _)) rfl
    refine steps_cons ?_ ?_
    · refine step_on3 rfl rfl ?_
      intro ev w5 hS hU hc hf hold hval a K ha hK
      replace hS : Keep (fun b => b = gt) w1 w5 := ⟨hS.os, hS.tape, hS.output, hS.size, hS.block⟩
      clear hU
      have e0 : ev (.tmp 0) = .pointer (some ⟨gt, 0, none⟩) := hold 0 (by kernel_rfl)
      go_simp
      exact hK _ _ (kstep_grow (Below.refl _ _)) rfl
    refine steps_cons ?_ ?_
    · refine step_on3 rfl rfl ?_
      intro ev w5 hS hU hc hf hold hval a K ha hK
      replace hS : Keep (fun b => b = gt) w1 w5 := ⟨hS.os, hS.tape, hS.output, hS.size, hS.block⟩
      clear hU
      have e23 : ev (.tmp 23) = .pointer (some ⟨gt, 0, none⟩) := hval 1 23 (by kernel_rfl) rfl
      go_simp
      exact hK _ _ (kstep_grow (Below.refl _ _)) rfl
    refine steps_cons ?_ ?_
    · refine step_on3 rfl rfl ?_
      intro ev w5 hS hU hc hf hold hval a K ha hK
      replace hS : Keep (fun b => b = gt) w1 w5 := ⟨hS.os, hS.tape, hS.output, hS.size, hS.block⟩
      clear hU
      have e24 : ev (.tmp 24) = .pointer (some ⟨gt, 0, none⟩) := hval 2 24 (by kernel_rfl) rfl
      go_simp
      exact hK _ _ (kstep_grow (Below.refl _ _)) rfl
    refine steps_cons ?_ ?_
    · refine step_on3 rfl rfl ?_
      intro ev w5 hS hU hc hf hold hval a K ha hK
      replace hS : Keep (fun b => b = gt) w1 w5 := ⟨hS.os, hS.tape, hS.output, hS.size, hS.block⟩
      have hpre := hU rfl
      clear hU
      have e25 : ev (.tmp 25) = .pointer (some ⟨gt, 1, none⟩) := hval 3 25 (by kernel_rfl) rfl
      have c26 : w5.cell? ⟨gt, 1, none⟩ = some (.slice none 0 0) := (hpre.cell 1).trans rfl
      go_simp
      exact hK _ _ (kstep_grow (Below.refl _ _)) rfl
    refine steps_cons ?_ ?_
    · refine step_on3 rfl rfl ?_
      intro ev w5 hS hU hc hf hold hval a K ha hK
      replace hS : Keep (fun b => b = gt) w1 w5 := ⟨hS.os, hS.tape, hS.output, hS.size, hS.block⟩
      clear hU
      have e3 : ev (.tmp 3) = .pointer (some ⟨nb, 0, none⟩) := hold 3 (by kernel_rfl)
      have hn5 := hS.bk hn1 (fun h => absurd (show nb = gt from h) (by omega))
      have x0 : w5.cell? ⟨nb, 0, none⟩ = some (.int .i64 (-1)) := (hn5.cell 0).trans rfl
      have x1 : w5.cell? ⟨nb, 1, none⟩ = some (.int .i64 (-1)) := (hn5.cell 1).trans rfl
      have x2 : w5.cell? ⟨nb, 2, none⟩ = some (.int .i64 0) := (hn5.cell 2).trans rfl
      have x3 : w5.cell? ⟨nb, 3, none⟩ = some (.int .i64 0) := (hn5.cell 3).trans rfl
      have x4 : w5.cell? ⟨nb, 4, none⟩ = some (.int .i64 0) := (hn5.cell 4).trans rfl
      have x5 : w5.cell? ⟨nb, 5, none⟩ = some (.int .i64 0) := (hn5.cell 5).trans rfl
      have x6 : w5.cell? ⟨nb, 6, none⟩ = some (.int .i64 0) := (hn5.cell 6).trans rfl
      have x7 : w5.cell? ⟨nb, 7, none⟩ = some (.pointer (some ⟨gb, 0, none⟩)) := (hn5.cell 7).trans rfl
      go_simp
      exact hK _ _ (kstep_grow (Below.refl _ _)) rfl
    refine steps_cons ?_ ?_
    · refine step_on3 rfl rfl ?_
      intro ev w5 hS hU hc hf hold hval a K ha hK
      replace hS : Keep (fun b => b = gt) w1 w5 := ⟨hS.os, hS.tape, hS.output, hS.size, hS.block⟩
      clear hU
      have e27 : ev (.tmp 27) = .agg #[.int .i64 (-1), .int .i64 (-1), .int .i64 0, .int .i64 0, .int .i64 0, .int .i64 0, .int .i64 0, .pointer (some ⟨gb, 0, none⟩)] := hval 5 27 (by kernel_rfl) rfl
      go_simp
      exact hK _ _ (kstep_grow ((Below.refl _ _).alloc (Nat.le_refl _) _)) ⟨_, rfl, Bk.new _ _ _, fun h => by have := hS.size; have h0 : w5.heap.size = gt := h; omega⟩
    refine steps_cons ?_ ?_
    · refine step_on3 rfl rfl ?_
      intro ev w5 hS hU hc hf hold hval a K ha hK
      replace hS : Keep (fun b => b = gt) w1 w5 := ⟨hS.os, hS.tape, hS.output, hS.size, hS.block⟩
      clear hU
      have e26 : ev (.tmp 26) = .slice none 0 0 := hval 4 26 (by kernel_rfl) rfl
      have p28 : (newBk (fun b => b = gt) 120 #[.int .i64 (-1), .int .i64 (-1), .int .i64 0, .int .i64 0, .int .i64 0, .int .i64 0, .int .i64 0, .pointer (some ⟨gb, 0, none⟩)] fun g => .slice (some ⟨g, 0, none⟩) 1 1) (ev (.tmp 28)) w5 := hval 6 28 (by kernel_rfl) rfl
      obtain ⟨g28, e28, hb28, hn28⟩ := p28
      subst ha
      have hw5 : nb + 1 ≤ w5.heap.size := by have := hS.size; omega
      refine wp_append_rd w5 (.tmp 26) (.tmp 28) _ rfl (nb + 1) 120 i0 _ 8 64 Tryz.underlying115 hi0 hz0 hz1 hz2 rfl (by decide) (.slice none 0 0) 0 [] e26 (World.ownsRow_nil _ _ _ _) w5.heap.size (some ⟨g28, 0, none⟩) 1 1 _ e28 (rd_eight hb28 rfl) (by simp [Value.oneCell']) (by unfold maxLen; omega) (by omega) hw5 ?_
      intro v6 w6 hown6 hg6 hat6
      rw [Nat.zero_add, List.nil_append] at hown6
      obtain ⟨A9, c9, rfl, hm9⟩ := made_of_own hown6
      exact hK _ _ (kstep_grow ⟨hg6.os, hg6.tape, hg6.output, hg6.size, fun k hk => hg6.block k hk (by simp [Value.ownBlock])⟩) ⟨A9, c9, rfl, hm9⟩
    refine steps_cons ?_ ?_
    · refine step_on3 rfl rfl ?_
      intro ev w5 hS hU hc hf hold hval a K ha hK
      replace hS : Keep (fun b => b = gt) w1 w5 := ⟨hS.os, hS.tape, hS.output, hS.size, hS.block⟩
      clear hU
      have e22 : ev (.tmp 22) = .pointer (some ⟨gt, 0, none⟩) := hval 0 22 (by kernel_rfl) rfl
      go_simp
      exact hK _ _ (kstep_grow (Below.refl _ _)) rfl
    refine steps_cons ?_ ?_
    · refine step_on3 rfl rfl ?_
      intro ev w5 hS hU hc hf hold hval a K ha hK
      replace hS : Keep (fun b => b = gt) w1 w5 := ⟨hS.os, hS.tape, hS.output, hS.size, hS.block⟩
      clear hU
      have e30 : ev (.tmp 30) = .pointer (some ⟨gt, 0, none⟩) := hval 8 30 (by kernel_rfl) rfl
      go_simp
      exact hK _ _ (kstep_grow (Below.refl _ _)) rfl
    refine steps_cons ?_ ?_
    · refine step_on3 rfl rfl ?_
      intro ev w5 hS hU hc hf hold hval a K ha hK
      replace hS : Keep (fun b => b = gt) w1 w5 := ⟨hS.os, hS.tape, hS.output, hS.size, hS.block⟩
      have hpre := hU rfl
      clear hU
      have e31 : ev (.tmp 31) = .pointer (some ⟨gt, 1, none⟩) := hval 9 31 (by kernel_rfl) rfl
      have p29 : (madeV (nb + 1) 120 8 1 (leafL 0 0 gb)) (ev (.tmp 29)) w5 := hval 7 29 (by kernel_rfl) rfl
      obtain ⟨A9, c9, e29, hm9⟩ := p29
      have c31 : w5.cell? ⟨gt, 1, none⟩ = some (.slice none 0 0) := (hpre.cell 1).trans rfl
      have f31 := hpre.frozen 1
      go_simp
      exact hK (.bool true) _ (kstep_keep (Keep.setCell (F := fun b => b = gt) (Keep.refl _ _) (p := ⟨gt, 1, none⟩) (.inl rfl) _)) ⟨A9, c9, hpre.set 1 _, hm9.keepF (Keep.setCell (F := fun b => b = gt) (Keep.refl _ _) (p := ⟨gt, 1, none⟩) (.inl rfl) _) (fun b hb => by subst hb; omega)⟩
    exact steps_nil
  · intro ev w6 hS hval hall
    replace hS : Keep (fun b => b = gt) w1 w6 := ⟨hS.os, hS.tape, hS.output, hS.size, hS.block⟩
    obtain ⟨vJ, pJ⟩ : ∃ vJ0, (fun _ w2 => ∃ A c, Bk w2 gt 117 #[.pointer (some ⟨ga, 0, none⟩), .slice A 1 c, .int .i64 (-1), .int .i64 v] ∧ Made w2 (nb + 1) 120 8 A 1 c (leafL 0 0 gb)) vJ0 w6 := hall 10 (by decide)
    simp only [putsOf, List.foldl_cons, List.foldl_nil, Act.put, List.setIfInBounds_toArray, List.set_cons_zero, List.set_cons_succ]
    clear hval hall
    obtain ⟨A9, c9, ht6, hm6⟩ := pJ
    obtain ⟨gl, rfl⟩ := own_row hm6.own
    have hr6 : RowS (nb + 1) gl c9 gb 0 0 w6 := hm6.own
    have hb6 := hS.bk hb1 (fun h => htb h.symm)
    have ha6 := hS.bk ha1 (fun h => hta h.symm)
    have hm16 := hm1.keepF hS (fun b hb => by subst hb; omega)
    have HS := Lib.hid hS
    have hgl := hr6.lt
    clear hS hm6
    go_wp2_with fail
    refine (fix_leaf gt ga gl c9 gb (nb + 1) (-1) v bs w6 ht6 hr6 hb6 hl).mono ?_
    rintro e w7 ⟨rfl, hk7, hr7⟩
    have ht7 := hk7.bk ht6 (fun h => absurd (show gt = gl from h) (by omega))
    have hb7 := hk7.bk hb6 (fun h => absurd (show gb = gl from h) (by omega))
    have ha7 := hk7.bk ha6 (fun h => absurd (show ga = gl from h) (by omega))
    have hm7 : Made w7 w.heap.size 4 1 A1 1 c1 [.bool true] := (made_Tn hr6 hk7 hm16).mono (by omega)
    have hkeep : Keep (fun b => b = ga ∨ b = gt) w w7 := by
      have k1 : Keep (fun b => b = ga ∨ b = gt) w w1 := (Keep.of_below ((Below.refl _ _).alloc (Nat.le_refl _) _)).trans (HK1.out.mono (fun b _ e => .inl e))
      have k2 := k1.trans (HS.out.mono (fun b _ e => .inr e))
      exact k2.trans' hk7 (fun b hb e => absurd (show b = gl from e) (by omega))
    go_wp2_with fail
    go_ret
    rw [hnb] at *
    exact ⟨rfl, hkeep, gl, c9, ht7, own_mono hr7 (by omega), hb7, A1, c1, ha7, hm7⟩
set_option maxRecDepth 100000 in
theorem leaf_first (gt ga gb : Nat) (v : Int) (bs : List Bool) (w : World) (ht : Bk w gt 117 #[.pointer (some ⟨ga, 0, none⟩), .slice none 0 0, .int .i64 (-1), .int .i64 v]) (ha : Bk w ga 108 #[.slice none 0 0, .slice none 0 0, .int .i64 268435456]) (hb : Bk w gb 147 (blkC bs)) (hl : bs.length ≤ 128) :
    Calls Tryz.prog 134 #[.pointer (some ⟨gt, 0, none⟩), .pointer (some ⟨gb, 0, none⟩)] w fun e w' => e = .returned (.int .i64 0) ∧ Keep (fun b => b = ga ∨ b = gt) w w' ∧ ∃ gl cl, Leaf w' w.heap.size gt ga gl cl gb (-1) v bs := by
  go_enter Tryz.func134, Tryz.ntmps134
  go_wp2_with fail
  refine (node_first gt ga gb v bs w ht ha hb hl).mono ?_
  rintro e w1 ⟨rfl, hk, gl, cl, h⟩
  go_wp2_with fail
  go_ret
  exact ⟨rfl, hk, gl, cl, h⟩
end Go.Proofs.YthkkcelfgcholaaGreat
namespace Go.Proofs.YthkkcelfgcholaaGreat
open Go.RowKit
set_option linter.unusedVariables false
set_option linter.unusedSimpArgs false
/-- A block made since B (its place is told), with its error 0. -/
def blkV (B : Nat) (bs : List Bool) : Value → World → Prop := fun v w => ∃ gb, v = .tuple #[.pointer (some ⟨gb, 0, none⟩), .int .i64 0] ∧ Bk w gb 147 (blkC bs) ∧ B ≤ gb
def blkP (B : Nat) (bs : List Bool) : Value → World → Prop := fun v w => ∃ gb, v = .pointer (some ⟨gb, 0, none⟩) ∧ Bk w gb 147 (blkC bs) ∧ B ≤ gb
theorem stbk_blkV (B : Nat) (bs : List Bool) : StbK (fun _ => False) (blkV B bs) := fun _ _ _ ⟨gb, h1, h2, h3⟩ k => ⟨gb, h1, k.bk h2 (fun h => h), h3⟩
theorem stbk_blkP (B : Nat) (bs : List Bool) : StbK (fun _ => False) (blkP B bs) := fun _ _ _ ⟨gb, h1, h2, h3⟩ k => ⟨gb, h1, k.bk h2 (fun h => h), h3⟩
theorem Leaf.mono {w : World} {B B' gt ga gl cl gb : Nat} {rt v : Int} {bs : List Bool} (h : Leaf w B gt ga gl cl gb rt v bs) (hB : B' ≤ B) : Leaf w B' gt ga gl cl gb rt v bs := by
  obtain ⟨A, c, h1, h2⟩ := h.arena
  exact ⟨h.tree, own_mono h.row hB, h.blk, A, c, h1, h2.mono hB⟩
set_option maxRecDepth 100000 in
set_option maxHeartbeats 4000000 in
theorem build_one (gt ga : Nat) (v : Int) (A : Option Addr) (m c B : Nat) (bs : List Bool) (w : World) (ht : Bk w gt 117 #[.pointer (some ⟨ga, 0, none⟩), .slice none 0 0, .int .i64 (-1), .int .i64 v]) (ha : Bk w ga 108 #[.slice none 0 0, .slice none 0 0, .int .i64 268435456]) (hr : Rd w B 1 A m (bs.map Value.bool)) (hB : B ≤ w.heap.size) (hm : m ≤ 128) (hmc : m ≤ c) :
    Calls Tryz.prog 141 #[.pointer (some ⟨gt, 0, none⟩), .slice A m c, .int .i64 0, .int .i64 1, .int .i64 1] w fun e w' => e = .returned (.int .i64 0) ∧ Keep (fun b => b = ga ∨ b = gt) w w' ∧ ∃ gl cl gb, Leaf w' w.heap.size gt ga gl cl gb (-1) v bs ∧ w.heap.size ≤ gb := by
  have hbl : bs.length = m := by simpa using hr.1
  have hd1 : ((m : Int) * 1).tdiv 1 = (m : Int) := by rw [Int.mul_one, Int.tdiv_one]
  have hgt := ht.lt
  have hga := ha.lt
  have Ht := Lib.hid ht
  have Ha := Lib.hid ha
  have Hr := Lib.hid (hr.mono hB)
  have Hbl := Lib.hid hbl
  have HW := Lib.hid (Below.refl w.heap.size w)
  clear ht ha hr hbl
  go_enter Tryz.func141, Tryz.ntmps141
  go_wp2_with fail
  refine wp_region_any (by kernel_rfl) ?_
  refine wpAny_keep [20, 21, 22, 23, 24, 25, 26, 27, 28, 29, 30, 31, 32, 33, 34, 19, 35, 36, 11, 12] (fun _ => False) 19 [] (fun _ => True) (anyV) [is (.slice A m c), is (.slice A m c), is (.int .i64 (m : Int)), is (.int .i64 0), is (.int .i64 0), is (.int .i64 1), is (.int .i64 0), is (.slice A m c), is (.int .i64 (m : Int)), is (.int .i64 1), is (.int .i64 (m : Int)), is (.int .i64 1), is (.int .i64 (m : Int)), is (.slice A m c), blkV w.heap.size bs, blkV w.heap.size bs, blkP w.heap.size bs, is (.int .i64 0), blkP w.heap.size bs, anyV] _ _ rfl (by kernel_rfl) (by kernel_rfl) (trivial) (fun _ _ _ _ _ => trivial) (fun _ _ _ _ _ => trivial) (by repeat' (first | exact stbk_is _ _ | exact stbk_any _ | exact stbk_blkV _ _ | exact stbk_blkP _ _ | (refine List.forall_mem_cons.2 ⟨?_, ?_⟩) | (intro p hp; cases hp))) ?_ ?_
  · refine steps_of ?_
    refine steps_cons ?_ ?_
    · refine step_on3 rfl rfl ?_
      intro ev w5 hS hU hc hf hold hval a K ha hK
      replace hS : Keep (fun _ => False) w w5 := ⟨hS.os, hS.tape, hS.output, hS.size, hS.block⟩
      clear hU
      have e1 : ev (.tmp 1) = .slice A m c := hold 1 (by kernel_rfl)
      go_simp
      exact hK _ _ (kstep_grow (Below.refl _ _)) rfl
    refine steps_cons ?_ ?_
    · refine step_on3 rfl rfl ?_
      intro ev w5 hS hU hc hf hold hval a K ha hK
      replace hS : Keep (fun _ => False) w w5 := ⟨hS.os, hS.tape, hS.output, hS.size, hS.block⟩
      clear hU
      have e1 : ev (.tmp 1) = .slice A m c := hold 1 (by kernel_rfl)
      go_simp
      exact hK _ _ (kstep_grow (Below.refl _ _)) rfl
    refine steps_cons ?_ ?_
    · refine step_on3 rfl rfl ?_
      intro ev w5 hS hU hc hf hold hval a K ha hK
      replace hS : Keep (fun _ => False) w w5 := ⟨hS.os, hS.tape, hS.output, hS.size, hS.block⟩
      clear hU
      have e21 : ev (.tmp 21) = .slice A m c := hval 1 21 (by kernel_rfl) rfl
      go_simp
      exact hK _ _ (kstep_grow (Below.refl _ _)) rfl
    refine steps_cons ?_ ?_
    · refine step_on3 rfl rfl ?_
      intro ev w5 hS hU hc hf hold hval a K ha hK
      replace hS : Keep (fun _ => False) w w5 := ⟨hS.os, hS.tape, hS.output, hS.size, hS.block⟩
      clear hU
      have e2 : ev (.tmp 2) = .int .i64 0 := hold 2 (by kernel_rfl)
      go_simp
      exact hK _ _ (kstep_grow (Below.refl _ _)) rfl
    refine steps_cons ?_ ?_
    · refine step_on3 rfl rfl ?_
      intro ev w5 hS hU hc hf hold hval a K ha hK
      replace hS : Keep (fun _ => False) w w5 := ⟨hS.os, hS.tape, hS.output, hS.size, hS.block⟩
      clear hU
      have e22 : ev (.tmp 22) = .int .i64 (m : Int) := hval 2 22 (by kernel_rfl) rfl
      have e23 : ev (.tmp 23) = .int .i64 0 := hval 3 23 (by kernel_rfl) rfl
      go_simp
      exact hK _ _ (kstep_grow (Below.refl _ _)) (i64_eq (by simp [IntKind.wrap_i64] <;> omega))
    refine steps_cons ?_ ?_
    · refine step_on3 rfl rfl ?_
      intro ev w5 hS hU hc hf hold hval a K ha hK
      replace hS : Keep (fun _ => False) w w5 := ⟨hS.os, hS.tape, hS.output, hS.size, hS.block⟩
      clear hU
      have e4 : ev (.tmp 4) = .int .i64 1 := hold 4 (by kernel_rfl)
      go_simp
      exact hK _ _ (kstep_grow (Below.refl _ _)) rfl
    refine steps_cons ?_ ?_
    · refine step_on3 rfl rfl ?_
      intro ev w5 hS hU hc hf hold hval a K ha hK
      replace hS : Keep (fun _ => False) w w5 := ⟨hS.os, hS.tape, hS.output, hS.size, hS.block⟩
      clear hU
      have e24 : ev (.tmp 24) = .int .i64 0 := hval 4 24 (by kernel_rfl) rfl
      have e25 : ev (.tmp 25) = .int .i64 1 := hval 5 25 (by kernel_rfl) rfl
      go_simp
      exact hK _ _ (kstep_grow (Below.refl _ _)) (i64_eq (by simp [IntKind.wrap_i64] <;> omega))
    refine steps_cons ?_ ?_
    · refine step_on3 rfl rfl ?_
      intro ev w5 hS hU hc hf hold hval a K ha hK
      replace hS : Keep (fun _ => False) w w5 := ⟨hS.os, hS.tape, hS.output, hS.size, hS.block⟩
      clear hU
      have e1 : ev (.tmp 1) = .slice A m c := hold 1 (by kernel_rfl)
      go_simp
      exact hK _ _ (kstep_grow (Below.refl _ _)) rfl
    refine steps_cons ?_ ?_
    · refine step_on3 rfl rfl ?_
      intro ev w5 hS hU hc hf hold hval a K ha hK
      replace hS : Keep (fun _ => False) w w5 := ⟨hS.os, hS.tape, hS.output, hS.size, hS.block⟩
      clear hU
      have e27 : ev (.tmp 27) = .slice A m c := hval 7 27 (by kernel_rfl) rfl
      go_simp
      exact hK _ _ (kstep_grow (Below.refl _ _)) rfl
    refine steps_cons ?_ ?_
    · refine step_on3 rfl rfl ?_
      intro ev w5 hS hU hc hf hold hval a K ha hK
      replace hS : Keep (fun _ => False) w w5 := ⟨hS.os, hS.tape, hS.output, hS.size, hS.block⟩
      clear hU
      have e3 : ev (.tmp 3) = .int .i64 1 := hold 3 (by kernel_rfl)
      go_simp
      exact hK _ _ (kstep_grow (Below.refl _ _)) rfl
    refine steps_cons ?_ ?_
    · refine step_on3 rfl rfl ?_
      intro ev w5 hS hU hc hf hold hval a K ha hK
      replace hS : Keep (fun _ => False) w w5 := ⟨hS.os, hS.tape, hS.output, hS.size, hS.block⟩
      clear hU
      have e28 : ev (.tmp 28) = .int .i64 (m : Int) := hval 8 28 (by kernel_rfl) rfl
      have e29 : ev (.tmp 29) = .int .i64 1 := hval 9 29 (by kernel_rfl) rfl
      go_simp
      exact hK _ _ (kstep_grow (Below.refl _ _)) (i64_eq (by simp [IntKind.wrap_i64] <;> omega))
    refine steps_cons ?_ ?_
    · refine step_on3 rfl rfl ?_
      intro ev w5 hS hU hc hf hold hval a K ha hK
      replace hS : Keep (fun _ => False) w w5 := ⟨hS.os, hS.tape, hS.output, hS.size, hS.block⟩
      clear hU
      have e4 : ev (.tmp 4) = .int .i64 1 := hold 4 (by kernel_rfl)
      go_simp
      exact hK _ _ (kstep_grow (Below.refl _ _)) rfl
    refine steps_cons ?_ ?_
    · refine step_on3 rfl rfl ?_
      intro ev w5 hS hU hc hf hold hval a K ha hK
      replace hS : Keep (fun _ => False) w w5 := ⟨hS.os, hS.tape, hS.output, hS.size, hS.block⟩
      clear hU
      have e30 : ev (.tmp 30) = .int .i64 (m : Int) := hval 10 30 (by kernel_rfl) rfl
      have e31 : ev (.tmp 31) = .int .i64 1 := hval 11 31 (by kernel_rfl) rfl
      go_simp
      exact hK _ _ (kstep_grow (Below.refl _ _)) (i64_eq (by simp [IntKind.wrap_i64] <;> omega))
    refine steps_cons ?_ ?_
    · refine step_on3 rfl rfl ?_
      intro ev w5 hS hU hc hf hold hval a K ha hK
      replace hS : Keep (fun _ => False) w w5 := ⟨hS.os, hS.tape, hS.output, hS.size, hS.block⟩
      clear hU
      have e20 : ev (.tmp 20) = .slice A m c := hval 0 20 (by kernel_rfl) rfl
      have e26 : ev (.tmp 26) = .int .i64 0 := hval 6 26 (by kernel_rfl) rfl
      have e32 : ev (.tmp 32) = .int .i64 (m : Int) := hval 12 32 (by kernel_rfl) rfl
      go_simp
      exact hK _ _ (kstep_grow (Below.refl _ _)) rfl
    refine steps_cons ?_ ?_
    · refine step_on3 rfl rfl ?_
      intro ev w5 hS hU hc hf hold hval a K ha hK
      replace hS : Keep (fun _ => False) w w5 := ⟨hS.os, hS.tape, hS.output, hS.size, hS.block⟩
      clear hU
      have e33 : ev (.tmp 33) = .slice A m c := hval 13 33 (by kernel_rfl) rfl
      go_simp
      have hr5 := hS.rd Hr.out (Nat.le_refl _) (fun _ _ h => h)
      refine (BlockNew_any A m c w.heap.size bs w5 hr5 hS.size hm).mono ?_
      rintro e w8 ⟨rfl, hb8, hk8⟩
      exact hK _ _ (kstep_grow hk8) ⟨_, rfl, hb8, hS.size⟩
    refine steps_cons ?_ ?_
    · refine step_on3 rfl rfl ?_
      intro ev w5 hS hU hc hf hold hval a K ha hK
      replace hS : Keep (fun _ => False) w w5 := ⟨hS.os, hS.tape, hS.output, hS.size, hS.block⟩
      clear hU
      have p34 : (blkV w.heap.size bs) (ev (.tmp 34)) w5 := hval 14 34 (by kernel_rfl) rfl
      go_simp
      exact hK _ _ (kstep_grow (Below.refl _ _)) p34
    refine steps_cons ?_ ?_
    · refine step_on3 rfl rfl ?_
      intro ev w5 hS hU hc hf hold hval a K ha hK
      replace hS : Keep (fun _ => False) w w5 := ⟨hS.os, hS.tape, hS.output, hS.size, hS.block⟩
      clear hU
      have p19 : (blkV w.heap.size bs) (ev (.tmp 19)) w5 := hval 15 19 (by kernel_rfl) rfl
      go_simp
      obtain ⟨gb, e19, hb9, hg9⟩ := p19
      subst ha
      rw [e19]
      go_simp
      exact hK _ _ (kstep_grow (Below.refl _ _)) ⟨gb, rfl, hb9, hg9⟩
    refine steps_cons ?_ ?_
    · refine step_on3 rfl rfl ?_
      intro ev w5 hS hU hc hf hold hval a K ha hK
      replace hS : Keep (fun _ => False) w w5 := ⟨hS.os, hS.tape, hS.output, hS.size, hS.block⟩
      clear hU
      have p19 : (blkV w.heap.size bs) (ev (.tmp 19)) w5 := hval 15 19 (by kernel_rfl) rfl
      go_simp
      obtain ⟨gb, e19, hb9, hg9⟩ := p19
      subst ha
      rw [e19]
      go_simp
      exact hK _ _ (kstep_grow (Below.refl _ _)) rfl
    refine steps_cons ?_ ?_
    · refine step_on3 rfl rfl ?_
      intro ev w5 hS hU hc hf hold hval a K ha hK
      replace hS : Keep (fun _ => False) w w5 := ⟨hS.os, hS.tape, hS.output, hS.size, hS.block⟩
      clear hU
      have p35 : (blkP w.heap.size bs) (ev (.tmp 35)) w5 := hval 16 35 (by kernel_rfl) rfl
      go_simp
      exact hK _ _ (kstep_grow (Below.refl _ _)) p35
    refine steps_cons ?_ ?_
    · refine step_on3 rfl rfl ?_
      intro ev w5 hS hU hc hf hold hval a K ha hK
      replace hS : Keep (fun _ => False) w w5 := ⟨hS.os, hS.tape, hS.output, hS.size, hS.block⟩
      clear hU
      have e36 : ev (.tmp 36) = .int .i64 0 := hval 17 36 (by kernel_rfl) rfl
      go_simp
      exact hK _ _ (kstep_grow (Below.refl _ _)) trivial
    exact steps_nil
  · intro ev w6 hS hval hall
    replace hS : Keep (fun _ => False) w w6 := ⟨hS.os, hS.tape, hS.output, hS.size, hS.block⟩
    have p11 : (blkP w.heap.size bs) (ev (.tmp 11)) w6 := hval 18 11 rfl
    have e36 : ev (.tmp 36) = .int .i64 0 := hval 17 36 rfl
    obtain ⟨vJ, pJ⟩ : ∃ vJ0, (anyV) vJ0 w6 := hall 19 (by decide)
    simp only [putsOf, List.foldl_cons, List.foldl_nil, Act.put, List.setIfInBounds_toArray, List.set_cons_zero, List.set_cons_succ]
    rw [e36]
    clear hval hall
    obtain ⟨gb, e11, hb6, hg6⟩ := p11
    rw [e11]
    have ht6 := hS.bk Ht.out (fun h => h)
    have ha6 := hS.bk Ha.out (fun h => h)
    have hs6 := hS.size
    have HS := Lib.hid hS
    clear hS
    go_wp2_with fail
    refine (leaf_first gt ga gb v bs w6 ht6 ha6 hb6 (by rw [Hbl.out]; exact hm)).mono ?_
    rintro e w7 ⟨rfl, hk7, gl, cl, h7⟩
    go_wp2_with fail
    go_ret
    exact ⟨rfl, (HS.out.mono (fun _ _ h => h.elim)).trans hk7, gl, cl, gb, h7.mono hs6, hg6⟩
end Go.Proofs.YthkkcelfgcholaaGreat
