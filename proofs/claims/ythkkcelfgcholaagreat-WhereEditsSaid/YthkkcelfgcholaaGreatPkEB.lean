/- An arena that owns its blocks (ArenaE); the walks of arena's Take (a number that is free), Is and Free (one number). Conditions: at most 2^20 numbers. A tree that owns its blocks (TreeE: no node, or one leaf); the walks of tree's Insert and Delete. Conditions: at most 128 bits behind the edit. The walks of the wave's look with the closures of Insert and Delete. Conditions: at most 128 bits behind the edit; the tree owns its blocks. Plain laws of a wave under edits; a wave that owns its trees' blocks (WaveS, WaveE). No conditions. -/
import Derived.Test.YthkkcelfgcholaaGreatPkH
import Derived.Test.YthkkcelfgcholaaGreatPkEA
import Derived.BigQuiet
import Derived.Test.YthkkcelfgcholaaGreatPkD
import Derived.Test.YthkkcelfgcholaaGreatPkF
import Derived.Test.YthkkcelfgcholaaGreatQFnLF
namespace Go.Proofs.YthkkcelfgcholaaGreat
open Go.RowKit
set_option linter.unusedVariables false
set_option linter.unusedSimpArgs false
/-- The block of the slice v, if it has one, is F's. -/
def OwnF (F : Nat → Prop) (v : Value) : Prop := ∀ b, v.ownBlock = some b → F b
/-- F's blocks and those that were made since n. -/
def Gw (F : Nat → Prop) (n : Nat) (b : Nat) : Prop := F b ∨ n ≤ b
theorem Gw.keep {F : Nat → Prop} {w w1 w2 : World} (h : Keep F w w1) (k : Keep (Gw F w.heap.size) w1 w2) : Keep F w w2 := h.trans' k fun b hb g => by
  rcases g with g | g
  · exact g
  · omega
theorem OwnF.mono {F G : Nat → Prop} {v : Value} (h : OwnF F v) (k : ∀ b, F b → G b) : OwnF G v := fun b hb => k b (h b hb)
theorem OwnF.slice {F : Nat → Prop} {g o n c : Nat} (h : F g) : OwnF F (.slice (some ⟨g, o, none⟩) n c) := fun b hb => by
  injection hb with hb
  rw [← hb]
  exact h
theorem OwnF.at {F : Nat → Prop} {g o n c : Nat} (h : OwnF F (.slice (some ⟨g, o, none⟩) n c)) : F g := h g rfl
/-- An arena whose blocks are F's: which numbers are taken, which are free. -/
def ArenaE (w : World) (F : Nat → Prop) (ga : Nat) (tk : List Bool) (fr : List Nat) : Prop :=
  F ga ∧ ∃ At ct Af cf, Bk w ga 108 #[.slice At tk.length ct, .slice Af fr.length cf, .int .i64 268435456] ∧ w.ownsRow 0 4 1 (.slice At tk.length ct) tk.length (tk.map Value.bool) ∧ w.ownsRow 0 3 1 (.slice Af fr.length cf) fr.length (fr.map sv) ∧ OwnF F (.slice At tk.length ct) ∧ OwnF F (.slice Af fr.length cf)
theorem own_cut {w : World} {B n m sz c : Nat} {e : TypeId} {A : Option Addr} {xs : List Value} (h : w.ownsRow B e sz (.slice A n c) n xs) (hm : m ≤ n) (hn : 0 < n) : w.ownsRow B e sz (.slice A m c) m (xs.take (m * sz)) := by
  rcases h.2 with ⟨h1, h2⟩ | ⟨g, cap, cur, h1, h2, h3, h4, h5, h6, h7⟩
  · omega
  · injection h1 with h8 h9 h10
    subst h8 h10
    have hms : m * sz ≤ n * sz := Nat.mul_le_mul_right _ hm
    refine ⟨by rw [List.length_take, h.1]; omega, .inr ⟨g, c, cur, rfl, h2, h3, by omega, h5, h6, ?_⟩⟩
    rw [← h7, List.take_take, Nat.min_eq_left hms]
theorem own_cap {w : World} {B n sz c : Nat} {e : TypeId} {A : Option Addr} {xs : List Value} (h : w.ownsRow B e sz (.slice A n c) n xs) : n ≤ c ∧ c ≤ maxLen := by
  rcases h.2 with ⟨h1, h2⟩ | ⟨g, cap, cur, h1, h2, h3, h4, h5, h6, h7⟩
  · injection h1 with _ _ h1
    subst h1
    subst h2
    exact ⟨Nat.le_refl _, Nat.zero_le _⟩
  · injection h1 with _ _ h1
    subst h1
    exact ⟨h4, h5⟩
theorem ArenaE.vis {w w' : World} {F : Nat → Prop} {ga : Nat} {tk : List Bool} {fr : List Nat} (h : ArenaE w F ga tk fr) (k : Vis w w') : ArenaE w' F ga tk fr := by
  obtain ⟨h0, At, ct, Af, cf, h1, h2, h3, h4, h5⟩ := h
  exact ⟨h0, At, ct, Af, cf, k.bk h1 (by decide) (by decide), k.own h2 (by decide) (by decide), k.own h3 (by decide) (by decide), h4, h5⟩
theorem ArenaE.mono {w : World} {F G : Nat → Prop} {ga : Nat} {tk : List Bool} {fr : List Nat} (h : ArenaE w F ga tk fr) (k : ∀ b, b < w.heap.size → F b → G b) : ArenaE w G ga tk fr := by
  obtain ⟨h0, At, ct, Af, cf, h1, h2, h3, h4, h5⟩ := h
  exact ⟨k _ h1.lt h0, At, ct, Af, cf, h1, h2, h3, fun b hb => k b (h2.lt b hb).2 (h4 b hb), fun b hb => k b (h3.lt b hb).2 (h5 b hb)⟩
/-- It stays where its blocks do. -/
theorem ArenaE.keep {w w' : World} {F G : Nat → Prop} {ga : Nat} {tk : List Bool} {fr : List Nat} (h : ArenaE w F ga tk fr) (k : Keep G w w') (hf : ∀ b t cs, t ∈ [108, 4, 3] → Bk w b t cs → F b → ¬ G b) : ArenaE w' F ga tk fr := by
  obtain ⟨h0, At, ct, Af, cf, h1, h2, h3, h4, h5⟩ := h
  refine ⟨h0, At, ct, Af, cf, k.bk h1 (hf _ _ _ (by decide) h1 h0), own_same h2 fun b cs hb hk => k.bk hk (hf _ _ _ (by decide) hk (h4 b hb)), own_same h3 fun b cs hb hk => k.bk hk (hf _ _ _ (by decide) hk (h5 b hb)), h4, h5⟩
set_option maxRecDepth 100000 in
set_option maxHeartbeats 2000000 in
theorem TakePop_any (F : Nat → Prop) (ga k : Nat) (tk : List Bool) (fr : List Nat) (w : World) (h : ArenaE w F ga tk (fr ++ [k])) (hk : k < tk.length) (ht : tk.length ≤ 1000000) (hf : fr.length < tk.length) :
    Calls Tryz.prog 48 #[.pointer (some ⟨ga, 0, none⟩)] w fun e w' => e = .returned (.tuple #[.int .i64 (k : Int), .int .i64 0]) ∧ ArenaE w' F ga (tk.set k true) fr ∧ Keep F w w' := by
  obtain ⟨hFa, A, c, Af, cf, hb, hrt, hrf, hot, hof⟩ := h
  obtain ⟨N, hN⟩ : ∃ N, tk.length = N := ⟨_, rfl⟩
  obtain ⟨m, hm⟩ : ∃ m, fr.length = m := ⟨_, rfl⟩
  have hm1 : (fr ++ [k]).length = m + 1 := by simp [hm]
  rw [hm1] at hb hrf hof
  rw [hN] at hb hrt hot ht hk hf
  rw [hm] at hf
  obtain ⟨gt, ct, hA, _, hgt⟩ := World.ownsRow.form hrt (by omega)
  injection hA with hA _ hcc
  subst hA hcc
  obtain ⟨gf, c2, hA2, _, hgf⟩ := World.ownsRow.form hrf (by omega)
  injection hA2 with hA2 _ hcc2
  subst hA2 hcc2
  have hcf := own_cap hrf
  have hrf2 := own_cut (m := m) hrf (by omega) (by omega)
  have hfm : ((fr ++ [k]).map sv).take (m * 1) = fr.map sv := by
    have : (fr.map sv).length = m := by rw [List.length_map, hm]
    rw [List.map_append, Nat.mul_one, ← this, List.take_left]
  rw [hfm] at hrf2
  have ck : w.cell? ⟨gf, m, none⟩ = some (.int .i64 (k : Int)) := by
    refine (World.ownsRow.cellAt hrf m (by omega)).trans ?_
    rw [List.map_append, List.getElem?_append_right (by simp [hm]), List.length_map, hm, Nat.sub_self]
    rfl
  obtain ⟨tb, htb⟩ : ∃ tb, tk[k]? = some tb := ⟨_, List.getElem?_eq_getElem (by omega)⟩
  have ct' : w.cell? ⟨gt, k, none⟩ = some (.bool tb) := by
    refine (World.ownsRow.cellAt hrt k (by omega)).trans ?_
    rw [List.getElem?_map, htb]
    rfl
  have hta : ga ≠ gt := fun e => own_bk_ne hrt hb (by decide) (by rw [e]; rfl)
  have hfa : ga ≠ gf := fun e => own_bk_ne hrf hb (by decide) (by rw [e]; rfl)
  have hftk : ∃ cur, Bk w gt 4 cur := by
    rcases hrt.2 with ⟨h1, _⟩ | ⟨g', cap, cur, h1, _, h3, _⟩
    · cases h1
    · injection h1 with h1 _ _
      injection h1 with h1
      injection h1 with h1 _
      subst h1
      exact ⟨cur, h3⟩
  obtain ⟨cur, hbt⟩ := hftk
  have hgl := hb.lt
  have Hb := Lib.hid hb
  have Hrt := Lib.hid hrt
  have Hrf2 := Lib.hid hrf2
  have Hot := Lib.hid hot
  have Hof := Lib.hid hof
  have Hbt := Lib.hid hbt
  have HN := Lib.hid hN
  have Hm := Lib.hid hm
  clear hb hrt hrf hrf2 hot hof hfm hm1 htb hN hm hbt
  go_enter Tryz.func48, Tryz.ntmps48
  go_wp2
  refine wp_region_any (by kernel_rfl) ?_
  refine wpAny_loose2 [10, 11, 12, 13, 14, 15, 16, 9] (Grow) (Vs [is (.pointer (some ⟨ga, 0, none⟩)), is (.int .i64 ((N - (m + 1) : Nat) : Int)), is (.pointer (some ⟨ga, 0, none⟩)), is (.pointer (some ⟨ga, 0, none⟩)), is (.pointer (some ⟨ga, 2, none⟩)), is (.int .i64 268435456), is (.bool false), is (.bool false)]) _ _ rfl (by kernel_rfl) (Below.refl _ _) (fun _ _ => Grow.trans) (stbs_all (by repeat' (first | exact stbs_is _ _ | exact stbs_any _ | (refine List.forall_mem_cons.2 ⟨?_, ?_⟩) | (intro p hp; cases hp)))) ?_ ?_
  · refine steps_of ?_
    refine steps_cons ?_ ?_
    · refine step_on rfl rfl ?_
      intro ev w5 hS hc hf hold hval a K ha hK
      have e0 : ev (.tmp 0) = .pointer (some ⟨ga, 0, none⟩) := hold 0 (by kernel_rfl)
      replace hS : (Grow) w w5 := ⟨hS.os, hS.tape, hS.output, hS.size, hS.block⟩
      go_simp
      exact hK _ _ ((Below.refl _ _)) rfl
    refine steps_cons ?_ ?_
    · refine step_on rfl rfl ?_
      intro ev w5 hS hc hf hold hval a K ha hK
      have e10 : ev (.tmp 10) = .pointer (some ⟨ga, 0, none⟩) := hval 0 10 (by kernel_rfl) rfl
      replace hS : (Grow) w w5 := ⟨hS.os, hS.tape, hS.output, hS.size, hS.block⟩
      go_simp
      refine (ArenaLive_any ga (some ⟨gt, 0, none⟩) c (some ⟨gf, 0, none⟩) cf N (m + 1) w5 (Hb.out.below hS Hb.out.lt) (by omega) (by omega)).mono ?_
      rintro e w8 ⟨rfl, hb8⟩
      exact hK _ _ hb8 rfl
    refine steps_cons ?_ ?_
    · refine step_on rfl rfl ?_
      intro ev w5 hS hc hf hold hval a K ha hK
      have e0 : ev (.tmp 0) = .pointer (some ⟨ga, 0, none⟩) := hold 0 (by kernel_rfl)
      replace hS : (Grow) w w5 := ⟨hS.os, hS.tape, hS.output, hS.size, hS.block⟩
      go_simp
      exact hK _ _ ((Below.refl _ _)) rfl
    refine steps_cons ?_ ?_
    · refine step_on rfl rfl ?_
      intro ev w5 hS hc hf hold hval a K ha hK
      have e12 : ev (.tmp 12) = .pointer (some ⟨ga, 0, none⟩) := hval 2 12 (by kernel_rfl) rfl
      replace hS : (Grow) w w5 := ⟨hS.os, hS.tape, hS.output, hS.size, hS.block⟩
      go_simp
      exact hK _ _ ((Below.refl _ _)) rfl
    refine steps_cons ?_ ?_
    · refine step_on rfl rfl ?_
      intro ev w5 hS hc hf hold hval a K ha hK
      have e13 : ev (.tmp 13) = .pointer (some ⟨ga, 0, none⟩) := hval 3 13 (by kernel_rfl) rfl
      replace hS : (Grow) w w5 := ⟨hS.os, hS.tape, hS.output, hS.size, hS.block⟩
      go_simp
      exact hK _ _ ((Below.refl _ _)) rfl
    refine steps_cons ?_ ?_
    · refine step_on rfl rfl ?_
      intro ev w5 hS hc hf hold hval a K ha hK
      have e14 : ev (.tmp 14) = .pointer (some ⟨ga, 2, none⟩) := hval 4 14 (by kernel_rfl) rfl
      replace hS : (Grow) w w5 := ⟨hS.os, hS.tape, hS.output, hS.size, hS.block⟩
      have c15 : w5.cell? ⟨ga, 2, none⟩ = some (.int .i64 268435456) := ((Hb.out.below hS Hb.out.lt).cell 2).trans rfl
      go_simp
      exact hK _ _ ((Below.refl _ _)) rfl
    refine steps_cons ?_ ?_
    · refine step_on rfl rfl ?_
      intro ev w5 hS hc hf hold hval a K ha hK
      have e11 : ev (.tmp 11) = .int .i64 ((N - (m + 1) : Nat) : Int) := hval 1 11 (by kernel_rfl) rfl
      have e15 : ev (.tmp 15) = .int .i64 268435456 := hval 5 15 (by kernel_rfl) rfl
      replace hS : (Grow) w w5 := ⟨hS.os, hS.tape, hS.output, hS.size, hS.block⟩
      have hne : (((N - (m + 1) : Nat) : Int) == 268435456) = false := by rw [beq_eq_false_iff_ne]; omega
      go_simp
      exact hK _ _ (Below.refl _ _) (by first | rfl | simp [is] | (simp [is]; omega))
    refine steps_cons ?_ ?_
    · refine step_on rfl rfl ?_
      intro ev w5 hS hc hf hold hval a K ha hK
      have e16 : ev (.tmp 16) = .bool false := hval 6 16 (by kernel_rfl) rfl
      replace hS : (Grow) w w5 := ⟨hS.os, hS.tape, hS.output, hS.size, hS.block⟩
      go_simp
      exact hK _ _ ((Below.refl _ _)) rfl
    exact steps_nil
  · intro ev w6 hS hval
    replace hS : (Grow) w w6 := ⟨hS.os, hS.tape, hS.output, hS.size, hS.block⟩
    have e9 : ev (.tmp 9) = .bool false := hval 7 9 rfl
    simp only [putsOf, List.foldl_cons, List.foldl_nil, Act.put, List.setIfInBounds_toArray, List.set_cons_zero, List.set_cons_succ]
    rw [e9]
    clear hval
    have hbW := Hb.out.below hS Hb.out.lt
    have hbtW := Hbt.out.below hS Hbt.out.lt
    have c0 : w6.cell? ⟨ga, 0, none⟩ = some (.slice (some ⟨gt, 0, none⟩) N c) := (hbW.cell 0).trans rfl
    have c1 : w6.cell? ⟨ga, 1, none⟩ = some (.slice (some ⟨gf, 0, none⟩) (m + 1) cf) := (hbW.cell 1).trans rfl
    have f1 := hbW.frozen 1
    have ft := hbtW.frozen k
    have ck6 : w6.cell? ⟨gf, m, none⟩ = some (.int .i64 (k : Int)) := (hS.cell (p := ⟨gf, m, none⟩) hgf).trans ck
    have ct6 : w6.cell? ⟨gt, k, none⟩ = some (.bool tb) := (hS.cell (p := ⟨gt, k, none⟩) hgt).trans ct'
    have hga6 := hbW.lt
    have hgt6 := hbtW.lt
    have hgf6 : gf < w6.heap.size := Nat.lt_of_lt_of_le hgf hS.size
    have hrt6 := own_below Hrt.out hS
    have hrf6 := own_below Hrf2.out hS
    have HS := Lib.hid hS
    have HbW := Lib.hid hbW
    have HbtW := Lib.hid hbtW
    have Hrt6 := Lib.hid hrt6
    have Hrf6 := Lib.hid hrf6
    have e1 : IntKind.i64.wrap (((m + 1 : Nat) : Int) - 1) = (m : Int) := by rw [IntKind.wrap_i64]; omega
    have i1 : (m : Int) < ((m + 1 : Nat) : Int) := by omega
    have i2 : (k : Int) < (N : Int) := by omega
    have i3 : (m : Int) ≤ (cf : Int) := by omega
    have i4 : ((m + 1 : Nat) : Int) > 0 := by omega
    clear hS hbW hbtW hrt6 hrf6 ck ct'
    go_wp2_with fail
    go_ret2
    have hk1 : Keep F w w6 := Keep.of_below HS.out
    have hb7 := HbW.out.set 1 (.slice (some ⟨gf, 0, none⟩) m cf)
    have hb8 := hb7.far (p := ⟨gt, k, none⟩) hta (.bool true)
    have hrt7 := own_same (w' := w6.setCell ⟨ga, 1, none⟩ (.slice (some ⟨gf, 0, none⟩) m cf)) Hrt6.out fun b cs _ hb' => hb'.far (Bk.ne hb' HbW.out (by decide)) _
    have hrt8 := (World.ownsRow.stored hrt7 k (.bool true)).1
    have hrf7 := own_same (w' := w6.setCell ⟨ga, 1, none⟩ (.slice (some ⟨gf, 0, none⟩) m cf)) Hrf6.out fun b cs _ hb' => hb'.far (Bk.ne hb' HbW.out (by decide)) _
    have hbt7 := HbtW.out.far (p := ⟨ga, 1, none⟩) (fun e => hta e.symm) (.slice (some ⟨gf, 0, none⟩) m cf)
    have hrf8 := own_same (w' := (w6.setCell ⟨ga, 1, none⟩ (.slice (some ⟨gf, 0, none⟩) m cf)).setCell ⟨gt, k, none⟩ (.bool true)) hrf7 fun b cs _ hb' => hb'.far (Bk.ne hb' hbt7 (by decide)) _
    have hFt : F gt := OwnF.at Hot.out
    have hFf : F gf := OwnF.at Hof.out
    rw [show ((tk.map Value.bool).set k (.bool true)) = (tk.set k true).map Value.bool by rw [List.map_set]] at hrt8
    refine ⟨rfl, ⟨hFa, some ⟨gt, 0, none⟩, c, some ⟨gf, 0, none⟩, cf, ?_, ?_, ?_, ?_, ?_⟩, ?_⟩
    · rw [List.length_set, HN.out, Hm.out]
      exact hb8
    · rw [List.length_set, HN.out]
      exact hrt8
    · rw [Hm.out]
      exact hrf8
    · rw [List.length_set]
      exact OwnF.slice hFt
    · exact OwnF.slice hFf
    · exact Keep.setCell (F := F) (Keep.setCell (F := F) hk1 (p := ⟨ga, 1, none⟩) (.inl hFa) _) (p := ⟨gt, k, none⟩) (.inl hFt) _
set_option maxRecDepth 100000 in
theorem ArenaIs_any (F : Nat → Prop) (ga k : Nat) (tk : List Bool) (fr : List Nat) (w : World) (h : ArenaE w F ga tk fr) (hk : tk[k]? = some true) :
    Calls Tryz.prog 163 #[.pointer (some ⟨ga, 0, none⟩), .int .i64 (k : Int)] w fun e w' => e = .returned (.bool true) ∧ w = w' := by
  obtain ⟨hFa, A, c, Af, cf, hb, hrt, hrf, hot, hof⟩ := h
  obtain ⟨hkl, _⟩ := List.getElem?_eq_some_iff.1 hk
  obtain ⟨N, hN⟩ : ∃ N, tk.length = N := ⟨_, rfl⟩
  rw [hN] at hb hrt hkl
  obtain ⟨gt, ct, hA, _, hgt⟩ := World.ownsRow.form hrt (by omega)
  injection hA with hA _ hcc
  subst hA hcc
  have c0 : w.cell? ⟨ga, 0, none⟩ = some (.slice (some ⟨gt, 0, none⟩) N c) := (hb.cell 0).trans rfl
  have ck : w.cell? ⟨gt, k, none⟩ = some (.bool true) := by
    refine (World.ownsRow.cellAt hrt k (by omega)).trans ?_
    rw [List.getElem?_map, hk]
    rfl
  have hgl := hb.lt
  have hkI : (k : Int) < (N : Int) := by omega
  have hk0 : decide ((k : Int) ≥ 0) = true := by simp
  clear hb hrt hrf hot hof hN hk
  go_enter Tryz.func163, Tryz.ntmps163
  go_wp2_with fail
  go_ret
  exact ⟨rfl, rfl⟩
set_option maxRecDepth 100000 in
set_option maxHeartbeats 2000000 in
theorem Free_any (F : Nat → Prop) (ga gs k : Nat) (tk : List Bool) (fr : List Nat) (w : World) (h : ArenaE w F ga tk fr) (hk : tk[k]? = some true) (hs : Bk w gs 3 #[.int .i64 (k : Int)]) (hf : fr.length ≤ 1000000) :
    Calls Tryz.prog 149 #[.pointer (some ⟨ga, 0, none⟩), .slice (some ⟨gs, 0, none⟩) 1 1] w fun e w' => e = .returned (.int .i64 0) ∧ ArenaE w' (Gw F w.heap.size) ga (tk.set k false) (fr ++ [k]) ∧ Keep F w w' := by
  have his := ArenaIs_any F ga k tk fr w h hk
  obtain ⟨hFa, A, c, Af, cf, hb, hrt, hrf, hot, hof⟩ := h
  obtain ⟨hkl, _⟩ := List.getElem?_eq_some_iff.1 hk
  obtain ⟨i0, hi0, hz0, hz1, hz2⟩ := info_parts int_info
  obtain ⟨N, hN⟩ : ∃ N, tk.length = N := ⟨_, rfl⟩
  obtain ⟨m, hm⟩ : ∃ m, fr.length = m := ⟨_, rfl⟩
  rw [hm] at hb hrf hof hf
  rw [hN] at hb hrt hot hkl
  obtain ⟨gt, ct, hA, _, hgt⟩ := World.ownsRow.form hrt (by omega)
  injection hA with hA _ hcc
  subst hA hcc
  have ck : w.cell? ⟨gt, k, none⟩ = some (.bool true) := by
    refine (World.ownsRow.cellAt hrt k (by omega)).trans ?_
    rw [List.getElem?_map, hk]
    rfl
  have hta : ga ≠ gt := fun e => own_bk_ne hrt hb (by decide) (by rw [e]; rfl)
  have hftk : ∃ cur, Bk w gt 4 cur := by
    rcases hrt.2 with ⟨h1, _⟩ | ⟨g', cap, cur, h1, _, h3, _⟩
    · cases h1
    · injection h1 with h1 _ _
      injection h1 with h1
      injection h1 with h1 _
      subst h1
      exact ⟨cur, h3⟩
  obtain ⟨cur, hbt⟩ := hftk
  have ft := hbt.frozen k
  have c0 : w.cell? ⟨ga, 0, none⟩ = some (.slice (some ⟨gt, 0, none⟩) N c) := (hb.cell 0).trans rfl
  have cs0 : w.cell? ⟨gs, 0, none⟩ = some (.int .i64 (k : Int)) := (hs.cell 0).trans rfl
  have hgl := hb.lt
  have hgsl := hs.lt
  have hkI : (k : Int) < (N : Int) := by omega
  have hst : gs ≠ gt := Bk.ne hs hbt (by decide)
  obtain ⟨W, hW⟩ : ∃ W, w.setCell ⟨gt, k, none⟩ (.bool false) = W := ⟨_, rfl⟩
  have hbW : Bk W ga 108 #[.slice (some ⟨gt, 0, none⟩) N c, .slice Af m cf, .int .i64 268435456] := by rw [← hW]; exact hb.far (p := ⟨gt, k, none⟩) hta _
  have hsW : Bk W gs 3 #[.int .i64 (k : Int)] := by rw [← hW]; exact hs.far (p := ⟨gt, k, none⟩) hst _
  have hrtW : W.ownsRow 0 4 1 (.slice (some ⟨gt, 0, none⟩) N c) N ((tk.set k false).map Value.bool) := by
    rw [← hW, List.map_set]
    exact (World.ownsRow.stored hrt k (.bool false)).1
  have hrfW : W.ownsRow 0 3 1 (.slice Af m cf) m (fr.map sv) := by
    rw [← hW]
    exact own_same hrf fun b cs _ hb' => hb'.far (p := ⟨gt, k, none⟩) (Bk.ne hb' hbt (by decide)) _
  have hFt : F gt := OwnF.at hot
  have hkW : Keep F w W := by rw [← hW]; exact Keep.setCell (F := F) (Keep.refl _ _) (p := ⟨gt, k, none⟩) (.inl hFt) _
  have d0 : W.cell? ⟨ga, 1, none⟩ = some (.slice Af m cf) := (hbW.cell 1).trans rfl
  have hgW := hbW.lt
  have hrW : Rd W W.heap.size 1 (some ⟨gs, 0, none⟩) 1 [.int .i64 (k : Int)] := ⟨rfl, fun _ => ⟨gs, 0, rfl, hsW.lt, fun j u hu => by
    rw [Nat.zero_add, hsW.cell]
    rcases j with _ | j
    · exact hu
    · simp at hu⟩⟩
  have HbW := Lib.hid hbW
  have HrtW := Lib.hid hrtW
  have HrfW := Lib.hid hrfW
  have HkW := Lib.hid hkW
  have HrW := Lib.hid hrW
  have HW := Lib.hid hW
  have Hof := Lib.hid hof
  have Hm := Lib.hid hm
  have HN := Lib.hid hN
  have Hne := Lib.hid (own_bk_ne hrfW hbW (by decide))
  clear hb hrt hrf hot hof hN hm hbt hs hk hbW hsW hrtW hrfW hkW hW hrW
  go_enter Tryz.func149, Tryz.ntmps149
  go_wp2_with fail
  refine wp_loop_rounds 2 ?_
  rw [rounds_succ]
  go_wp2_with fail
  refine his.mono ?_
  rintro e w1 ⟨rfl, rfl⟩
  clear his
  go_wp2_with fail
  rw [HW.out]
  clear c0 cs0 ck ft
  rw [rounds_succ]
  go_wp2_with (at_builtin; refine wpList_append_rd _ rfl (.tmp 48) (.tmp 49) _ rfl 0 3 i0 (.int .i64 0) 1 8 Tryz.underlying22 hi0 hz0 hz1 hz2 rfl (by decide) (.slice Af m cf) m _ rfl HrfW.out _ _ _ _ _ rfl HrW.out (by simp [Value.oneCell']) (by unfold maxLen; omega) (by omega) (Nat.zero_le _) ?_; intro v5 w5 hown5 hg5 hat5; have hbk5 := HbW.out.grown hg5 Hne.out; have f5 := hbk5.frozen 1; have d5 := hbk5.cell 1; have Hown5 := Lib.hid hown5; have Hg5 := Lib.hid hg5; have Hat5 := Lib.hid hat5; have Hbk5 := Lib.hid hbk5; obtain ⟨A9, c9, rfl, hm9⟩ := made_of_own hown5; clear hown5 hg5 hat5 hbk5 hm9)
  go_ret
  have hk5 : Keep F w w5 := HkW.out.grown Hg5.out (fun j hj => .inl (Hof.out j hj))
  have hb6 := Hbk5.out.set 1 (.slice A9 (m + 1) c9)
  have hrt5 := World.ownsRow.kept HrtW.out Hg5.out (by
    rcases hh : (Value.slice Af m cf).ownBlock with _ | x
    · right
      simp [Value.ownBlock]
    · right
      intro e
      have e' : gt = x := by simpa [Value.ownBlock] using e
      subst e'
      rcases HrfW.out.2 with ⟨h1, _⟩ | ⟨g', cap, cur', h1, _, h3, _⟩
      · rw [h1] at hh
        simp [Value.ownBlock] at hh
      · rw [h1] at hh
        have e2 : g' = gt := by simpa [Value.ownBlock] using hh
        subst e2
        exact own_bk_ne HrtW.out (t := 3) h3 (by decide) rfl)
  have hrt6 := own_same (w' := w5.setCell ⟨ga, 1, none⟩ (.slice A9 (m + 1) c9)) hrt5 fun b cs _ hb' => hb'.far (Bk.ne hb' Hbk5.out (by decide)) _
  have hrf6 := own_same (w' := w5.setCell ⟨ga, 1, none⟩ (.slice A9 (m + 1) c9)) Hown5.out fun b cs _ hb' => hb'.far (Bk.ne hb' Hbk5.out (by decide)) _
  have hsz := HkW.out.size
  refine ⟨rfl, ⟨.inl hFa, some ⟨gt, 0, none⟩, c, A9, c9, ?_, ?_, ?_, ?_, ?_⟩, ?_⟩
  · rw [List.length_set, HN.out, List.length_append, Hm.out]
    exact hb6
  · rw [List.length_set, HN.out]
    exact hrt6
  · rw [List.length_append, Hm.out, List.map_append]
    exact hrf6
  · exact OwnF.slice (.inl hFt)
  · intro b hb
    rw [List.length_append, Hm.out] at hb
    rcases Hat5.out with h | h
    · exact .inl (Hof.out b (h.symm.trans hb))
    · have e3 := h.symm.trans hb
      injection e3 with e3
      exact .inr (by omega)
  · exact Keep.setCell (F := F) hk5 (p := ⟨ga, 1, none⟩) (.inl hFa) _
end Go.Proofs.YthkkcelfgcholaaGreat
namespace Go.Proofs.YthkkcelfgcholaaGreat
open Go.RowKit
set_option linter.unusedVariables false
set_option linter.unusedSimpArgs false
/-- gt is a tree of these bits whose blocks are F's: never a node, no node any more, or one leaf. -/
def TreeE (w : World) (F : Nat → Prop) (gt : Nat) (bs : List Bool) : Prop :=
  F gt ∧ ∃ (ga : Nat) (v : Int),
    (bs = [] ∧ F ga ∧ Bk w gt 117 #[.pointer (some ⟨ga, 0, none⟩), .slice none 0 0, .int .i64 (-1), .int .i64 v] ∧ Bk w ga 108 #[.slice none 0 0, .slice none 0 0, .int .i64 268435456]) ∨
    (bs = [] ∧ ∃ gl cl l8, F gl ∧ Bk w gt 117 #[.pointer (some ⟨ga, 0, none⟩), .slice (some ⟨gl, 0, none⟩) 1 cl, .int .i64 (-1), .int .i64 v] ∧ w.ownsRow 0 120 8 (.slice (some ⟨gl, 0, none⟩) 1 cl) 1 l8 ∧ ArenaE w F ga [false] [0]) ∨
    (bs ≠ [] ∧ bs.length ≤ 128 ∧ ∃ gl cl gb, F gl ∧ F gb ∧ LeafV w 0 gt ga gl cl gb 0 v bs ∧ ArenaE w F ga [true] [])
section
variable {w w' : World} {F G : Nat → Prop} {gt : Nat} {bs : List Bool}
theorem TreeE.at (h : TreeE w F gt bs) : TreeAt w gt bs := by
  obtain ⟨h0, ga, v, ⟨h1, h2, h3, h4⟩ | ⟨h1, gl, cl, l8, h2, h3, h4, h5⟩ | ⟨h1, h2, gl, cl, gb, h3, h4, h5, h6⟩⟩ := h
  · exact ⟨ga, v, .inl ⟨h1, _, h3⟩⟩
  · exact ⟨ga, v, .inl ⟨h1, _, h3⟩⟩
  · exact ⟨ga, v, .inr ⟨h1, h2, gl, cl, gb, h5⟩⟩
theorem TreeE.le (h : TreeE w F gt bs) : bs.length ≤ 128 := by
  obtain ⟨h0, ga, v, ⟨h1, h2, h3, h4⟩ | ⟨h1, gl, cl, l8, h2, h3, h4, h5⟩ | ⟨h1, h2, gl, cl, gb, h3, h4, h5, h6⟩⟩ := h
  · rw [h1]; simp
  · rw [h1]; simp
  · exact h2
theorem TreeE.vis (h : TreeE w F gt bs) (k : Vis w w') : TreeE w' F gt bs := by
  obtain ⟨h0, ga, v, ⟨h1, h2, h3, h4⟩ | ⟨h1, gl, cl, l8, h2, h3, h4, h5⟩ | ⟨h1, h2, gl, cl, gb, h3, h4, h5, h6⟩⟩ := h
  · obtain ⟨v', h3'⟩ := k.tree h3
    exact ⟨h0, ga, v', .inl ⟨h1, h2, h3', k.bk h4 (by decide) (by decide)⟩⟩
  · obtain ⟨v', h3'⟩ := k.tree h3
    exact ⟨h0, ga, v', .inr (.inl ⟨h1, gl, cl, l8, h2, h3', k.own h4 (by decide) (by decide), h5.vis k⟩)⟩
  · obtain ⟨v', h5'⟩ := h5.vis k
    exact ⟨h0, ga, v', .inr (.inr ⟨h1, h2, gl, cl, gb, h3, h4, h5', h6.vis k⟩)⟩
theorem TreeE.mono (h : TreeE w F gt bs) (k : ∀ b, b < w.heap.size → F b → G b) : TreeE w G gt bs := by
  obtain ⟨h0, ga, v, ⟨h1, h2, h3, h4⟩ | ⟨h1, gl, cl, l8, h2, h3, h4, h5⟩ | ⟨h1, h2, gl, cl, gb, h3, h4, h5, h6⟩⟩ := h
  · exact ⟨k _ h3.lt h0, ga, v, .inl ⟨h1, k _ h4.lt h2, h3, h4⟩⟩
  · exact ⟨k _ h3.lt h0, ga, v, .inr (.inl ⟨h1, gl, cl, l8, k _ (h4.lt _ rfl).2 h2, h3, h4, h5.mono k⟩)⟩
  · exact ⟨k _ h5.tree.lt h0, ga, v, .inr (.inr ⟨h1, h2, gl, cl, gb, k _ h5.row.lt.2 h3, k _ h5.blk.lt h4, h5, h6.mono k⟩)⟩
/-- It stays where its blocks do. -/
theorem TreeE.keep (h : TreeE w F gt bs) (k : Keep G w w') (hf : ∀ b t cs, t ∈ [117, 108, 120, 147, 4, 3] → Bk w b t cs → F b → ¬ G b) : TreeE w' F gt bs := by
  obtain ⟨h0, ga, v, ⟨h1, h2, h3, h4⟩ | ⟨h1, gl, cl, l8, h2, h3, h4, h5⟩ | ⟨h1, h2, gl, cl, gb, h3, h4, h5, h6⟩⟩ := h
  · exact ⟨h0, ga, v, .inl ⟨h1, h2, k.bk h3 (hf _ _ _ (by decide) h3 h0), k.bk h4 (hf _ _ _ (by decide) h4 h2)⟩⟩
  · exact ⟨h0, ga, v, .inr (.inl ⟨h1, gl, cl, l8, h2, k.bk h3 (hf _ _ _ (by decide) h3 h0), own_same h4 (fun b cs hb hk => k.bk hk (hf _ _ _ (by decide) hk (by injection hb with hb; rw [← hb]; exact h2))), h5.keep k fun b t cs ht => hf b t cs (by simp at ht; rcases ht with rfl | rfl | rfl <;> decide)⟩)⟩
  · exact ⟨h0, ga, v, .inr (.inr ⟨h1, h2, gl, cl, gb, h3, h4, ⟨k.bk h5.tree (hf _ _ _ (by decide) h5.tree h0), own_same h5.row (fun b cs hb hk => k.bk hk (hf _ _ _ (by decide) hk (by injection hb with hb; rw [← hb]; exact h3))), k.bk h5.blk (hf _ _ _ (by decide) h5.blk h4)⟩, h6.keep k fun b t cs ht => hf b t cs (by simp at ht; rcases ht with rfl | rfl | rfl <;> decide)⟩)⟩
theorem TreeE.below (h : TreeE w F gt bs) (k : Below w.heap.size w w') : TreeE w' F gt bs := h.keep (G := fun _ => False) (Keep.of_below k) fun _ _ _ _ _ _ f => f
end
theorem TreeB.own {w : World} {B gt : Nat} {bs : List Bool} (h : TreeB w B gt bs) : TreeE w (fun b => B ≤ b) gt bs := by
  obtain ⟨ga, v, l1, l2, ⟨h1, h2, h3⟩ | ⟨h1, h2, gl, cl, gb, l3, h3⟩⟩ := h
  · exact ⟨l1, ga, v, .inl ⟨h1, l2, h2, h3⟩⟩
  · obtain ⟨A, c, h4, h5⟩ := h3.arena
    refine ⟨l1, ga, v, .inr (.inr ⟨h1, h2, gl, cl, gb, h3.row.lt.1, l3, h3.toV, l2, A, c, none, 0, h4, own_mono h5.own (Nat.zero_le _), World.ownsRow_nil _ _ _ _, fun b hb => (h5.own.lt b hb).1, fun b hb => by cases hb⟩)⟩
theorem LeafV.set_visits {w : World} {gt ga gl cl gb : Nat} {rt v : Int} {bs : List Bool} (h : LeafV w 0 gt ga gl cl gb rt v bs) (v' : Int) : LeafV (w.setCell ⟨gt, 3, none⟩ (.int .i64 v')) 0 gt ga gl cl gb rt v' bs :=
  ⟨h.tree.set 3 _, own_same h.row fun b cs _ hb => hb.far (p := ⟨gt, 3, none⟩) (Bk.ne hb h.tree (by decide)) _, h.blk.far (p := ⟨gt, 3, none⟩) (Bk.ne h.blk h.tree (by decide)) _⟩
theorem LeafV.set_root {w : World} {gt ga gl cl gb : Nat} {rt v : Int} {bs : List Bool} (h : LeafV w 0 gt ga gl cl gb rt v bs) (rt' : Int) : LeafV (w.setCell ⟨gt, 2, none⟩ (.int .i64 rt')) 0 gt ga gl cl gb rt' v bs :=
  ⟨h.tree.set 2 _, own_same h.row fun b cs _ hb => hb.far (p := ⟨gt, 2, none⟩) (Bk.ne hb h.tree (by decide)) _, h.blk.far (p := ⟨gt, 2, none⟩) (Bk.ne h.blk h.tree (by decide)) _⟩
theorem LeafV.below {w w' : World} {B gt ga gl cl gb : Nat} {rt v : Int} {bs : List Bool} (h : LeafV w B gt ga gl cl gb rt v bs) (k : Below w.heap.size w w') : LeafV w' B gt ga gl cl gb rt v bs :=
  ⟨h.tree.below k h.tree.lt, own_below h.row k, h.blk.below k h.blk.lt⟩
set_option maxRecDepth 100000 in
set_option maxHeartbeats 2000000 in
theorem insert_leaf (gt ga gl cl gb k : Nat) (v : Int) (b : Bool) (bs : List Bool) (w : World) (h : LeafV w 0 gt ga gl cl gb 0 v bs) (hl : bs.length ≤ 127) (hk : k ≤ bs.length) :
    Calls Tryz.prog 135 #[.pointer (some ⟨gt, 0, none⟩), .int .i64 0, .int .i64 (k : Int), .bool b] w fun e w' => e = .returned (.int .i64 0) ∧ (∃ v', LeafV w' 0 gt ga gl cl gb 0 v' (insN bs k b)) ∧ Keep (fun b => b = gt ∨ b = gl ∨ b = gb) w w' := by
  obtain ⟨c0, c1, c2, c3, d0, d1, d2, d3, d4, d5, d6, d7⟩ := h.cells
  have hgl := h.row.lt.2
  have hgt := h.tree.lt
  have hgb := h.blk.lt
  have hgt_gl : gt ≠ gl := h.row.bk_ne h.tree (by decide)
  have hgb_gl : gb ≠ gl := h.row.bk_ne h.blk (by decide)
  have hgt_gb : gt ≠ gb := Bk.ne h.tree h.blk (by decide)
  have f3 := h.tree.frozen 3
  have hl' : (insN bs k b).length ≤ 128 := by rw [insN_len _ _ hk]; omega
  obtain ⟨n, hn⟩ : ∃ n, bs.length = n := ⟨_, rfl⟩
  obtain ⟨o, ho⟩ : ∃ o, bs.count true = o := ⟨_, rfl⟩
  have h1 := (h.set_visits (wrap64 (v + 1))).below ((Below.refl _ _).alloc (Nat.le_refl _) (.cells #[.int .i64 (-1), .int .i64 (-1), .int .i64 0, .int .i64 (n : Int), .int .i64 (o : Int), .int .i64 0, .int .i64 0, .pointer (some ⟨gb, 0, none⟩)] 120))
  have hk1 : Keep (fun b => b = gt ∨ b = gl ∨ b = gb) w ((w.setCell ⟨gt, 3, none⟩ (.int .i64 (wrap64 (v + 1)))).alloc (.cells #[.int .i64 (-1), .int .i64 (-1), .int .i64 0, .int .i64 (n : Int), .int .i64 (o : Int), .int .i64 0, .int .i64 0, .pointer (some ⟨gb, 0, none⟩)] 120)) :=
    (Keep.setCell (F := fun b => b = gt ∨ b = gl ∨ b = gb) (Keep.refl _ _) (p := ⟨gt, 3, none⟩) (.inl (.inl rfl)) _).alloc _
  have hn1 := Bk.new (w.setCell ⟨gt, 3, none⟩ (.int .i64 (wrap64 (v + 1)))) 120 #[.int .i64 (-1), .int .i64 (-1), .int .i64 0, .int .i64 (n : Int), .int .i64 (o : Int), .int .i64 0, .int .i64 0, .pointer (some ⟨gb, 0, none⟩)]
  rw [hn] at d3
  rw [ho] at d4
  obtain ⟨W, hW⟩ : ∃ W, (w.setCell ⟨gt, 3, none⟩ (.int .i64 (wrap64 (v + 1)))).alloc (.cells #[.int .i64 (-1), .int .i64 (-1), .int .i64 0, .int .i64 (n : Int), .int .i64 (o : Int), .int .i64 0, .int .i64 0, .pointer (some ⟨gb, 0, none⟩)] 120) = W := ⟨_, rfl⟩
  rw [hW] at h1 hk1 hn1
  have hsz : (w.setCell ⟨gt, 3, none⟩ (.int .i64 (wrap64 (v + 1)))).heap.size = w.heap.size := by simp [World.setCell]
  rw [hsz] at hn1
  have x7 : W.cell? ⟨w.heap.size, 7, none⟩ = some (.pointer (some ⟨gb, 0, none⟩)) := (hn1.cell 7).trans rfl
  have hWs := hn1.lt
  have h128 : ((n : Int) == 128) = false := by rw [beq_eq_false_iff_ne]; omega
  have H1 := Lib.hid h1
  have Hk1 := Lib.hid hk1
  have Hn1 := Lib.hid hn1
  have HW := Lib.hid hW
  have Hn := Lib.hid hn
  have Hl := Lib.hid hl
  have Hk := Lib.hid hk
  have Hl' := Lib.hid hl'
  clear h h1 hk1 hn1 hW hn ho hsz hl hk hl'
  go_enter Tryz.func135, Tryz.ntmps135
  go_wp2_with fail
  rw [HW.out]
  refine (BlockLen_any gb bs W H1.out.blk).mono ?_
  rintro e w2 ⟨rfl, rfl⟩
  rw [Hn.out]
  go_wp2_with fail
  refine (BlockInsert_any gb bs k b _ H1.out.blk Hl.out Hk.out).mono ?_
  rintro e w3 ⟨rfl, hb3, hk3⟩
  have ht3 := hk3.bk H1.out.tree hgt_gb
  have hr3 := own_same H1.out.row (w' := w3) fun x cs _ hb => hk3.bk hb (fun e => Bk.ne hb H1.out.blk (by decide) e)
  have hk13 := Hk1.out.trans (hk3.mono (G := fun b => b = gt ∨ b = gl ∨ b = gb) fun x _ e => .inr (.inr e))
  have Hb3 := Lib.hid hb3
  have Hk3 := Lib.hid hk3
  have Ht3 := Lib.hid ht3
  have Hr3 := Lib.hid hr3
  have Hk13 := Lib.hid hk13
  clear hb3 hk3 ht3 hr3 hk13 x7
  go_wp2_with fail
  refine (fix_leaf gt ga gl cl gb 0 0 _ (insN bs k b) w3 Ht3.out Hr3.out Hb3.out Hl'.out).mono ?_
  rintro e w4 ⟨rfl, hk4, hr4⟩
  have ht4 := hk4.bk Ht3.out hgt_gl
  have hb4 := hk4.bk Hb3.out hgb_gl
  have hk14 := Hk13.out.trans (hk4.mono (G := fun b => b = gt ∨ b = gl ∨ b = gb) fun x _ e => .inr (.inl e))
  have H4 := Lib.hid (show LeafV w4 0 gt ga gl cl gb 0 _ (insN bs k b) from ⟨ht4, hr4, hb4⟩)
  have Hk14 := Lib.hid hk14
  clear ht4 hb4 hk14 hk4 hr4
  go_wp2_with fail
  go_ret
  exact ⟨rfl, ⟨_, H4.out⟩, Hk14.out⟩
theorem eight8 {l : List Value} (h : l.length = 8) : ∃ u0 u1 u2 u3 u4 u5 u6 u7, l = [u0, u1, u2, u3, u4, u5, u6, u7] := by
  match l, h with
  | [u0, u1, u2, u3, u4, u5, u6, u7], _ => exact ⟨u0, u1, u2, u3, u4, u5, u6, u7, rfl⟩
theorem own_bk {w : World} {B n sz g c : Nat} {e : TypeId} {xs : List Value} (h : w.ownsRow B e sz (.slice (some ⟨g, 0, none⟩) n c) n xs) : ∃ cur, Bk w g e cur := by
  rcases h.2 with ⟨h1, _⟩ | ⟨g', cap, cur, h1, _, h3, _⟩
  · cases h1
  · injection h1 with h1 _ _
    injection h1 with h1
    injection h1 with h1 _
    subst h1
    exact ⟨cur, h3⟩
/-- An arena's own blocks alone. -/
theorem ArenaE.own {w : World} {F : Nat → Prop} {ga : Nat} {tk : List Bool} {fr : List Nat} (h : ArenaE w F ga tk fr) : ∃ Fa : Nat → Prop, (∀ b, Fa b → F b) ∧ (∀ b t cs, Fa b → Bk w b t cs → t = 108 ∨ t = 4 ∨ t = 3) ∧ (∀ b, Fa b → b < w.heap.size) ∧ ArenaE w Fa ga tk fr := by
  obtain ⟨h0, At, ct, Af, cf, h1, h2, h3, h4, h5⟩ := h
  have hty : ∀ {e : TypeId} {n c b : Nat} {A : Option Addr} {xs : List Value} {t : TypeId} {cs : Array Value}, w.ownsRow 0 e 1 (.slice A n c) n xs → (Value.slice A n c).ownBlock = some b → Bk w b t cs → t = e := fun {e n c b A xs t cs} hr hb hk => by
    rcases hr.2 with ⟨g1, _⟩ | ⟨g', cap, cur, g1, _, g3, _⟩
    · rw [g1] at hb
      cases hb
    · rw [g1] at hb
      injection hb with hb
      have e1 : g' = b := hb
      subst e1
      exact (bk_inj hk g3).1
  refine ⟨fun b => b = ga ∨ (Value.slice At tk.length ct).ownBlock = some b ∨ (Value.slice Af fr.length cf).ownBlock = some b, fun b hb => ?_, fun b t cs hb hk => ?_, fun b hb => ?_, .inl rfl, At, ct, Af, cf, h1, h2, h3, fun b hb => .inr (.inl hb), fun b hb => .inr (.inr hb)⟩
  · rcases hb with rfl | hb | hb
    · exact h0
    · exact h4 b hb
    · exact h5 b hb
  · rcases hb with rfl | hb | hb
    · exact .inl (bk_inj hk h1).1
    · exact .inr (.inl (hty h2 hb hk))
    · exact .inr (.inr (hty h3 hb hk))
  · rcases hb with rfl | hb | hb
    · exact h1.lt
    · exact (h2.lt b hb).2
    · exact (h3.lt b hb).2
set_option maxRecDepth 100000 in
set_option maxHeartbeats 4000000 in
/-- A node again where one was freed. -/
theorem node_again (F : Nat → Prop) (gt ga gl cl gb : Nat) (v : Int) (l8 : List Value) (bs : List Bool) (w : World) (ht : Bk w gt 117 #[.pointer (some ⟨ga, 0, none⟩), .slice (some ⟨gl, 0, none⟩) 1 cl, .int .i64 (-1), .int .i64 v]) (hr : w.ownsRow 0 120 8 (.slice (some ⟨gl, 0, none⟩) 1 cl) 1 l8) (ha : ArenaE w F ga [false] [0]) (hb : Bk w gb 147 (blkC bs)) (hl : bs.length ≤ 128) (hFl : F gl) :
    Calls Tryz.prog 150 #[.pointer (some ⟨gt, 0, none⟩), .agg #[.int .i64 (-1), .int .i64 (-1), .int .i64 0, .int .i64 0, .int .i64 0, .int .i64 0, .int .i64 0, .pointer (some ⟨gb, 0, none⟩)]] w fun e w' => e = .returned (.int .i64 0) ∧ Keep F w w' ∧ LeafV w' 0 gt ga gl cl gb (-1) v bs ∧ ArenaE w' F ga [true] [] := by
  obtain ⟨Fa, hFa, hFt, hFs, ha⟩ := ha.own
  obtain ⟨cur0, hcur0⟩ := own_bk hr
  have hgt := ht.lt
  have hgb := hb.lt
  have hgl := hcur0.lt
  have hgt_gl : gt ≠ gl := Bk.ne ht hcur0 (by decide)
  have hgb_gl : gb ≠ gl := Bk.ne hb hcur0 (by decide)
  have q0 : w.cell? ⟨gt, 0, none⟩ = some (.pointer (some ⟨ga, 0, none⟩)) := (ht.cell 0).trans rfl
  have nF : ∀ b t cs, Bk w b t cs → t ≠ 108 → t ≠ 4 → t ≠ 3 → ¬ Fa b := fun b t cs hk h1 h2 h3 hf => by
    rcases hFt b t cs hf hk with e | e | e
    · exact h1 e
    · exact h2 e
    · exact h3 e
  have ha1 := ha.keep (G := fun _ => False) (Keep.of_below ((Below.refl _ _).alloc (Nat.le_refl _) (.cells #[.int .i64 (-1), .int .i64 (-1), .int .i64 0, .int .i64 0, .int .i64 0, .int .i64 0, .int .i64 0, .pointer (some ⟨gb, 0, none⟩)] 120))) (fun _ _ _ _ _ _ f => f)
  have Ht := Lib.hid ht
  have Ha := Lib.hid ha1
  have Hb := Lib.hid hb
  have Hr := Lib.hid hr
  have HnF := Lib.hid nF
  have Hcur := Lib.hid hcur0
  have HFs := Lib.hid hFs
  have hgxF : ¬ Fa w.heap.size := fun f => by have := hFs _ f; omega
  clear ht ha hb hr nF ha1 hFt hcur0 hFs
  go_enter Tryz.func150, Tryz.ntmps150
  go_wp2_with fail
  refine (TakePop_any Fa ga 0 [false] [] _ Ha.out (by simp) (by simp) (by simp)).mono ?_
  rintro e w1 ⟨rfl, ha1, hk1⟩
  have hx1 : Bk w1 w.heap.size 120 #[.int .i64 (-1), .int .i64 (-1), .int .i64 0, .int .i64 0, .int .i64 0, .int .i64 0, .int .i64 0, .pointer (some ⟨gb, 0, none⟩)] := by
    have h := Bk.new w 120 #[.int .i64 (-1), .int .i64 (-1), .int .i64 0, .int .i64 0, .int .i64 0, .int .i64 0, .int .i64 0, .pointer (some ⟨gb, 0, none⟩)]
    exact hk1.bk h hgxF
  have hkw1 : Keep Fa w w1 := (Keep.of_below ((Below.refl w.heap.size w).alloc (Nat.le_refl _) _)).trans hk1
  have ht1 := hkw1.bk Ht.out (HnF.out _ _ _ Ht.out (by decide) (by decide) (by decide))
  have hb1 := hkw1.bk Hb.out (HnF.out _ _ _ Hb.out (by decide) (by decide) (by decide))
  have hr1 := own_same (w' := w1) Hr.out fun b cs _ hk => hkw1.bk hk (HnF.out _ _ _ hk (by decide) (by decide) (by decide))
  have hgx_gl : w.heap.size ≠ gl := fun e => by omega
  have q1 : w1.cell? ⟨gt, 1, none⟩ = some (.slice (some ⟨gl, 0, none⟩) 1 cl) := (ht1.cell 1).trans rfl
  have hgt1 := ht1.lt
  have Ha1 := Lib.hid (show ArenaE w1 Fa ga [true] [] from ha1)
  have Hx1 := Lib.hid hx1
  have Hkw1 := Lib.hid hkw1
  have Ht1 := Lib.hid ht1
  have Hb1 := Lib.hid hb1
  have Hr1 := Lib.hid hr1
  clear ha1 hk1 hx1 hkw1 ht1 hb1 hr1 q0 Ha
  go_wp2_with fail
  refine wp_region_any (by kernel_rfl) ?_
  refine wpAny_keep [32, 33, 34, 35, 36, 37, 38] (fun b => b = gl) 7 [7] (fun w2 => w2.ownsRow 0 120 8 (.slice (some ⟨gl, 0, none⟩) 1 cl) 1 l8) (fun _ w2 => RowS 0 gl cl gb 0 0 w2) [is (.pointer (some ⟨gt, 0, none⟩)), is (.pointer (some ⟨gt, 0, none⟩)), is (.pointer (some ⟨gt, 1, none⟩)), is (.slice (some ⟨gl, 0, none⟩) 1 cl), is (.int .i64 0), is (.agg #[.int .i64 (-1), .int .i64 (-1), .int .i64 0, .int .i64 0, .int .i64 0, .int .i64 0, .int .i64 0, .pointer (some ⟨gb, 0, none⟩)]), is (.pointer (some ⟨gl, 0, none⟩)), anyV] _ _ rfl (by kernel_rfl) (by kernel_rfl) (Hr1.out) (fun w1 w2 h _ hg => own_below h hg) (fun _ _ _ h k => RowS.grow h k) (by repeat' (first | exact stbk_is _ _ | exact stbk_any _ | (refine List.forall_mem_cons.2 ⟨?_, ?_⟩) | (intro p hp; cases hp))) ?_ ?_
  · refine steps_of ?_
    refine steps_cons ?_ ?_
    · refine step_on3 rfl rfl ?_
      intro ev w5 hS hU hc hf hold hval a K ha hK
      replace hS : Keep (fun b => b = gl) w1 w5 := ⟨hS.os, hS.tape, hS.output, hS.size, hS.block⟩
      clear hU
      have e0 : ev (.tmp 0) = .pointer (some ⟨gt, 0, none⟩) := hold 0 (by kernel_rfl)
      go_simp
      exact hK _ _ (kstep_grow (Below.refl _ _)) rfl
    refine steps_cons ?_ ?_
    · refine step_on3 rfl rfl ?_
      intro ev w5 hS hU hc hf hold hval a K ha hK
      replace hS : Keep (fun b => b = gl) w1 w5 := ⟨hS.os, hS.tape, hS.output, hS.size, hS.block⟩
      clear hU
      have e32 : ev (.tmp 32) = .pointer (some ⟨gt, 0, none⟩) := hval 0 32 (by kernel_rfl) rfl
      go_simp
      exact hK _ _ (kstep_grow (Below.refl _ _)) rfl
    refine steps_cons ?_ ?_
    · refine step_on3 rfl rfl ?_
      intro ev w5 hS hU hc hf hold hval a K ha hK
      replace hS : Keep (fun b => b = gl) w1 w5 := ⟨hS.os, hS.tape, hS.output, hS.size, hS.block⟩
      clear hU
      have e33 : ev (.tmp 33) = .pointer (some ⟨gt, 0, none⟩) := hval 1 33 (by kernel_rfl) rfl
      go_simp
      exact hK _ _ (kstep_grow (Below.refl _ _)) rfl
    refine steps_cons ?_ ?_
    · refine step_on3 rfl rfl ?_
      intro ev w5 hS hU hc hf hold hval a K ha hK
      replace hS : Keep (fun b => b = gl) w1 w5 := ⟨hS.os, hS.tape, hS.output, hS.size, hS.block⟩
      clear hU
      have e34 : ev (.tmp 34) = .pointer (some ⟨gt, 1, none⟩) := hval 2 34 (by kernel_rfl) rfl
      have q5 : w5.cell? ⟨gt, 1, none⟩ = some (.slice (some ⟨gl, 0, none⟩) 1 cl) := ((hS.bk Ht1.out hgt_gl).cell 1).trans rfl
      go_simp
      exact hK _ _ (kstep_grow (Below.refl _ _)) rfl
    refine steps_cons ?_ ?_
    · refine step_on3 rfl rfl ?_
      intro ev w5 hS hU hc hf hold hval a K ha hK
      replace hS : Keep (fun b => b = gl) w1 w5 := ⟨hS.os, hS.tape, hS.output, hS.size, hS.block⟩
      clear hU
      have e5 : ev (.tmp 5) = .int .i64 0 := hold 5 (by kernel_rfl)
      go_simp
      exact hK _ _ (kstep_grow (Below.refl _ _)) rfl
    refine steps_cons ?_ ?_
    · refine step_on3 rfl rfl ?_
      intro ev w5 hS hU hc hf hold hval a K ha hK
      replace hS : Keep (fun b => b = gl) w1 w5 := ⟨hS.os, hS.tape, hS.output, hS.size, hS.block⟩
      clear hU
      have e3 : ev (.tmp 3) = .pointer (some ⟨w.heap.size, 0, none⟩) := hold 3 (by kernel_rfl)
      have hx5 := hS.bk Hx1.out hgx_gl
      have x0 : w5.cell? ⟨w.heap.size, 0, none⟩ = some (.int .i64 (-1)) := (hx5.cell 0).trans rfl
      have x1 : w5.cell? ⟨w.heap.size, 1, none⟩ = some (.int .i64 (-1)) := (hx5.cell 1).trans rfl
      have x2 : w5.cell? ⟨w.heap.size, 2, none⟩ = some (.int .i64 0) := (hx5.cell 2).trans rfl
      have x3 : w5.cell? ⟨w.heap.size, 3, none⟩ = some (.int .i64 0) := (hx5.cell 3).trans rfl
      have x4 : w5.cell? ⟨w.heap.size, 4, none⟩ = some (.int .i64 0) := (hx5.cell 4).trans rfl
      have x5 : w5.cell? ⟨w.heap.size, 5, none⟩ = some (.int .i64 0) := (hx5.cell 5).trans rfl
      have x6 : w5.cell? ⟨w.heap.size, 6, none⟩ = some (.int .i64 0) := (hx5.cell 6).trans rfl
      have x7 : w5.cell? ⟨w.heap.size, 7, none⟩ = some (.pointer (some ⟨gb, 0, none⟩)) := (hx5.cell 7).trans rfl
      go_simp
      exact hK _ _ (kstep_grow (Below.refl _ _)) rfl
    refine steps_cons ?_ ?_
    · refine step_on3 rfl rfl ?_
      intro ev w5 hS hU hc hf hold hval a K ha hK
      replace hS : Keep (fun b => b = gl) w1 w5 := ⟨hS.os, hS.tape, hS.output, hS.size, hS.block⟩
      clear hU
      have e35 : ev (.tmp 35) = .slice (some ⟨gl, 0, none⟩) 1 cl := hval 3 35 (by kernel_rfl) rfl
      have e36 : ev (.tmp 36) = .int .i64 0 := hval 4 36 (by kernel_rfl) rfl
      go_simp
      exact hK _ _ (kstep_grow (Below.refl _ _)) rfl
    refine steps_cons ?_ ?_
    · refine step_on3 rfl rfl ?_
      intro ev w5 hS hU hc hf hold hval a K ha hK
      replace hS : Keep (fun b => b = gl) w1 w5 := ⟨hS.os, hS.tape, hS.output, hS.size, hS.block⟩
      have hpre := hU rfl
      clear hU
      have e38 : ev (.tmp 38) = .pointer (some ⟨gl, 0, none⟩) := hval 6 38 (by kernel_rfl) rfl
      have e37 : ev (.tmp 37) = .agg #[.int .i64 (-1), .int .i64 (-1), .int .i64 0, .int .i64 0, .int .i64 0, .int .i64 0, .int .i64 0, .pointer (some ⟨gb, 0, none⟩)] := hval 5 37 (by kernel_rfl) rfl
      obtain ⟨u0, u1, u2, u3, u4, u5, u6, u7, rfl⟩ := eight8 (show l8.length = 8 from hpre.1)
      have x0 : w5.cell? ⟨gl, 0, none⟩ = some u0 := (World.ownsRow.cellAt hpre 0 (by omega)).trans rfl
      have x1 : w5.cell? ⟨gl, 1, none⟩ = some u1 := (World.ownsRow.cellAt hpre 1 (by omega)).trans rfl
      have x2 : w5.cell? ⟨gl, 2, none⟩ = some u2 := (World.ownsRow.cellAt hpre 2 (by omega)).trans rfl
      have x3 : w5.cell? ⟨gl, 3, none⟩ = some u3 := (World.ownsRow.cellAt hpre 3 (by omega)).trans rfl
      have x4 : w5.cell? ⟨gl, 4, none⟩ = some u4 := (World.ownsRow.cellAt hpre 4 (by omega)).trans rfl
      have x5 : w5.cell? ⟨gl, 5, none⟩ = some u5 := (World.ownsRow.cellAt hpre 5 (by omega)).trans rfl
      have x6 : w5.cell? ⟨gl, 6, none⟩ = some u6 := (World.ownsRow.cellAt hpre 6 (by omega)).trans rfl
      have x7 : w5.cell? ⟨gl, 7, none⟩ = some u7 := (World.ownsRow.cellAt hpre 7 (by omega)).trans rfl
      obtain ⟨cur, hcur⟩ := own_bk hpre
      have fz0 := hcur.frozen 0
      have fz1 := hcur.frozen 1
      have fz2 := hcur.frozen 2
      have fz3 := hcur.frozen 3
      have fz4 := hcur.frozen 4
      have fz5 := hcur.frozen 5
      have fz6 := hcur.frozen 6
      have fz7 := hcur.frozen 7
      go_simp
      refine hK (.bool true) _ (kstep_keep ?_) ?_
      · exact Keep.setCell (F := fun b => b = gl) (Keep.setCell (F := fun b => b = gl) (Keep.setCell (F := fun b => b = gl) (Keep.setCell (F := fun b => b = gl) (Keep.setCell (F := fun b => b = gl) (Keep.setCell (F := fun b => b = gl) (Keep.setCell (F := fun b => b = gl) (Keep.setCell (F := fun b => b = gl) (Keep.refl _ _) (p := ⟨gl, 0, none⟩) (.inl rfl) _) (p := ⟨gl, 1, none⟩) (.inl rfl) _) (p := ⟨gl, 2, none⟩) (.inl rfl) _) (p := ⟨gl, 3, none⟩) (.inl rfl) _) (p := ⟨gl, 4, none⟩) (.inl rfl) _) (p := ⟨gl, 5, none⟩) (.inl rfl) _) (p := ⟨gl, 6, none⟩) (.inl rfl) _) (p := ⟨gl, 7, none⟩) (.inl rfl) _
      · exact (World.ownsRow.stored (World.ownsRow.stored (World.ownsRow.stored (World.ownsRow.stored (World.ownsRow.stored (World.ownsRow.stored (World.ownsRow.stored (World.ownsRow.stored hpre 0 _).1 1 _).1 2 _).1 3 _).1 4 _).1 5 _).1 6 _).1 7 _).1
    exact steps_nil
  · intro ev w6 hS hval hall
    replace hS : Keep (fun b => b = gl) w1 w6 := ⟨hS.os, hS.tape, hS.output, hS.size, hS.block⟩
    obtain ⟨vJ, pJ⟩ : ∃ vJ0, (fun _ w2 => RowS 0 gl cl gb 0 0 w2) vJ0 w6 := hall 7 (by decide)
    simp only [putsOf, List.foldl_cons, List.foldl_nil, Act.put, List.setIfInBounds_toArray, List.set_cons_zero, List.set_cons_succ]
    clear hval hall
    have hr2 : RowS 0 gl cl gb 0 0 w6 := pJ
    have ht2 := hS.bk Ht1.out hgt_gl
    have hb2 := hS.bk Hb1.out hgb_gl
    have ha2 := Ha1.out.keep hS fun b t cs hin hk hf => fun e => by
      have e' : b = gl := e
      subst e'
      obtain ⟨c2, hc2⟩ := own_bk Hr1.out
      rw [(bk_inj hk hc2).1] at hin
      exact absurd hin (by decide)
    have hk2 : Keep F w w6 := (Hkw1.out.mono fun b _ f => hFa b f).trans (hS.mono fun b _ e => by rw [e]; exact hFl)
    have Hr2 := Lib.hid hr2
    have Ht2 := Lib.hid ht2
    have Hb2 := Lib.hid hb2
    have Ha2 := Lib.hid ha2
    have Hk2 := Lib.hid hk2
    clear pJ hr2 ht2 hb2 ha2 hk2 hS q1
    go_wp2_with fail
    refine (fix_leaf gt ga gl cl gb 0 (-1) v bs w6 Ht2.out Hr2.out Hb2.out hl).mono ?_
    rintro e w7 ⟨rfl, hk7, hr7⟩
    have ht7 := hk7.bk Ht2.out hgt_gl
    have hb7 := hk7.bk Hb2.out hgb_gl
    have ha7 := Ha2.out.keep hk7 fun b t cs hin hk hf => fun e => by
      have e' : b = gl := e
      subst e'
      obtain ⟨c2, hc2⟩ := own_bk Hr2.out
      rw [(bk_inj hk hc2).1] at hin
      exact absurd hin (by decide)
    have hk8 : Keep F w w7 := Hk2.out.trans (hk7.mono fun b _ e => by rw [e]; exact hFl)
    have H7 := Lib.hid (show LeafV w7 0 gt ga gl cl gb (-1) v bs from ⟨ht7, hr7, hb7⟩)
    have Ha7 := Lib.hid (ha7.mono (G := F) fun b _ f => hFa b f)
    have Hk8 := Lib.hid hk8
    clear ht7 hb7 ha7 hk8 hk7 hr7
    go_wp2_with fail
    go_ret
    exact ⟨rfl, Hk8.out, H7.out, Ha7.out⟩
set_option maxRecDepth 100000 in
theorem leaf_again (F : Nat → Prop) (gt ga gl cl gb : Nat) (v : Int) (l8 : List Value) (bs : List Bool) (w : World) (ht : Bk w gt 117 #[.pointer (some ⟨ga, 0, none⟩), .slice (some ⟨gl, 0, none⟩) 1 cl, .int .i64 (-1), .int .i64 v]) (hr : w.ownsRow 0 120 8 (.slice (some ⟨gl, 0, none⟩) 1 cl) 1 l8) (ha : ArenaE w F ga [false] [0]) (hb : Bk w gb 147 (blkC bs)) (hl : bs.length ≤ 128) (hFl : F gl) :
    Calls Tryz.prog 134 #[.pointer (some ⟨gt, 0, none⟩), .pointer (some ⟨gb, 0, none⟩)] w fun e w' => e = .returned (.int .i64 0) ∧ Keep F w w' ∧ LeafV w' 0 gt ga gl cl gb (-1) v bs ∧ ArenaE w' F ga [true] [] := by
  go_enter Tryz.func134, Tryz.ntmps134
  go_wp2_with fail
  refine (node_again F gt ga gl cl gb v l8 bs w ht hr ha hb hl hFl).mono ?_
  rintro e w1 ⟨rfl, hk, h1, h2⟩
  go_wp2_with fail
  go_ret
  exact ⟨rfl, hk, h1, h2⟩
/-- The visits of a tree are set. -/
theorem TreeE.set_visits {w : World} {F : Nat → Prop} {gt : Nat} {bs : List Bool} (h : TreeE w F gt bs) (u : Int) : TreeE (w.setCell ⟨gt, 3, none⟩ (.int .i64 u)) F gt bs := by
  have h2 := h
  obtain ⟨h0, ga, v, ⟨h1, _, h3, _⟩ | ⟨h1, gl, cl, l8, _, h3, _, _⟩ | ⟨h1, _, gl, cl, gb, _, _, h5, _⟩⟩ := h2
  · exact h.vis (Vis.set_tree h3 u)
  · exact h.vis (Vis.set_tree h3 u)
  · exact h.vis (Vis.set_tree h5.tree u)
set_option maxRecDepth 100000 in
set_option maxHeartbeats 2000000 in
theorem insert_empty (gt ga k : Nat) (v : Int) (b : Bool) (F : Nat → Prop) (w : World) (hF : F gt) (hFa : F ga) (ht : Bk w gt 117 #[.pointer (some ⟨ga, 0, none⟩), .slice none 0 0, .int .i64 (-1), .int .i64 v]) (ha : Bk w ga 108 #[.slice none 0 0, .slice none 0 0, .int .i64 268435456]) :
    Calls Tryz.prog 100 #[.pointer (some ⟨gt, 0, none⟩), .int .i64 0, .bool b] w fun e w' => e = .returned (.int .i64 0) ∧ TreeE w' (Gw F w.heap.size) gt [b] ∧ Keep F w w' := by
  have hlen := TreeLen_any gt [] w ⟨ga, v, .inl ⟨rfl, _, ht⟩⟩
  have hgt := ht.lt
  have Ht := Lib.hid ht
  have Ha := Lib.hid ha
  clear ht ha
  go_enter Tryz.func100, Tryz.ntmps100
  go_wp2_with fail
  refine hlen.mono ?_
  rintro e w1 ⟨rfl, hb1⟩
  clear hlen
  have ht1 := Ht.out.below hb1 hgt
  have ha1 := Ha.out.below hb1 Ha.out.lt
  have hta : gt ≠ ga := Bk.ne ht1 ha1 (by decide)
  have hgt1 := ht1.lt
  have c2 : w1.cell? ⟨gt, 2, none⟩ = some (.int .i64 (-1)) := (ht1.cell 2).trans rfl
  have c3 : w1.cell? ⟨gt, 3, none⟩ = some (.int .i64 v) := (ht1.cell 3).trans rfl
  have f3 := ht1.frozen 3
  have ht2 := ht1.set 3 (.int .i64 0)
  have ha2 := ha1.far (p := ⟨gt, 3, none⟩) (fun e => hta e.symm) (.int .i64 0)
  have hk2 : Keep F w (w1.setCell ⟨gt, 3, none⟩ (.int .i64 0)) := Keep.setCell (F := F) (Keep.of_below hb1) (p := ⟨gt, 3, none⟩) (.inl hF) _
  obtain ⟨W, hW⟩ : ∃ W, w1.setCell ⟨gt, 3, none⟩ (.int .i64 0) = W := ⟨_, rfl⟩
  have hsW : w1.heap.size = W.heap.size := by rw [← hW]; simp [World.setCell]
  rw [hW] at ht2 ha2 hk2
  have hs2 := hk2.size
  have HsW := Lib.hid hsW
  clear hsW
  have HW := Lib.hid hW
  have Ht2 := Lib.hid ht2
  have Ha2 := Lib.hid ha2
  have Hk2 := Lib.hid hk2
  clear hb1 ht1 ha1 hW ht2 ha2 hk2
  go_wp2_with fail
  rw [HW.out]
  clear c2 c3 f3
  refine (BlockNew_any (some ⟨w1.heap.size, 0, none⟩) 1 1 _ [b] (W.alloc (.cells #[.bool b] 4)) (Rd.made' W 4 1 1 #[.bool b] w1.heap.size rfl HsW.out) (Nat.le_refl _) (by decide)).mono ?_
  rintro e w3 ⟨rfl, hb3, hbl3⟩
  rw [World.size_alloc] at hb3
  have hbl : Below W.heap.size W w3 := ((Below.refl _ _).alloc (Nat.le_refl _) _).trans (hbl3.mono (by simp))
  have ht3 := Ht2.out.below hbl Ht2.out.lt
  have ha3 := Ha2.out.below hbl Ha2.out.lt
  have hk3 : Keep F w w3 := Hk2.out.trans (Keep.of_below hbl)
  have Ht3 := Lib.hid ht3
  have Ha3 := Lib.hid ha3
  have Hb3 := Lib.hid hb3
  have Hk3 := Lib.hid hk3
  have hgt3 := ht3.lt
  clear hbl3 hbl ht3 ha3 hb3 hk3
  rw [World.size_alloc]
  go_wp2_with fail
  refine (leaf_first gt ga (W.heap.size + 1) 0 [b] w3 Ht3.out Ha3.out Hb3.out (by simp)).mono ?_
  rintro e w4 ⟨rfl, hk4, gl, cl, hl⟩
  have hV := hl.toV
  have f2 := hV.tree.frozen 2
  have c2 : w4.cell? ⟨gt, 2, none⟩ = some (.int .i64 (-1)) := (hV.tree.cell 2).trans rfl
  have hgt4 := hV.tree.lt
  have hV5 := hV.set_root 0
  have f3 := hV5.tree.frozen 3
  have c3 : (w4.setCell ⟨gt, 2, none⟩ (.int .i64 0)).cell? ⟨gt, 3, none⟩ = some (.int .i64 0) := (hV5.tree.cell 3).trans rfl
  have hV6 := hV5.set_visits 1
  obtain ⟨A5, c5, ha5, hm5⟩ := hl.arena
  have hgl := hl.row.lt
  have hk5 : Keep F w w4 := Hk3.out.trans' hk4 fun x _ e => by
    rcases e with rfl | rfl
    · exact hFa
    · exact hF
  have hk6 : Keep F w ((w4.setCell ⟨gt, 2, none⟩ (.int .i64 0)).setCell ⟨gt, 3, none⟩ (.int .i64 1)) := Keep.setCell (F := F) (Keep.setCell (F := F) hk5 (p := ⟨gt, 2, none⟩) (.inl hF) _) (p := ⟨gt, 3, none⟩) (.inl hF) _
  have har : ArenaE w4 (Gw F w.heap.size) ga [true] [] := ⟨.inl hFa, A5, c5, none, 0, ha5, own_mono hm5.own (Nat.zero_le _), World.ownsRow_nil _ _ _ _, fun x hx => .inr (by have := (hm5.own.lt x hx).1; have := Hk3.out.size; omega), fun x hx => by cases hx⟩
  have hk7 : Keep (fun x => x = gt) w4 ((w4.setCell ⟨gt, 2, none⟩ (.int .i64 0)).setCell ⟨gt, 3, none⟩ (.int .i64 1)) := Keep.setCell (F := fun x => x = gt) (Keep.setCell (F := fun x => x = gt) (Keep.refl _ _) (p := ⟨gt, 2, none⟩) (.inl rfl) _) (p := ⟨gt, 3, none⟩) (.inl rfl) _
  have har7 := har.keep hk7 fun x t cs hin hk _ => fun e => by
    have e' : x = gt := e
    subst e'
    rw [(bk_inj hk hV.tree).1] at hin
    exact absurd hin (by decide)
  have HV6 := Lib.hid hV6
  have Hk6 := Lib.hid hk6
  have Har7 := Lib.hid har7
  clear hV hV5 hV6 hl ha5 hm5 hk5 hk6 har hk7 har7 hk4
  go_wp2_with fail
  go_ret
  exact ⟨rfl, ⟨.inl hF, ga, 1, .inr (.inr ⟨by simp, by simp, gl, cl, _, .inr (by have := Hk3.out.size; omega), .inr (by omega), HV6.out, Har7.out⟩)⟩, Hk6.out⟩
set_option maxRecDepth 100000 in
set_option maxHeartbeats 2000000 in
theorem insert_again (gt ga gl cl : Nat) (v : Int) (b : Bool) (l8 : List Value) (F : Nat → Prop) (w : World) (hF : F gt) (hFl : F gl) (ht : Bk w gt 117 #[.pointer (some ⟨ga, 0, none⟩), .slice (some ⟨gl, 0, none⟩) 1 cl, .int .i64 (-1), .int .i64 v]) (hr : w.ownsRow 0 120 8 (.slice (some ⟨gl, 0, none⟩) 1 cl) 1 l8) (ha : ArenaE w F ga [false] [0]) :
    Calls Tryz.prog 100 #[.pointer (some ⟨gt, 0, none⟩), .int .i64 0, .bool b] w fun e w' => e = .returned (.int .i64 0) ∧ TreeE w' (Gw F w.heap.size) gt [b] ∧ Keep F w w' := by
  have hlen := TreeLen_any gt [] w ⟨ga, v, .inl ⟨rfl, _, ht⟩⟩
  have hgt := ht.lt
  have Ht := Lib.hid ht
  have Ha := Lib.hid ha
  have Hr := Lib.hid hr
  clear ht ha hr
  go_enter Tryz.func100, Tryz.ntmps100
  go_wp2_with fail
  refine hlen.mono ?_
  rintro e w1 ⟨rfl, hb1⟩
  clear hlen
  have ht1 := Ht.out.below hb1 hgt
  have ha1 := Ha.out.keep (G := fun _ => False) (Keep.of_below hb1) (fun _ _ _ _ _ _ f => f)
  have hr1 := own_below Hr.out hb1
  have hgt1 := ht1.lt
  have c2 : w1.cell? ⟨gt, 2, none⟩ = some (.int .i64 (-1)) := (ht1.cell 2).trans rfl
  have c3 : w1.cell? ⟨gt, 3, none⟩ = some (.int .i64 v) := (ht1.cell 3).trans rfl
  have f3 := ht1.frozen 3
  have ht2 := ht1.set 3 (.int .i64 0)
  have hkx : Keep (fun x => x = gt) w1 (w1.setCell ⟨gt, 3, none⟩ (.int .i64 0)) := Keep.setCell (F := fun x => x = gt) (Keep.refl _ _) (p := ⟨gt, 3, none⟩) (.inl rfl) _
  have ha2 := ha1.keep hkx fun x t cs hin hk _ => fun e => by
    have e' : x = gt := e
    subst e'
    rw [(bk_inj hk ht1).1] at hin
    exact absurd hin (by decide)
  have hr2 := own_same (w' := w1.setCell ⟨gt, 3, none⟩ (.int .i64 0)) hr1 fun x cs _ hk => hk.far (p := ⟨gt, 3, none⟩) (Bk.ne hk ht1 (by decide)) _
  have hk2 : Keep F w (w1.setCell ⟨gt, 3, none⟩ (.int .i64 0)) := Keep.setCell (F := F) (Keep.of_below hb1) (p := ⟨gt, 3, none⟩) (.inl hF) _
  obtain ⟨W, hW⟩ : ∃ W, w1.setCell ⟨gt, 3, none⟩ (.int .i64 0) = W := ⟨_, rfl⟩
  have hsW : w1.heap.size = W.heap.size := by rw [← hW]; simp [World.setCell]
  rw [hW] at ht2 ha2 hk2 hr2
  have hs2 := hk2.size
  have HsW := Lib.hid hsW
  clear hsW
  have HW := Lib.hid hW
  have Ht2 := Lib.hid ht2
  have Ha2 := Lib.hid ha2
  have Hr2 := Lib.hid hr2
  have Hk2 := Lib.hid hk2
  clear hb1 ht1 ha1 hr1 hW ht2 ha2 hk2 hr2 hkx
  go_wp2_with fail
  rw [HW.out]
  clear c2 c3 f3
  refine (BlockNew_any (some ⟨w1.heap.size, 0, none⟩) 1 1 _ [b] (W.alloc (.cells #[.bool b] 4)) (Rd.made' W 4 1 1 #[.bool b] w1.heap.size rfl HsW.out) (Nat.le_refl _) (by decide)).mono ?_
  rintro e w3 ⟨rfl, hb3, hbl3⟩
  rw [World.size_alloc] at hb3
  have hbl : Below W.heap.size W w3 := ((Below.refl _ _).alloc (Nat.le_refl _) _).trans (hbl3.mono (by simp))
  have ht3 := Ht2.out.below hbl Ht2.out.lt
  have ha3 := Ha2.out.keep (G := fun _ => False) (Keep.of_below hbl) (fun _ _ _ _ _ _ f => f)
  have hr3 := own_below Hr2.out hbl
  have hk3 : Keep F w w3 := Hk2.out.trans (Keep.of_below hbl)
  have Ht3 := Lib.hid ht3
  have Ha3 := Lib.hid ha3
  have Hb3 := Lib.hid hb3
  have Hr3 := Lib.hid hr3
  have Hk3 := Lib.hid hk3
  have hgt3 := ht3.lt
  clear hbl3 hbl ht3 ha3 hb3 hk3 hr3
  rw [World.size_alloc]
  go_wp2_with fail
  refine (leaf_again F gt ga gl cl (W.heap.size + 1) 0 l8 [b] w3 Ht3.out Hr3.out Ha3.out Hb3.out (by simp) hFl).mono ?_
  rintro e w4 ⟨rfl, hk4, hV, ha4⟩
  have f2 := hV.tree.frozen 2
  have c2 : w4.cell? ⟨gt, 2, none⟩ = some (.int .i64 (-1)) := (hV.tree.cell 2).trans rfl
  have hgt4 := hV.tree.lt
  have hV5 := hV.set_root 0
  have f3 := hV5.tree.frozen 3
  have c3 : (w4.setCell ⟨gt, 2, none⟩ (.int .i64 0)).cell? ⟨gt, 3, none⟩ = some (.int .i64 0) := (hV5.tree.cell 3).trans rfl
  have hV6 := hV5.set_visits 1
  have hk6 : Keep F w ((w4.setCell ⟨gt, 2, none⟩ (.int .i64 0)).setCell ⟨gt, 3, none⟩ (.int .i64 1)) := Keep.setCell (F := F) (Keep.setCell (F := F) (Hk3.out.trans hk4) (p := ⟨gt, 2, none⟩) (.inl hF) _) (p := ⟨gt, 3, none⟩) (.inl hF) _
  have hk7 : Keep (fun x => x = gt) w4 ((w4.setCell ⟨gt, 2, none⟩ (.int .i64 0)).setCell ⟨gt, 3, none⟩ (.int .i64 1)) := Keep.setCell (F := fun x => x = gt) (Keep.setCell (F := fun x => x = gt) (Keep.refl _ _) (p := ⟨gt, 2, none⟩) (.inl rfl) _) (p := ⟨gt, 3, none⟩) (.inl rfl) _
  have har7 := (ha4.keep hk7 fun x t cs hin hk _ => fun e => by
    have e' : x = gt := e
    subst e'
    rw [(bk_inj hk hV.tree).1] at hin
    exact absurd hin (by decide)).mono (G := Gw F w.heap.size) fun x _ f => .inl f
  have HV6 := Lib.hid hV6
  have Hk6 := Lib.hid hk6
  have Har7 := Lib.hid har7
  clear hV hV5 hV6 ha4 hk6 hk7 har7 hk4
  go_wp2_with fail
  go_ret
  exact ⟨rfl, ⟨.inl hF, ga, 1, .inr (.inr ⟨by simp, by simp, gl, cl, _, .inl hFl, .inr (by omega), HV6.out, Har7.out⟩)⟩, Hk6.out⟩
set_option maxRecDepth 100000 in
set_option maxHeartbeats 2000000 in
theorem insert_more (gt ga gl cl gb k : Nat) (v : Int) (b : Bool) (bs : List Bool) (F : Nat → Prop) (w : World) (hF : F gt) (hFl : F gl) (hFb : F gb) (h : LeafV w 0 gt ga gl cl gb 0 v bs) (ha : ArenaE w F ga [true] []) (hl : bs.length ≤ 127) (hk : k ≤ bs.length) (hne : bs ≠ []) :
    Calls Tryz.prog 100 #[.pointer (some ⟨gt, 0, none⟩), .int .i64 (k : Int), .bool b] w fun e w' => e = .returned (.int .i64 0) ∧ TreeE w' F gt (insN bs k b) ∧ Keep F w w' := by
  have hlen := TreeLen_any gt bs w ⟨ga, v, .inr ⟨hne, by omega, gl, cl, gb, h⟩⟩
  obtain ⟨n, hn⟩ : ∃ n, bs.length = n := ⟨_, rfl⟩
  rw [hn] at hlen
  have hkn : ¬ ((k : Int) > (n : Int)) := by omega
  have hk0 : decide ((k : Int) < 0) = false := by simp
  have hgt := h.tree.lt
  have H := Lib.hid h
  have Ha := Lib.hid ha
  have Hl := Lib.hid hl
  have Hk := Lib.hid hk
  clear h ha hn hl hk
  go_enter Tryz.func100, Tryz.ntmps100
  go_wp2_with fail
  refine hlen.mono ?_
  rintro e w1 ⟨rfl, hb1⟩
  clear hlen
  have h1 := H.out.below hb1
  have ha1 := Ha.out.keep (G := fun _ => False) (Keep.of_below hb1) (fun _ _ _ _ _ _ f => f)
  have hgt1 := h1.tree.lt
  have c2 : w1.cell? ⟨gt, 2, none⟩ = some (.int .i64 0) := (h1.tree.cell 2).trans rfl
  have c3 : w1.cell? ⟨gt, 3, none⟩ = some (.int .i64 v) := (h1.tree.cell 3).trans rfl
  have f3 := h1.tree.frozen 3
  have hkx : Keep (fun x => x = gt) w1 (w1.setCell ⟨gt, 3, none⟩ (.int .i64 0)) := Keep.setCell (F := fun x => x = gt) (Keep.refl _ _) (p := ⟨gt, 3, none⟩) (.inl rfl) _
  have ha2 := ha1.keep hkx fun x t cs hin hk _ => fun e => by
    have e' : x = gt := e
    subst e'
    rw [(bk_inj hk h1.tree).1] at hin
    exact absurd hin (by decide)
  have h2 := h1.set_visits 0
  have hk2 : Keep F w (w1.setCell ⟨gt, 3, none⟩ (.int .i64 0)) := Keep.setCell (F := F) (Keep.of_below hb1) (p := ⟨gt, 3, none⟩) (.inl hF) _
  obtain ⟨W, hW⟩ : ∃ W, w1.setCell ⟨gt, 3, none⟩ (.int .i64 0) = W := ⟨_, rfl⟩
  rw [hW] at h2 ha2 hk2
  have HW := Lib.hid hW
  have H2 := Lib.hid h2
  have Ha2 := Lib.hid ha2
  have Hk2 := Lib.hid hk2
  clear hb1 h1 ha1 hW h2 ha2 hk2 hkx
  go_wp2_with fail
  rw [HW.out]
  clear c2 c3 f3
  refine (insert_leaf gt ga gl cl gb k 0 b bs W H2.out Hl.out Hk.out).mono ?_
  rintro e w3 ⟨rfl, ⟨v3, hV⟩, hk3⟩
  have f2 := hV.tree.frozen 2
  have c2 : w3.cell? ⟨gt, 2, none⟩ = some (.int .i64 0) := (hV.tree.cell 2).trans rfl
  have hgt3 := hV.tree.lt
  have hV4 := hV.set_root 0
  have ha3 := Ha2.out.keep hk3 fun x t cs hin hk _ => fun e => by
    rcases e with e | e | e
    · subst e
      rw [(bk_inj hk H2.out.tree).1] at hin
      exact absurd hin (by decide)
    · subst e
      obtain ⟨cu, hcu⟩ := own_bk H2.out.row
      rw [(bk_inj hk hcu).1] at hin
      exact absurd hin (by decide)
    · subst e
      rw [(bk_inj hk H2.out.blk).1] at hin
      exact absurd hin (by decide)
  have hkx : Keep (fun x => x = gt) w3 (w3.setCell ⟨gt, 2, none⟩ (.int .i64 0)) := Keep.setCell (F := fun x => x = gt) (Keep.refl _ _) (p := ⟨gt, 2, none⟩) (.inl rfl) _
  have ha4 := ha3.keep hkx fun x t cs hin hk _ => fun e => by
    have e' : x = gt := e
    subst e'
    rw [(bk_inj hk hV.tree).1] at hin
    exact absurd hin (by decide)
  have hk4 : Keep F w w3 := Hk2.out.trans (hk3.mono fun x _ e => by
    rcases e with rfl | rfl | rfl
    · exact hF
    · exact hFl
    · exact hFb)
  have hk5 : Keep F w (w3.setCell ⟨gt, 2, none⟩ (.int .i64 0)) := Keep.setCell (F := F) hk4 (p := ⟨gt, 2, none⟩) (.inl hF) _
  have HV4 := Lib.hid hV4
  have Ha4 := Lib.hid ha4
  have Hk5 := Lib.hid hk5
  clear hV hV4 ha3 ha4 hk3 hk4 hk5 hkx
  go_wp2_with fail
  go_ret
  have hlI : (insN bs k b).length = bs.length + 1 := insN_len _ _ Hk.out
  refine ⟨rfl, ⟨hF, ga, v3, .inr (.inr ⟨fun e => ?_, ?_, gl, cl, gb, hFl, hFb, HV4.out, Ha4.out⟩)⟩, Hk5.out⟩
  · rw [e] at hlI
    simp at hlI
  · have := Hl.out
    omega
/-- A bit is let in. -/
theorem TreeInsert_any (F : Nat → Prop) (gt k : Nat) (b : Bool) (bs : List Bool) (w : World) (h : TreeE w F gt bs) (hl : bs.length ≤ 127) (hk : k ≤ bs.length) :
    Calls Tryz.prog 100 #[.pointer (some ⟨gt, 0, none⟩), .int .i64 (k : Int), .bool b] w fun e w' => e = .returned (.int .i64 0) ∧ TreeE w' (Gw F w.heap.size) gt (insN bs k b) ∧ Keep F w w' := by
  obtain ⟨h0, ga, v, ⟨rfl, h2, h3, h4⟩ | ⟨rfl, gl, cl, l8, h2, h3, h4, h5⟩ | ⟨h1, h2, gl, cl, gb, h3, h4, h5, h6⟩⟩ := h
  · obtain rfl : k = 0 := by simpa using hk
    exact insert_empty gt ga 0 v b F w h0 h2 h3 h4
  · obtain rfl : k = 0 := by simpa using hk
    exact insert_again gt ga gl cl v b l8 F w h0 h2 h3 h4 h5
  · refine (insert_more gt ga gl cl gb k v b bs F w h0 h3 h4 h5 h6 hl hk h1).mono ?_
    rintro e w' ⟨e1, e2, e3⟩
    exact ⟨e1, e2.mono fun x _ f => .inl f, e3⟩
set_option maxRecDepth 100000 in
set_option maxHeartbeats 2000000 in
theorem drop_leaf (gt ga gl cl gb k : Nat) (v : Int) (bs : List Bool) (w : World) (h : LeafV w 0 gt ga gl cl gb 0 v bs) (hl : bs.length ≤ 128) (hk : k < bs.length) :
    Calls Tryz.prog 148 #[.pointer (some ⟨gt, 0, none⟩), .int .i64 0, .int .i64 (k : Int)] w fun e w' => e = .returned (.tuple #[.int .i64 0, .bool (bs.getD k false)]) ∧ (∃ v', LeafV w' 0 gt ga gl cl gb 0 v' (delN bs k)) ∧ Keep (fun b => b = gt ∨ b = gl ∨ b = gb) w w' := by
  obtain ⟨c0, c1, c2, c3, d0, d1, d2, d3, d4, d5, d6, d7⟩ := h.cells
  have hgl := h.row.lt.2
  have hgt := h.tree.lt
  have hgb := h.blk.lt
  have hgt_gl : gt ≠ gl := h.row.bk_ne h.tree (by decide)
  have hgb_gl : gb ≠ gl := h.row.bk_ne h.blk (by decide)
  have hgt_gb : gt ≠ gb := Bk.ne h.tree h.blk (by decide)
  have f3 := h.tree.frozen 3
  have hl' : (delN bs k).length ≤ 128 := by have := delN_len bs hk; omega
  obtain ⟨n, hn⟩ : ∃ n, bs.length = n := ⟨_, rfl⟩
  obtain ⟨o, ho⟩ : ∃ o, bs.count true = o := ⟨_, rfl⟩
  have h1 := (h.set_visits (wrap64 (v + 1))).below ((Below.refl _ _).alloc (Nat.le_refl _) (.cells #[.int .i64 (-1), .int .i64 (-1), .int .i64 0, .int .i64 (n : Int), .int .i64 (o : Int), .int .i64 0, .int .i64 0, .pointer (some ⟨gb, 0, none⟩)] 120))
  have hk1 : Keep (fun b => b = gt ∨ b = gl ∨ b = gb) w ((w.setCell ⟨gt, 3, none⟩ (.int .i64 (wrap64 (v + 1)))).alloc (.cells #[.int .i64 (-1), .int .i64 (-1), .int .i64 0, .int .i64 (n : Int), .int .i64 (o : Int), .int .i64 0, .int .i64 0, .pointer (some ⟨gb, 0, none⟩)] 120)) :=
    (Keep.setCell (F := fun b => b = gt ∨ b = gl ∨ b = gb) (Keep.refl _ _) (p := ⟨gt, 3, none⟩) (.inl (.inl rfl)) _).alloc _
  have hn1 := Bk.new (w.setCell ⟨gt, 3, none⟩ (.int .i64 (wrap64 (v + 1)))) 120 #[.int .i64 (-1), .int .i64 (-1), .int .i64 0, .int .i64 (n : Int), .int .i64 (o : Int), .int .i64 0, .int .i64 0, .pointer (some ⟨gb, 0, none⟩)]
  rw [hn] at d3
  rw [ho] at d4
  obtain ⟨W, hW⟩ : ∃ W, (w.setCell ⟨gt, 3, none⟩ (.int .i64 (wrap64 (v + 1)))).alloc (.cells #[.int .i64 (-1), .int .i64 (-1), .int .i64 0, .int .i64 (n : Int), .int .i64 (o : Int), .int .i64 0, .int .i64 0, .pointer (some ⟨gb, 0, none⟩)] 120) = W := ⟨_, rfl⟩
  rw [hW] at h1 hk1 hn1
  have hsz : (w.setCell ⟨gt, 3, none⟩ (.int .i64 (wrap64 (v + 1)))).heap.size = w.heap.size := by simp [World.setCell]
  rw [hsz] at hn1
  have x7 : W.cell? ⟨w.heap.size, 7, none⟩ = some (.pointer (some ⟨gb, 0, none⟩)) := (hn1.cell 7).trans rfl
  have hWs := hn1.lt
  have H1 := Lib.hid h1
  have Hk1 := Lib.hid hk1
  have Hn1 := Lib.hid hn1
  have HW := Lib.hid hW
  have Hn := Lib.hid hn
  have Hl := Lib.hid hl
  have Hk := Lib.hid hk
  have Hl' := Lib.hid hl'
  clear h h1 hk1 hn1 hW hn ho hsz hl hk hl'
  go_enter Tryz.func148, Tryz.ntmps148
  go_wp2_with fail
  rw [HW.out]
  refine (BlockDelete_any gb bs k _ H1.out.blk Hl.out Hk.out).mono ?_
  rintro e w3 ⟨rfl, hb3, hk3⟩
  have ht3 := hk3.bk H1.out.tree hgt_gb
  have hr3 := own_same H1.out.row (w' := w3) fun x cs _ hb => hk3.bk hb (fun e => Bk.ne hb H1.out.blk (by decide) e)
  have hk13 := Hk1.out.trans (hk3.mono (G := fun b => b = gt ∨ b = gl ∨ b = gb) fun x _ e => .inr (.inr e))
  have Hb3 := Lib.hid hb3
  have Hk3 := Lib.hid hk3
  have Ht3 := Lib.hid ht3
  have Hr3 := Lib.hid hr3
  have Hk13 := Lib.hid hk13
  clear hb3 hk3 ht3 hr3 hk13 x7
  go_wp2_with fail
  refine (fix_leaf gt ga gl cl gb 0 0 _ (delN bs k) w3 Ht3.out Hr3.out Hb3.out Hl'.out).mono ?_
  rintro e w4 ⟨rfl, hk4, hr4⟩
  have ht4 := hk4.bk Ht3.out hgt_gl
  have hb4 := hk4.bk Hb3.out hgb_gl
  have hk14 := Hk13.out.trans (hk4.mono (G := fun b => b = gt ∨ b = gl ∨ b = gb) fun x _ e => .inr (.inl e))
  have H4 := Lib.hid (show LeafV w4 0 gt ga gl cl gb 0 _ (delN bs k) from ⟨ht4, hr4, hb4⟩)
  have Hk14 := Lib.hid hk14
  clear ht4 hb4 hk14 hk4 hr4
  go_wp2_with fail
  go_ret2
  exact ⟨rfl, ⟨_, H4.out⟩, Hk14.out⟩
set_option maxRecDepth 100000 in
set_option maxHeartbeats 2000000 in
/-- A bit is let out. -/
theorem TreeDelete_any (F : Nat → Prop) (gt k : Nat) (bs : List Bool) (w : World) (h : TreeE w F gt bs) (hk : k < bs.length) :
    Calls Tryz.prog 132 #[.pointer (some ⟨gt, 0, none⟩), .int .i64 (k : Int)] w fun e w' => e = .returned (.tuple #[.bool (bs.getD k false), .int .i64 0]) ∧ TreeE w' (Gw F w.heap.size) gt (delN bs k) ∧ Keep F w w' := by
  have hhas := TreeHas_any gt bs k w h.at hk
  have hF := h.1
  obtain ⟨n, hn⟩ : ∃ n, bs.length = n := ⟨_, rfl⟩
  obtain ⟨d, hd⟩ : ∃ d, (delN bs k).length = d := ⟨_, rfl⟩
  obtain ⟨bb, hbb⟩ : ∃ bb, bs.getD k false = bb := ⟨_, rfl⟩
  rw [hbb]
  have Hbb := Lib.hid hbb
  clear hbb
  have H := Lib.hid h
  have Hk := Lib.hid hk
  have Hd := Lib.hid hd
  clear h hk hd hn
  go_enter Tryz.func132, Tryz.ntmps132
  go_wp2_with fail
  refine hhas.mono ?_
  rintro e w1 ⟨rfl, hv1⟩
  clear hhas
  have h1 := H.out.vis hv1.1
  have hk1 : Keep F w w1 := hv1.2.mono fun x _ e => by rw [e]; exact hF
  obtain ⟨_, ga, v, ⟨h2, _, _, _⟩ | ⟨h2, gl, cl, l8, _, _, _, _⟩ | ⟨hne, hl, gl, cl, gb, hFl, hFb, hV, ha⟩⟩ := h1
  · have := Hk.out
    rw [h2] at this
    simp at this
  · have := Hk.out
    rw [h2] at this
    simp at this
  have c2 : w1.cell? ⟨gt, 2, none⟩ = some (.int .i64 0) := (hV.tree.cell 2).trans rfl
  have hgt1 := hV.tree.lt
  have HV := Lib.hid hV
  have Ha := Lib.hid ha
  have Hk1 := Lib.hid hk1
  have Hl := Lib.hid hl
  clear hV ha hk1 hv1 hl hne
  go_wp2_with fail
  refine (drop_leaf gt ga gl cl gb k v bs w1 HV.out Hl.out Hk.out).mono ?_
  rintro e w2 ⟨rfl, ⟨v2, hV2⟩, hk2⟩
  rw [Hbb.out]
  have ha2 := Ha.out.keep hk2 fun x t cs hin hk _ => fun e => by
    rcases e with e | e | e
    · subst e
      rw [(bk_inj hk HV.out.tree).1] at hin
      exact absurd hin (by decide)
    · subst e
      obtain ⟨cu, hcu⟩ := own_bk HV.out.row
      rw [(bk_inj hk hcu).1] at hin
      exact absurd hin (by decide)
    · subst e
      rw [(bk_inj hk HV.out.blk).1] at hin
      exact absurd hin (by decide)
  have hk12 : Keep F w w2 := Hk1.out.trans (hk2.mono fun x _ e => by
    rcases e with rfl | rfl | rfl
    · exact hF
    · exact hFl
    · exact hFb)
  have hV3 := hV2.set_root 0
  have hkx : Keep (fun x => x = gt) w2 (w2.setCell ⟨gt, 2, none⟩ (.int .i64 0)) := Keep.setCell (F := fun x => x = gt) (Keep.refl _ _) (p := ⟨gt, 2, none⟩) (.inl rfl) _
  have ha3 := ha2.keep hkx fun x t cs hin hk _ => fun e => by
    have e' : x = gt := e
    subst e'
    rw [(bk_inj hk hV2.tree).1] at hin
    exact absurd hin (by decide)
  have hk3 : Keep F w (w2.setCell ⟨gt, 2, none⟩ (.int .i64 0)) := Keep.setCell (F := F) hk12 (p := ⟨gt, 2, none⟩) (.inl hF) _
  have f2 := hV2.tree.frozen 2
  obtain ⟨c0, c1, c2, c3, d0, d1, d2, d3, d4, d5, d6, d7⟩ := hV2.cells
  rw [Hd.out] at d3
  have hgt2 := hV2.tree.lt
  have hgl2 := hV2.row.lt.2
  have hgt_gl : gt ≠ gl := hV2.row.bk_ne hV2.tree (by decide)
  obtain ⟨W, hW⟩ : ∃ W, w2.setCell ⟨gt, 2, none⟩ (.int .i64 0) = W := ⟨_, rfl⟩
  rw [hW] at hV3 ha3 hk3
  have hsW : w2.heap.size = W.heap.size := by rw [← hW]; simp [World.setCell]
  have hgt3 := hV3.tree.lt
  have f2W := hV3.tree.frozen 2
  have c2W : W.cell? ⟨gt, 2, none⟩ = some (.int .i64 0) := (hV3.tree.cell 2).trans rfl
  have HW := Lib.hid hW
  have HsW := Lib.hid hsW
  have HV3 := Lib.hid hV3
  have Ha3 := Lib.hid ha3
  have Hk3 := Lib.hid hk3
  have hsz := hk3.size
  clear hV2 ha2 hk12 hk2 hV3 ha3 hk3 hkx hW hsW d0 d1 d2 d4 d5 d6 d7 c3
  rcases Nat.eq_zero_or_pos d with hd0 | hd0
  · subst hd0
    have hnil : delN bs k = [] := List.eq_nil_of_length_eq_zero Hd.out
    obtain ⟨Fa, hFa, hFt, hFs, ha⟩ := Ha3.out.own
    have hgs : Bk (W.alloc (.cells #[.int .i64 0] 3)) w2.heap.size 3 #[.int .i64 0] := by
      rw [HsW.out]
      exact Bk.new W _ _
    have ha4 := ha.keep (G := fun _ => False) (Keep.of_below ((Below.refl _ _).alloc (Nat.le_refl _) (.cells #[.int .i64 0] 3))) (fun _ _ _ _ _ _ f => f)
    have hV4 := HV3.out.below ((Below.refl _ _).alloc (Nat.le_refl _) (.cells #[.int .i64 0] 3))
    have Hgs := Lib.hid hgs
    have Ha4 := Lib.hid ha4
    have HV4 := Lib.hid hV4
    have HFt := Lib.hid hFt
    clear hgs ha4 ha hV4 hFt
    go_wp2_with fail
    rw [HW.out]
    refine (Free_any Fa ga w2.heap.size 0 [true] [] _ Ha4.out (by simp) Hgs.out (by simp)).mono ?_
    rintro e w5 ⟨rfl, ha5, hk5⟩
    have hty : ∀ b t cs, Bk (W.alloc (.cells #[.int .i64 0] 3)) b t cs → t ≠ 108 → t ≠ 4 → t ≠ 3 → b < W.heap.size → ¬ Fa b := fun b t cs hk h1 h2 h3 hlt hf => by
      have hk' : Bk W b t cs := by
        have := (Below.heap_alloc W (.cells #[.int .i64 0] 3) b hlt)
        exact this.symm.trans hk
      rcases HFt.out b t cs hf hk' with e | e | e
      · exact h1 e
      · exact h2 e
      · exact h3 e
    have ht5 := hk5.bk HV4.out.tree (hty _ _ _ HV4.out.tree (by decide) (by decide) (by decide) HV3.out.tree.lt)
    have hr5 := own_same (w' := w5) HV4.out.row fun b cs hb hk => hk5.bk hk (hty _ _ _ hk (by decide) (by decide) (by decide) (by
      injection hb with hb
      have e' : gl = b := hb
      rw [← e']
      exact HV3.out.row.lt.2))
    have c2' : w5.cell? ⟨gt, 2, none⟩ = some (.int .i64 0) := (ht5.cell 2).trans rfl
    have f5 := ht5.frozen 2
    have hgt5 := ht5.lt
    have ht6 := ht5.set 2 (.int .i64 (-1))
    have hr6 := own_same (w' := w5.setCell ⟨gt, 2, none⟩ (.int .i64 (-1))) hr5 fun b cs _ hk => hk.far (p := ⟨gt, 2, none⟩) (Bk.ne hk ht5 (by decide)) _
    have hkx : Keep (fun x => x = gt) w5 (w5.setCell ⟨gt, 2, none⟩ (.int .i64 (-1))) := Keep.setCell (F := fun x => x = gt) (Keep.refl _ _) (p := ⟨gt, 2, none⟩) (.inl rfl) _
    have ha6 := (ha5.keep hkx fun x t cs hin hk _ => fun e => by
      have e' : x = gt := e
      subst e'
      rw [(bk_inj hk ht5).1] at hin
      exact absurd hin (by decide)).mono (G := Gw F w.heap.size) fun x _ f => by
        rcases f with f | f
        · exact .inl (hFa x f)
        · simp at f
          exact .inr (by omega)
    have hk6 : Keep F w (w5.setCell ⟨gt, 2, none⟩ (.int .i64 (-1))) := Keep.setCell (F := F) ((Hk3.out.alloc _).trans (hk5.mono fun x _ f => hFa x f)) (p := ⟨gt, 2, none⟩) (.inl hF) _
    have Ht6 := Lib.hid ht6
    have Hr6 := Lib.hid hr6
    have Ha6 := Lib.hid ha6
    have Hk6 := Lib.hid hk6
    clear ht5 hr5 ht6 hr6 hkx ha5 ha6 hk5 hk6 hty c0 c1 c2 d3 c2W f2W f2
    go_wp2_with fail
    go_ret2
    rw [hnil]
    exact ⟨rfl, ⟨.inl hF, ga, _, .inr (.inl ⟨rfl, gl, cl, _, .inl hFl, Ht6.out, Hr6.out, Ha6.out⟩)⟩, Hk6.out⟩
  · have hdI : ((d : Int) == 0) = false := by rw [beq_eq_false_iff_ne]; omega
    go_wp2_with fail
    rw [HW.out]
    go_ret2
    refine ⟨rfl, ⟨.inl hF, ga, _, .inr (.inr ⟨fun e => ?_, ?_, gl, cl, gb, .inl hFl, .inl hFb, HV3.out, Ha3.out.mono fun x _ f => .inl f⟩)⟩, Hk3.out⟩
    · have := Hd.out
      rw [e] at this
      simp at this
      omega
    · have := Hd.out
      have h1 := delN_len bs Hk.out
      have h2 := Hl.out
      omega
end Go.Proofs.YthkkcelfgcholaaGreat
namespace Go.Proofs.YthkkcelfgcholaaGreat
open Go.RowKit
set_option linter.unusedVariables false
set_option linter.unusedSimpArgs false
theorem Gw.gw {F : Nat → Prop} {n m : Nat} (h : n ≤ m) : ∀ b, Gw (Gw F n) m b → Gw F n b := fun b hb => by
  rcases hb with hb | hb
  · exact hb
  · exact .inr (by omega)
set_option maxRecDepth 100000 in
theorem InsertC_any (gt gk gb : Nat) (lv p : Int) (F : Nat → Prop) (bs : List Bool) (k : Nat) (b : Bool) (w : World) (ht : TreeE w F gt bs) (hk : Bk w gk 3 #[.int .i64 (k : Int)]) (hb : Bk w gb 4 #[.bool b]) (hl : bs.length ≤ 127) (hkl : k ≤ bs.length) :
    Calls Tryz.prog 99 #[.agg #[.pointer (some ⟨gt, 0, none⟩), .int .i64 lv, .int .i64 p], .pointer (some ⟨gk, 0, none⟩), .pointer (some ⟨gb, 0, none⟩)] w fun e w' => e = .returned (.tuple #[]) ∧ TreeE w' (Gw F w.heap.size) gt (insN bs k b) ∧ Keep F w w' := by
  have c1 : w.cell? ⟨gk, 0, none⟩ = some (.int .i64 (k : Int)) := (hk.cell 0).trans rfl
  have c2 : w.cell? ⟨gb, 0, none⟩ = some (.bool b) := (hb.cell 0).trans rfl
  have l1 := hk.lt
  have l2 := hb.lt
  have Ht := Lib.hid ht
  clear ht hk hb
  go_enter Tryz.func99, Tryz.ntmps99
  go_wp2_with fail
  refine (TreeInsert_any F gt k b bs _ (Ht.out.below ((Below.refl _ _).alloc (Nat.le_refl _) _)) hl hkl).mono ?_
  rintro e w1 ⟨rfl, h1, h2⟩
  have h3 : Keep F w w1 := (Keep.of_below ((Below.refl _ _).alloc (Nat.le_refl _) _)).trans h2
  have H1 := Lib.hid (h1.mono (G := Gw F w.heap.size) fun x _ f => by
    rcases f with f | f
    · exact .inl f
    · simp at f
      exact .inr (by omega))
  have H3 := Lib.hid h3
  clear h1 h2 h3
  go_wp2_with fail
  go_end0
  exact ⟨rfl, H1.out, H3.out⟩
set_option maxRecDepth 100000 in
theorem DeleteC_any (gt gk gn : Nat) (lv p : Int) (x : Value) (F : Nat → Prop) (bs : List Bool) (k : Nat) (w : World) (ht : TreeE w F gt bs) (hk : Bk w gk 3 #[.int .i64 (k : Int)]) (hn : Bk w gn 4 #[x]) (hFn : ¬ F gn) (hkl : k < bs.length) :
    Calls Tryz.prog 131 #[.agg #[.pointer (some ⟨gt, 0, none⟩), .int .i64 lv, .int .i64 p], .pointer (some ⟨gk, 0, none⟩), .pointer (some ⟨gn, 0, none⟩)] w fun e w' => e = .returned (.tuple #[]) ∧ ∃ w1, TreeE w1 (Gw F w.heap.size) gt (delN bs k) ∧ Keep F w w1 ∧ Bk w1 gn 4 #[x] ∧ w' = w1.setCell ⟨gn, 0, none⟩ (.bool (bs.getD k false)) := by
  have c1 : w.cell? ⟨gk, 0, none⟩ = some (.int .i64 (k : Int)) := (hk.cell 0).trans rfl
  have l1 := hk.lt
  have l2 := hn.lt
  obtain ⟨bb, hbb⟩ : ∃ b, bs.getD k false = b := ⟨_, rfl⟩
  rw [hbb]
  have Hbb := Lib.hid hbb
  have Ht := Lib.hid ht
  have Hn := Lib.hid hn
  have Hkl := Lib.hid hkl
  clear ht hk hn hbb hkl
  go_enter Tryz.func131, Tryz.ntmps131
  go_wp2_with fail
  refine (TreeDelete_any F gt k bs _ (Ht.out.below ((Below.refl _ _).alloc (Nat.le_refl _) _)) Hkl.out).mono ?_
  rintro e w1 ⟨rfl, h1, h2⟩
  rw [Hbb.out]
  have h3 : Keep F w w1 := (Keep.of_below ((Below.refl _ _).alloc (Nat.le_refl _) _)).trans h2
  have hn1 := h3.bk Hn.out hFn
  have c3 : w1.cell? ⟨gn, 0, none⟩ = some x := (hn1.cell 0).trans rfl
  have f3 := hn1.frozen 0
  have hgn1 := hn1.lt
  have H1 := Lib.hid (h1.mono (G := Gw F w.heap.size) fun x _ f => by
    rcases f with f | f
    · exact .inl f
    · simp at f
      exact .inr (by omega))
  have H3 := Lib.hid h3
  have Hn1 := Lib.hid hn1
  clear h1 h2 h3 hn1
  go_wp2_with fail
  go_end0
  exact ⟨rfl, w1, H1.out, H3.out, Hn1.out, rfl⟩
theorem tree_ne_wave {w : World} {gt gv : Nat} {bs : List Bool} {cs : Array Value} (h : TreeAt w gt bs) (hv : Bk w gv 82 cs) : gt ≠ gv := by
  rintro rfl
  obtain ⟨ga, v, ⟨_, _, h2⟩ | ⟨_, _, _, _, _, h3⟩⟩ := h
  · exact absurd (bk_inj h2 hv).1 (by decide)
  · exact absurd (bk_inj h3.tree hv).1 (by decide)
set_option maxRecDepth 100000 in
set_option maxHeartbeats 1000000 in
theorem LookI_any (gv gt gk gb : Nat) (S : Nat → Value) (n v lv p : Int) (F : Nat → Prop) (bs : List Bool) (k : Nat) (b : Bool) (w : World) (hw : Bk w gv 82 (wcells S n v)) (ht : TreeE w F gt bs) (hFv : ¬ F gv) (hFs : ∀ x, F x → x < w.heap.size) (hk : Bk w gk 3 #[.int .i64 (k : Int)]) (hb : Bk w gb 4 #[.bool b]) (hl : bs.length ≤ 127) (hkl : k ≤ bs.length) :
    Calls Tryz.prog 54 #[.pointer (some ⟨gv, 0, none⟩), .agg #[.pointer (some ⟨gt, 0, none⟩), .int .i64 lv, .int .i64 p], .func (.func 99) #[] #[.pointer (some ⟨gk, 0, none⟩), .pointer (some ⟨gb, 0, none⟩)]] w fun e w' => e = .returned (.tuple #[]) ∧
      TreeE w' (Gw F w.heap.size) gt (insN bs k b) ∧ Keep (fun x => F x ∨ x = gv) w w' ∧ ∃ v', Bk w' gv 82 (wcells S n v') := by
  obtain ⟨o, ho⟩ : ∃ o, Obj.cells #[.pointer (some ⟨gt, 0, none⟩), .int .i64 lv, .int .i64 p] 85 = o := ⟨_, rfl⟩
  have hal := (Below.refl w.heap.size w).alloc (Nat.le_refl _) o
  have hs1 := Bk.new w 85 #[.pointer (some ⟨gt, 0, none⟩), .int .i64 lv, .int .i64 p]
  rw [ho] at hs1
  have l4 := hw.lt
  have Ht := Lib.hid ht
  have Hk := Lib.hid hk
  have Hb := Lib.hid hb
  have Hw := Lib.hid hw
  have HA := Lib.hid hal
  have Hs := Lib.hid hs1
  have Ho := Lib.hid ho
  have HFs := Lib.hid hFs
  clear ht hk hb hw hal hs1 ho hFs
  go_enter Tryz.func54, Tryz.ntmps54
  go_wp2_with fail
  rw [Ho.out]
  refine (InsertC_any gt gk gb lv p F bs k b _ (Ht.out.below HA.out) (Hk.out.alloc _) (Hb.out.alloc _) hl hkl).mono ?_
  rintro e W ⟨rfl, ht2, hk2⟩
  have hw2 := hk2.bk (Hw.out.alloc o) hFv
  have hs2 := hk2.bk Hs.out (fun f => by have := HFs.out _ f; omega)
  have hkW : Keep F w W := (Keep.of_below HA.out).trans hk2
  have htE : TreeE W (Gw F w.heap.size) gt (insN bs k b) := ht2.mono fun x _ f => by
    rcases f with f | f
    · exact .inl f
    · simp at f
      exact .inr (by omega)
  obtain ⟨vt, hvt⟩ := htE.at.visits
  have htlt := htE.at.lt
  have hslt := hs2.lt
  have hgs := Bk.ne hw2 hs2 (by decide)
  have hgvt := tree_ne_wave htE.at hw2
  have Hw2 := Lib.hid hw2
  have Hs2 := Lib.hid hs2
  have HkW := Lib.hid hkW
  have HtE := Lib.hid htE
  have Hvt := Lib.hid hvt
  clear hw2 hs2 hkW htE hvt ht2 hk2 HA Ht Hk Hb Hw Hs
  go_wp2_with fail
  refine wp_region_any (by kernel_rfl) ?_
  refine wpAny_keep [9, 10, 11, 12, 13, 14, 15, 16, 17, 18] (fun b => b = gv) 10 [3, 10] (fun w2 => Bk w2 gv 82 (wcells S n v)) (fun _ w2 => Bk w2 gv 82 (wcells S n (IntKind.i64.wrap (v + vt)))) [is (.pointer (some ⟨gv, 0, none⟩)), is (.pointer (some ⟨gv, 0, none⟩)), is (.pointer (some ⟨gv, 10, none⟩)), is (.int .i64 v), is (.pointer (some ⟨w.heap.size, 0, none⟩)), is (.pointer (some ⟨gt, 0, none⟩)), is (.int .i64 vt), is (.int .i64 (IntKind.i64.wrap (v + vt))), is (.pointer (some ⟨gv, 0, none⟩)), is (.pointer (some ⟨gv, 10, none⟩)), anyV] _ _ rfl (by kernel_rfl) (by kernel_rfl) (Hw2.out) (fun w2 w3 h _ hg => Bk.below h hg h.lt) (fun _ _ _ h k => Bk.below h k h.lt) (by repeat' (first | exact stbk_is _ _ | exact stbk_any _ | (refine List.forall_mem_cons.2 ⟨?_, ?_⟩) | (intro p hp; cases hp))) ?_ ?_
  · refine steps_of ?_
    refine steps_cons ?_ ?_
    · refine step_on3 rfl rfl ?_
      intro ev w5 hS hU hc hf hold hval a K ha hK
      replace hS : Keep (fun b => b = gv) W w5 := ⟨hS.os, hS.tape, hS.output, hS.size, hS.block⟩
      clear hU
      have e0 : ev (.tmp 0) = .pointer (some ⟨gv, 0, none⟩) := hold 0 (by kernel_rfl)
      go_simp
      exact hK _ _ (kstep_grow (Below.refl _ _)) rfl
    refine steps_cons ?_ ?_
    · refine step_on3 rfl rfl ?_
      intro ev w5 hS hU hc hf hold hval a K ha hK
      replace hS : Keep (fun b => b = gv) W w5 := ⟨hS.os, hS.tape, hS.output, hS.size, hS.block⟩
      clear hU
      have e9 : ev (.tmp 9) = .pointer (some ⟨gv, 0, none⟩) := hval 0 9 (by kernel_rfl) rfl
      go_simp
      exact hK _ _ (kstep_grow (Below.refl _ _)) rfl
    refine steps_cons ?_ ?_
    · refine step_on3 rfl rfl ?_
      intro ev w5 hS hU hc hf hold hval a K ha hK
      replace hS : Keep (fun b => b = gv) W w5 := ⟨hS.os, hS.tape, hS.output, hS.size, hS.block⟩
      clear hU
      have e10 : ev (.tmp 10) = .pointer (some ⟨gv, 0, none⟩) := hval 1 10 (by kernel_rfl) rfl
      go_simp
      exact hK _ _ (kstep_grow (Below.refl _ _)) rfl
    refine steps_cons ?_ ?_
    · refine step_on3 rfl rfl ?_
      intro ev w5 hS hU hc hf hold hval a K ha hK
      replace hS : Keep (fun b => b = gv) W w5 := ⟨hS.os, hS.tape, hS.output, hS.size, hS.block⟩
      have hpre := hU rfl
      clear hU
      have e11 : ev (.tmp 11) = .pointer (some ⟨gv, 10, none⟩) := hval 2 11 (by kernel_rfl) rfl
      have c12 : w5.cell? ⟨gv, 10, none⟩ = some (.int .i64 v) := (hpre.cell 10).trans (wcells_get _ _ _).2.2.2.2.2.2.2.2.2.2
      go_simp
      exact hK _ _ (kstep_grow (Below.refl _ _)) rfl
    refine steps_cons ?_ ?_
    · refine step_on3 rfl rfl ?_
      intro ev w5 hS hU hc hf hold hval a K ha hK
      replace hS : Keep (fun b => b = gv) W w5 := ⟨hS.os, hS.tape, hS.output, hS.size, hS.block⟩
      clear hU
      have e4 : ev (.tmp 4) = .pointer (some ⟨w.heap.size, 0, none⟩) := hold 4 (by kernel_rfl)
      go_simp
      exact hK _ _ (kstep_grow (Below.refl _ _)) rfl
    refine steps_cons ?_ ?_
    · refine step_on3 rfl rfl ?_
      intro ev w5 hS hU hc hf hold hval a K ha hK
      replace hS : Keep (fun b => b = gv) W w5 := ⟨hS.os, hS.tape, hS.output, hS.size, hS.block⟩
      clear hU
      have e13 : ev (.tmp 13) = .pointer (some ⟨w.heap.size, 0, none⟩) := hval 4 13 (by kernel_rfl) rfl
      have c14 : w5.cell? ⟨w.heap.size, 0, none⟩ = some (.pointer (some ⟨gt, 0, none⟩)) := ((hS.bk Hs2.out (fun h => hgs (show w.heap.size = gv from h).symm)).cell 0).trans rfl
      go_simp
      exact hK _ _ (kstep_grow (Below.refl _ _)) rfl
    refine steps_cons ?_ ?_
    · refine step_on3 rfl rfl ?_
      intro ev w5 hS hU hc hf hold hval a K ha hK
      replace hS : Keep (fun b => b = gv) W w5 := ⟨hS.os, hS.tape, hS.output, hS.size, hS.block⟩
      clear hU
      have e14 : ev (.tmp 14) = .pointer (some ⟨gt, 0, none⟩) := hval 5 14 (by kernel_rfl) rfl
      go_simp
      refine (TreeVisits_any gt vt w5 ((hS.cell htlt hgvt).trans Hvt.out)).mono ?_
      rintro e w8 ⟨rfl, hb8⟩
      exact hK _ _ (kstep_grow hb8) rfl
    refine steps_cons ?_ ?_
    · refine step_on3 rfl rfl ?_
      intro ev w5 hS hU hc hf hold hval a K ha hK
      replace hS : Keep (fun b => b = gv) W w5 := ⟨hS.os, hS.tape, hS.output, hS.size, hS.block⟩
      clear hU
      have e12 : ev (.tmp 12) = .int .i64 v := hval 3 12 (by kernel_rfl) rfl
      have e15 : ev (.tmp 15) = .int .i64 vt := hval 6 15 (by kernel_rfl) rfl
      go_simp
      exact hK _ _ (kstep_grow (Below.refl _ _)) rfl
    refine steps_cons ?_ ?_
    · refine step_on3 rfl rfl ?_
      intro ev w5 hS hU hc hf hold hval a K ha hK
      replace hS : Keep (fun b => b = gv) W w5 := ⟨hS.os, hS.tape, hS.output, hS.size, hS.block⟩
      clear hU
      have e9 : ev (.tmp 9) = .pointer (some ⟨gv, 0, none⟩) := hval 0 9 (by kernel_rfl) rfl
      go_simp
      exact hK _ _ (kstep_grow (Below.refl _ _)) rfl
    refine steps_cons ?_ ?_
    · refine step_on3 rfl rfl ?_
      intro ev w5 hS hU hc hf hold hval a K ha hK
      replace hS : Keep (fun b => b = gv) W w5 := ⟨hS.os, hS.tape, hS.output, hS.size, hS.block⟩
      clear hU
      have e17 : ev (.tmp 17) = .pointer (some ⟨gv, 0, none⟩) := hval 8 17 (by kernel_rfl) rfl
      go_simp
      exact hK _ _ (kstep_grow (Below.refl _ _)) rfl
    refine steps_cons ?_ ?_
    · refine step_on3 rfl rfl ?_
      intro ev w5 hS hU hc hf hold hval a K ha hK
      replace hS : Keep (fun b => b = gv) W w5 := ⟨hS.os, hS.tape, hS.output, hS.size, hS.block⟩
      have hpre := hU rfl
      clear hU
      have e18 : ev (.tmp 18) = .pointer (some ⟨gv, 10, none⟩) := hval 9 18 (by kernel_rfl) rfl
      have e16 : ev (.tmp 16) = .int .i64 (IntKind.i64.wrap (v + vt)) := hval 7 16 (by kernel_rfl) rfl
      have c12 : w5.cell? ⟨gv, 10, none⟩ = some (.int .i64 v) := (hpre.cell 10).trans (wcells_get _ _ _).2.2.2.2.2.2.2.2.2.2
      have f12 := hpre.frozen 10
      go_simp
      refine hK (.bool true) _ (kstep_keep (Keep.setCell (F := fun b => b = gv) (Keep.refl _ _) (p := ⟨gv, 10, none⟩) (.inl rfl) _)) ?_
      have h9 := hpre.set 10 (.int .i64 (IntKind.i64.wrap (v + vt)))
      rw [wcells_visits] at h9
      exact h9
    exact steps_nil
  · intro ev w6 hS hval hall
    replace hS : Keep (fun b => b = gv) W w6 := ⟨hS.os, hS.tape, hS.output, hS.size, hS.block⟩
    obtain ⟨vJ, pJ⟩ : ∃ vJ0, (fun _ w2 => Bk w2 gv 82 (wcells S n (IntKind.i64.wrap (v + vt)))) vJ0 w6 := hall 10 (by decide)
    simp only [putsOf, List.foldl_cons, List.foldl_nil, Act.put, List.setIfInBounds_toArray, List.set_cons_zero, List.set_cons_succ]
    clear hval hall
    have hw6 : Bk w6 gv 82 (wcells S n (IntKind.i64.wrap (v + vt))) := pJ
    have ht6 := HtE.out.keep hS fun x t cs hin hk _ => fun e => by
      have e' : x = gv := e
      subst e'
      rw [(bk_inj hk Hw2.out).1] at hin
      exact absurd hin (by decide)
    have hk6 : Keep (fun x => F x ∨ x = gv) w w6 := (HkW.out.mono fun x _ f => .inl f).trans (hS.mono fun x _ e => .inr e)
    have Hw6 := Lib.hid hw6
    have Ht6 := Lib.hid ht6
    have Hk6 := Lib.hid hk6
    clear pJ hw6 ht6 hk6 hS
    go_wp2_with fail
    go_end0
    exact ⟨rfl, Ht6.out, Hk6.out, _, Hw6.out⟩
set_option maxRecDepth 100000 in
set_option maxHeartbeats 1000000 in
theorem LookD_any (gv gt gk gn : Nat) (S : Nat → Value) (n v lv p : Int) (x : Value) (F : Nat → Prop) (bs : List Bool) (k : Nat) (w : World) (hw : Bk w gv 82 (wcells S n v)) (ht : TreeE w F gt bs) (hFv : ¬ F gv) (hFn : ¬ F gn) (hFs : ∀ x, F x → x < w.heap.size) (hk : Bk w gk 3 #[.int .i64 (k : Int)]) (hn : Bk w gn 4 #[x]) (hgn : ∀ y, F y → y ≠ gn) (hkl : k < bs.length) :
    Calls Tryz.prog 54 #[.pointer (some ⟨gv, 0, none⟩), .agg #[.pointer (some ⟨gt, 0, none⟩), .int .i64 lv, .int .i64 p], .func (.func 131) #[] #[.pointer (some ⟨gk, 0, none⟩), .pointer (some ⟨gn, 0, none⟩)]] w fun e w' => e = .returned (.tuple #[]) ∧
      TreeE w' (Gw F w.heap.size) gt (delN bs k) ∧ Keep (fun x => F x ∨ x = gv ∨ x = gn) w w' ∧ Bk w' gn 4 #[.bool (bs.getD k false)] ∧ ∃ v', Bk w' gv 82 (wcells S n v') := by
  obtain ⟨bb, hbb⟩ : ∃ b, bs.getD k false = b := ⟨_, rfl⟩
  rw [hbb]
  have Hbb := Lib.hid hbb
  clear hbb
  obtain ⟨o, ho⟩ : ∃ o, Obj.cells #[.pointer (some ⟨gt, 0, none⟩), .int .i64 lv, .int .i64 p] 85 = o := ⟨_, rfl⟩
  have hal := (Below.refl w.heap.size w).alloc (Nat.le_refl _) o
  have hs1 := Bk.new w 85 #[.pointer (some ⟨gt, 0, none⟩), .int .i64 lv, .int .i64 p]
  rw [ho] at hs1
  have l4 := hw.lt
  have l5 := hn.lt
  have n1 := Bk.ne hn hw (by decide)
  have Ht := Lib.hid ht
  have Hk := Lib.hid hk
  have Hn := Lib.hid hn
  have Hw := Lib.hid hw
  have HA := Lib.hid hal
  have Hs := Lib.hid hs1
  have Ho := Lib.hid ho
  have HFs := Lib.hid hFs
  have Hkl := Lib.hid hkl
  clear ht hk hn hw hal hs1 ho hFs hkl
  go_enter Tryz.func54, Tryz.ntmps54
  go_wp2_with fail
  rw [Ho.out]
  refine (DeleteC_any gt gk gn lv p x F bs k _ (Ht.out.below HA.out) (Hk.out.alloc _) (Hn.out.alloc _) hFn Hkl.out).mono ?_
  rintro e w2 ⟨rfl, w1, ht2, hk2, hn1, rfl⟩
  rw [Hbb.out]
  have hw1 := hk2.bk (Hw.out.alloc o) hFv
  have hw2 := hw1.far (p := ⟨gn, 0, none⟩) (fun h => n1 h.symm) (.bool bb)
  have hs2 := (hk2.bk Hs.out (fun f => by have := HFs.out _ f; omega)).far (p := ⟨gn, 0, none⟩) (fun h => absurd (show w.heap.size = gn from h) (by omega)) (.bool bb)
  have hn2 := hn1.set 0 (.bool bb)
  have hkW : Keep (fun y => F y ∨ y = gn) w (w1.setCell ⟨gn, 0, none⟩ (.bool bb)) := Keep.setCell (F := fun y => F y ∨ y = gn) (((Keep.of_below HA.out).trans hk2).mono fun y _ f => .inl f) (p := ⟨gn, 0, none⟩) (.inl (.inr rfl)) _
  have htE1 : TreeE w1 (Gw F w.heap.size) gt (delN bs k) := ht2.mono fun x _ f => by
    rcases f with f | f
    · exact .inl f
    · simp at f
      exact .inr (by omega)
  have htE : TreeE (w1.setCell ⟨gn, 0, none⟩ (.bool bb)) (Gw F w.heap.size) gt (delN bs k) := htE1.keep (G := fun y => y = gn) (Keep.setCell (F := fun y => y = gn) (Keep.refl _ _) (p := ⟨gn, 0, none⟩) (.inl rfl) _) fun y t cs _ hk f => fun e => by
    rcases f with f | f
    · exact hgn y f e
    · have e' : y = gn := e
      omega
  obtain ⟨W, hW⟩ : ∃ W, w1.setCell ⟨gn, 0, none⟩ (.bool bb) = W := ⟨_, rfl⟩
  rw [hW] at hw2 hs2 hn2 hkW htE ⊢
  obtain ⟨vt, hvt⟩ := htE.at.visits
  have htlt := htE.at.lt
  have hslt := hs2.lt
  have hgs := Bk.ne hw2 hs2 (by decide)
  have hgvt := tree_ne_wave htE.at hw2
  have Hw2 := Lib.hid hw2
  have Hs2 := Lib.hid hs2
  have Hn2 := Lib.hid hn2
  have HkW := Lib.hid hkW
  have HtE := Lib.hid htE
  have Hvt := Lib.hid hvt
  clear hw2 hs2 hn2 hkW htE hvt ht2 hk2 HA Ht Hk Hn Hw Hs hW htE1 hw1 hn1
  go_wp2_with fail
  refine wp_region_any (by kernel_rfl) ?_
  refine wpAny_keep [9, 10, 11, 12, 13, 14, 15, 16, 17, 18] (fun b => b = gv) 10 [3, 10] (fun w2 => Bk w2 gv 82 (wcells S n v)) (fun _ w2 => Bk w2 gv 82 (wcells S n (IntKind.i64.wrap (v + vt)))) [is (.pointer (some ⟨gv, 0, none⟩)), is (.pointer (some ⟨gv, 0, none⟩)), is (.pointer (some ⟨gv, 10, none⟩)), is (.int .i64 v), is (.pointer (some ⟨w.heap.size, 0, none⟩)), is (.pointer (some ⟨gt, 0, none⟩)), is (.int .i64 vt), is (.int .i64 (IntKind.i64.wrap (v + vt))), is (.pointer (some ⟨gv, 0, none⟩)), is (.pointer (some ⟨gv, 10, none⟩)), anyV] _ _ rfl (by kernel_rfl) (by kernel_rfl) (Hw2.out) (fun w2 w3 h _ hg => Bk.below h hg h.lt) (fun _ _ _ h k => Bk.below h k h.lt) (by repeat' (first | exact stbk_is _ _ | exact stbk_any _ | (refine List.forall_mem_cons.2 ⟨?_, ?_⟩) | (intro p hp; cases hp))) ?_ ?_
  · refine steps_of ?_
    refine steps_cons ?_ ?_
    · refine step_on3 rfl rfl ?_
      intro ev w5 hS hU hc hf hold hval a K ha hK
      replace hS : Keep (fun b => b = gv) W w5 := ⟨hS.os, hS.tape, hS.output, hS.size, hS.block⟩
      clear hU
      have e0 : ev (.tmp 0) = .pointer (some ⟨gv, 0, none⟩) := hold 0 (by kernel_rfl)
      go_simp
      exact hK _ _ (kstep_grow (Below.refl _ _)) rfl
    refine steps_cons ?_ ?_
    · refine step_on3 rfl rfl ?_
      intro ev w5 hS hU hc hf hold hval a K ha hK
      replace hS : Keep (fun b => b = gv) W w5 := ⟨hS.os, hS.tape, hS.output, hS.size, hS.block⟩
      clear hU
      have e9 : ev (.tmp 9) = .pointer (some ⟨gv, 0, none⟩) := hval 0 9 (by kernel_rfl) rfl
      go_simp
      exact hK _ _ (kstep_grow (Below.refl _ _)) rfl
    refine steps_cons ?_ ?_
    · refine step_on3 rfl rfl ?_
      intro ev w5 hS hU hc hf hold hval a K ha hK
      replace hS : Keep (fun b => b = gv) W w5 := ⟨hS.os, hS.tape, hS.output, hS.size, hS.block⟩
      clear hU
      have e10 : ev (.tmp 10) = .pointer (some ⟨gv, 0, none⟩) := hval 1 10 (by kernel_rfl) rfl
      go_simp
      exact hK _ _ (kstep_grow (Below.refl _ _)) rfl
    refine steps_cons ?_ ?_
    · refine step_on3 rfl rfl ?_
      intro ev w5 hS hU hc hf hold hval a K ha hK
      replace hS : Keep (fun b => b = gv) W w5 := ⟨hS.os, hS.tape, hS.output, hS.size, hS.block⟩
      have hpre := hU rfl
      clear hU
      have e11 : ev (.tmp 11) = .pointer (some ⟨gv, 10, none⟩) := hval 2 11 (by kernel_rfl) rfl
      have c12 : w5.cell? ⟨gv, 10, none⟩ = some (.int .i64 v) := (hpre.cell 10).trans (wcells_get _ _ _).2.2.2.2.2.2.2.2.2.2
      go_simp
      exact hK _ _ (kstep_grow (Below.refl _ _)) rfl
    refine steps_cons ?_ ?_
    · refine step_on3 rfl rfl ?_
      intro ev w5 hS hU hc hf hold hval a K ha hK
      replace hS : Keep (fun b => b = gv) W w5 := ⟨hS.os, hS.tape, hS.output, hS.size, hS.block⟩
      clear hU
      have e4 : ev (.tmp 4) = .pointer (some ⟨w.heap.size, 0, none⟩) := hold 4 (by kernel_rfl)
      go_simp
      exact hK _ _ (kstep_grow (Below.refl _ _)) rfl
    refine steps_cons ?_ ?_
    · refine step_on3 rfl rfl ?_
      intro ev w5 hS hU hc hf hold hval a K ha hK
      replace hS : Keep (fun b => b = gv) W w5 := ⟨hS.os, hS.tape, hS.output, hS.size, hS.block⟩
      clear hU
      have e13 : ev (.tmp 13) = .pointer (some ⟨w.heap.size, 0, none⟩) := hval 4 13 (by kernel_rfl) rfl
      have c14 : w5.cell? ⟨w.heap.size, 0, none⟩ = some (.pointer (some ⟨gt, 0, none⟩)) := ((hS.bk Hs2.out (fun h => hgs (show w.heap.size = gv from h).symm)).cell 0).trans rfl
      go_simp
      exact hK _ _ (kstep_grow (Below.refl _ _)) rfl
    refine steps_cons ?_ ?_
    · refine step_on3 rfl rfl ?_
      intro ev w5 hS hU hc hf hold hval a K ha hK
      replace hS : Keep (fun b => b = gv) W w5 := ⟨hS.os, hS.tape, hS.output, hS.size, hS.block⟩
      clear hU
      have e14 : ev (.tmp 14) = .pointer (some ⟨gt, 0, none⟩) := hval 5 14 (by kernel_rfl) rfl
      go_simp
      refine (TreeVisits_any gt vt w5 ((hS.cell htlt hgvt).trans Hvt.out)).mono ?_
      rintro e w8 ⟨rfl, hb8⟩
      exact hK _ _ (kstep_grow hb8) rfl
    refine steps_cons ?_ ?_
    · refine step_on3 rfl rfl ?_
      intro ev w5 hS hU hc hf hold hval a K ha hK
      replace hS : Keep (fun b => b = gv) W w5 := ⟨hS.os, hS.tape, hS.output, hS.size, hS.block⟩
      clear hU
      have e12 : ev (.tmp 12) = .int .i64 v := hval 3 12 (by kernel_rfl) rfl
      have e15 : ev (.tmp 15) = .int .i64 vt := hval 6 15 (by kernel_rfl) rfl
      go_simp
      exact hK _ _ (kstep_grow (Below.refl _ _)) rfl
    refine steps_cons ?_ ?_
    · refine step_on3 rfl rfl ?_
      intro ev w5 hS hU hc hf hold hval a K ha hK
      replace hS : Keep (fun b => b = gv) W w5 := ⟨hS.os, hS.tape, hS.output, hS.size, hS.block⟩
      clear hU
      have e9 : ev (.tmp 9) = .pointer (some ⟨gv, 0, none⟩) := hval 0 9 (by kernel_rfl) rfl
      go_simp
      exact hK _ _ (kstep_grow (Below.refl _ _)) rfl
    refine steps_cons ?_ ?_
    · refine step_on3 rfl rfl ?_
      intro ev w5 hS hU hc hf hold hval a K ha hK
      replace hS : Keep (fun b => b = gv) W w5 := ⟨hS.os, hS.tape, hS.output, hS.size, hS.block⟩
      clear hU
      have e17 : ev (.tmp 17) = .pointer (some ⟨gv, 0, none⟩) := hval 8 17 (by kernel_rfl) rfl
      go_simp
      exact hK _ _ (kstep_grow (Below.refl _ _)) rfl
    refine steps_cons ?_ ?_
    · refine step_on3 rfl rfl ?_
      intro ev w5 hS hU hc hf hold hval a K ha hK
      replace hS : Keep (fun b => b = gv) W w5 := ⟨hS.os, hS.tape, hS.output, hS.size, hS.block⟩
      have hpre := hU rfl
      clear hU
      have e18 : ev (.tmp 18) = .pointer (some ⟨gv, 10, none⟩) := hval 9 18 (by kernel_rfl) rfl
      have e16 : ev (.tmp 16) = .int .i64 (IntKind.i64.wrap (v + vt)) := hval 7 16 (by kernel_rfl) rfl
      have c12 : w5.cell? ⟨gv, 10, none⟩ = some (.int .i64 v) := (hpre.cell 10).trans (wcells_get _ _ _).2.2.2.2.2.2.2.2.2.2
      have f12 := hpre.frozen 10
      go_simp
      refine hK (.bool true) _ (kstep_keep (Keep.setCell (F := fun b => b = gv) (Keep.refl _ _) (p := ⟨gv, 10, none⟩) (.inl rfl) _)) ?_
      have h9 := hpre.set 10 (.int .i64 (IntKind.i64.wrap (v + vt)))
      rw [wcells_visits] at h9
      exact h9
    exact steps_nil
  · intro ev w6 hS hval hall
    replace hS : Keep (fun b => b = gv) W w6 := ⟨hS.os, hS.tape, hS.output, hS.size, hS.block⟩
    obtain ⟨vJ, pJ⟩ : ∃ vJ0, (fun _ w2 => Bk w2 gv 82 (wcells S n (IntKind.i64.wrap (v + vt)))) vJ0 w6 := hall 10 (by decide)
    simp only [putsOf, List.foldl_cons, List.foldl_nil, Act.put, List.setIfInBounds_toArray, List.set_cons_zero, List.set_cons_succ]
    clear hval hall
    have hw6 : Bk w6 gv 82 (wcells S n (IntKind.i64.wrap (v + vt))) := pJ
    have ht6 := HtE.out.keep hS fun x t cs hin hk _ => fun e => by
      have e' : x = gv := e
      subst e'
      rw [(bk_inj hk Hw2.out).1] at hin
      exact absurd hin (by decide)
    have hn6 := hS.bk Hn2.out n1
    have hk6 : Keep (fun x => F x ∨ x = gv ∨ x = gn) w w6 := (HkW.out.mono (G := fun x => F x ∨ x = gv ∨ x = gn) fun x _ f => by
      rcases f with f | f
      · exact .inl f
      · exact .inr (.inr f)).trans (hS.mono fun x _ e => .inr (.inl e))
    have Hw6 := Lib.hid hw6
    have Ht6 := Lib.hid ht6
    have Hn6 := Lib.hid hn6
    have Hk6 := Lib.hid hk6
    clear pJ hw6 ht6 hk6 hS hn6
    go_wp2_with fail
    go_end0
    exact ⟨rfl, Ht6.out, Hk6.out, Hn6.out, _, Hw6.out⟩
end Go.Proofs.YthkkcelfgcholaaGreat
namespace Go.Proofs.YthkkcelfgcholaaGreat
open Go.RowKit
set_option linter.unusedVariables false
set_option linter.unusedSimpArgs false
theorem bitsOf_append (L M : List Nat) (lv p : Nat) : bitsOf (L ++ M) lv p = bitsOf L lv p ++ bitsOf M lv p := by
  unfold bitsOf
  rw [List.filter_append, List.map_append]
theorem bitsOf_cons (x : Nat) (M : List Nat) (lv p : Nat) : bitsOf (x :: M) lv p = if pathN x lv = p then bitB x lv :: bitsOf M lv p else bitsOf M lv p := by
  unfold bitsOf
  rw [List.filter_cons]
  by_cases h : pathN x lv = p
  · simp [h]
  · simp [h]
theorem bitsOf_split (L : List Nat) (k lv p : Nat) : bitsOf L lv p = bitsOf (L.take k) lv p ++ bitsOf (L.drop k) lv p := by
  rw [← bitsOf_append, List.take_append_drop]
theorem atLv_tlen (L : List Nat) (k s lv : Nat) : (bitsOf (L.take k) lv (pathN s lv)).length = atLv L k s lv := by
  rw [bits_len]
  rfl
/-- A symbol is let in. -/
theorem bitsOf_ins (L : List Nat) (k s lv : Nat) : bitsOf (insN L k s) lv (pathN s lv) = insN (bitsOf L lv (pathN s lv)) (atLv L k s lv) (bitB s lv) := by
  have hl := atLv_tlen L k s lv
  unfold insN
  rw [bitsOf_append, bitsOf_cons, if_pos rfl]
  conv => rhs; rw [bitsOf_split L k lv (pathN s lv)]
  rw [← hl, List.take_left, List.drop_left]
theorem bitsOf_ins_ne (L : List Nat) (k s lv p : Nat) (h : pathN s lv ≠ p) : bitsOf (insN L k s) lv p = bitsOf L lv p := by
  unfold insN
  rw [bitsOf_append, bitsOf_cons, if_neg h, ← bitsOf_split]
theorem cut_at {L : List Nat} {k s : Nat} (h : L[k]? = some s) : L = L.take k ++ s :: L.drop (k + 1) := by
  obtain ⟨hk, hx⟩ := List.getElem?_eq_some_iff.1 h
  rw [← hx, ← List.drop_eq_getElem_cons hk, List.take_append_drop]
/-- A symbol is let out. -/
theorem bitsOf_del {L : List Nat} {k s : Nat} (lv : Nat) (h : L[k]? = some s) : bitsOf (delN L k) lv (pathN s lv) = delN (bitsOf L lv (pathN s lv)) (atLv L k s lv) := by
  have hl := atLv_tlen L k s lv
  have e : bitsOf L lv (pathN s lv) = bitsOf (L.take k) lv (pathN s lv) ++ bitB s lv :: bitsOf (L.drop (k + 1)) lv (pathN s lv) := by
    conv => lhs; rw [cut_at h]
    rw [bitsOf_append, bitsOf_cons, if_pos rfl]
  unfold delN
  rw [bitsOf_append, e]
  generalize bitsOf (L.take k) lv (pathN s lv) = A at hl ⊢
  generalize bitsOf (L.drop (k + 1)) lv (pathN s lv) = C
  rw [← hl, List.take_left, List.drop_append, List.drop_eq_nil_of_le (by omega), show A.length + 1 - A.length = 1 by omega]
  rfl
theorem bitsOf_del_ne {L : List Nat} {k s : Nat} (lv p : Nat) (h : L[k]? = some s) (hp : pathN s lv ≠ p) : bitsOf (delN L k) lv p = bitsOf L lv p := by
  conv => rhs; rw [cut_at h]
  unfold delN
  rw [bitsOf_append, bitsOf_append, bitsOf_cons, if_neg hp]
theorem take_insN {α : Type} (l : List α) (k : Nat) (x : α) (h : k ≤ l.length) : (insN l k x).take k = l.take k := by
  unfold insN
  have hl : (l.take k).length = k := by rw [List.length_take]; omega
  rw [List.take_append, hl, Nat.sub_self, List.take_zero, List.append_nil, List.take_take, Nat.min_self]
theorem insN_lt {L : List Nat} {k s M : Nat} (h : ∀ x ∈ L, x < M) (hs : s < M) : ∀ x ∈ insN L k s, x < M := fun x hx => by
  rcases List.mem_cons.1 ((insN_perm L k s).mem_iff.1 hx) with rfl | h1
  · exact hs
  · exact h x h1
theorem delN_lt {L : List Nat} {k M : Nat} (h : ∀ x ∈ L, x < M) : ∀ x ∈ delN L k, x < M := fun x hx => by
  unfold delN at hx
  rcases List.mem_append.1 hx with h1 | h1
  · exact h x (List.mem_of_mem_take h1)
  · exact h x (List.mem_of_mem_drop h1)
/-- The colour of a tree's blocks. -/
def TC (lv p : Nat) : Nat := 16 + 512 * lv + p
theorem TC_inj {lv p lv' p' : Nat} (hp : p < 512) (hp' : p' < 512) (h : TC lv p = TC lv' p') : lv = lv' ∧ p = p' := by
  unfold TC at h
  omega
theorem pow9 {lv p : Nat} (h : lv < 9) (hp : p < 2 ^ lv) : p < 512 := by
  have : 2 ^ lv ≤ 2 ^ 9 := Nat.pow_le_pow_right (by decide) (by omega)
  have e : (2 : Nat) ^ 9 = 512 := by decide
  omega
/-- The blocks from n to m have the colour c from now on. -/
def recol (own : Nat → Nat) (n m c b : Nat) : Nat := if b < n then own b else if b < m then c else 0
/-- A wave whose level lv is of the symbols Ls lv, and whose trees' blocks have their colours. -/
structure WaveS (w : World) (B : Nat) (own : Nat → Nat) (gv : Nat) (S : Nat → Value) (Ls : Nat → List Nat) (n v : Int) : Prop where
  blk : Bk w gv 82 (wcells S n v)
  base : B ≤ gv ∧ own gv = 2
  rows : ∀ lv, lv < 9 → ∃ G : Nat → Nat, w.ownsRow B 85 3 (S lv) (2 ^ lv) (shelfL G lv (2 ^ lv)) ∧ (∀ b, (S lv).ownBlock = some b → own b = 2) ∧ ∀ p, p < 2 ^ lv → TreeE w (fun b => own b = TC lv p) (G p) (bitsOf (Ls lv) lv p)
  bnd : ∀ b, own b ≠ 0 → B ≤ b ∧ b < w.heap.size
/-- A wave of the symbols L that owns its trees' blocks. -/
def WaveE (w : World) (B : Nat) (own : Nat → Nat) (gv : Nat) (L : List Nat) : Prop := ∃ S v, WaveS w B own gv S (fun _ => L) (L.length : Int) v
theorem WaveS.vis {w w' : World} {B : Nat} {own : Nat → Nat} {gv : Nat} {S : Nat → Value} {Ls : Nat → List Nat} {n v : Int} (h : WaveS w B own gv S Ls n v) (k : Vis w w') : ∃ v', WaveS w' B own gv S Ls n v' := by
  obtain ⟨v', h1⟩ := k.waveC h.blk
  refine ⟨v', h1, h.base, fun lv hl => ?_, fun b hb => ⟨(h.bnd b hb).1, Nat.lt_of_lt_of_le (h.bnd b hb).2 k.size⟩⟩
  obtain ⟨G, g1, g2, g3⟩ := h.rows lv hl
  exact ⟨G, k.own g1 (by decide) (by decide), g2, fun p hp => (g3 p hp).vis k⟩
theorem WaveE.vis {w w' : World} {B : Nat} {own : Nat → Nat} {gv : Nat} {L : List Nat} (h : WaveE w B own gv L) (k : Vis w w') : WaveE w' B own gv L := by
  obtain ⟨S, v, h⟩ := h
  obtain ⟨v', h'⟩ := h.vis k
  exact ⟨S, v', h'⟩
theorem WaveE.at {w : World} {B : Nat} {own : Nat → Nat} {gv : Nat} {L : List Nat} (h : WaveE w B own gv L) : WaveAt w B gv L := by
  obtain ⟨S, v, h⟩ := h
  refine ⟨h.base.1, S, v, h.blk, fun lv hl => ?_⟩
  obtain ⟨G, g1, g2, g3⟩ := h.rows lv hl
  refine ⟨G, g1, fun p hp => ⟨?_, (g3 p hp).at⟩⟩
  have h0 := (g3 p hp).1
  exact (h.bnd (G p) (by rw [h0]; unfold TC; omega)).1
/-- Behind an edit of one tree. -/
theorem WaveS.edit {w w' : World} {B : Nat} {own : Nat → Nat} {gv : Nat} {S : Nat → Value} {Ls : Nat → List Nat} {n v v' : Int} (h : WaveS w B own gv S Ls n v) {lv p gx : Nat} (hlv : lv < 9) (hp : p < 2 ^ lv) {G : Nat → Nat} (hG : w.ownsRow B 85 3 (S lv) (2 ^ lv) (shelfL G lv (2 ^ lv)))
    (hgx : own gx < 16) (hgx2 : ∀ cs, ¬ Bk w gx 85 cs) {bs' : List Bool} (ht : TreeE w' (Gw (fun b => own b = TC lv p) w.heap.size) (G p) bs') (hk : Keep (fun x => own x = TC lv p ∨ x = gv ∨ x = gx) w w') (hb : Bk w' gv 82 (wcells S n v'))
    {L' : List Nat} (hL : bitsOf L' lv p = bs') (hL2 : ∀ q, q ≠ p → bitsOf L' lv q = bitsOf (Ls lv) lv q) :
    WaveS w' B (recol own w.heap.size w'.heap.size (TC lv p)) gv S (fun l => if l = lv then L' else Ls l) n v' := by
  have hB : B ≤ w.heap.size := Nat.le_trans h.base.1 (Nat.le_of_lt h.blk.lt)
  have hold : ∀ b, b < w.heap.size → recol own w.heap.size w'.heap.size (TC lv p) b = own b := fun b hb => by unfold recol; rw [if_pos hb]
  refine ⟨hb, ⟨h.base.1, by rw [hold _ h.blk.lt]; exact h.base.2⟩, fun l hl => ?_, fun b hb' => ?_⟩
  · obtain ⟨G', g1, g2, g3⟩ := h.rows l hl
    refine ⟨G', own_same g1 fun b cs hbo hk' => hk.bk hk' fun f => ?_, fun b hbo => ?_, fun q hq => ?_⟩
    · rcases f with f | f | f
      · rw [g2 b hbo] at f
        unfold TC at f
        omega
      · subst f
        exact absurd (bk_inj hk' h.blk).1 (by decide)
      · subst f
        exact hgx2 cs hk'
    · rw [hold _ (g1.lt b hbo).2]
      exact g2 b hbo
    · have hkeep : (l ≠ lv ∨ q ≠ p) → TreeE w' (fun b => recol own w.heap.size w'.heap.size (TC lv p) b = TC l q) (G' q) (bitsOf (Ls l) l q) := fun hne => by
        have ht' := (g3 q hq).keep hk fun b t cs hin hk' hf f => by
          rcases f with f | f | f
          · rw [hf] at f
            obtain ⟨e1, e2⟩ := TC_inj (pow9 hl hq) (pow9 hlv hp) f
            rcases hne with h1 | h1
            · exact h1 e1
            · exact h1 e2
          · subst f
            rw [(bk_inj hk' h.blk).1] at hin
            exact absurd hin (by decide)
          · subst f
            rw [hf] at hgx
            unfold TC at hgx
            omega
        have hmin : TreeE w (fun b => own b = TC l q) (G' q) (bitsOf (Ls l) l q) := g3 q hq
        refine ht'.mono fun b hb' hf => ?_
        have hlt : b < w.heap.size := (h.bnd b (by rw [hf]; unfold TC; omega)).2
        rw [hold b hlt]
        exact hf
      by_cases e1 : l = lv
      · subst e1
        rw [if_pos rfl]
        by_cases e2 : q = p
        · subst e2
          rw [hL]
          have hGG : G' q = G q := by
            have h1 := g1.1
            have e1 := (shelfL_get G' l (2 ^ l) q hq).1
            have e2 := (shelfL_get G l (2 ^ l) q hq).1
            have e3 : shelfL G' l (2 ^ l) = shelfL G l (2 ^ l) := by
              rcases g1.2 with ⟨a1, a2⟩ | ⟨g, cap, cur, a1, a2, a3, a4, a5, a6, a7⟩
              · have := Nat.two_pow_pos l
                omega
              · rcases hG.2 with ⟨c1, c2⟩ | ⟨g', cap', cur', c1, c2, c3, c4, c5, c6, c7⟩
                · have := Nat.two_pow_pos l
                  omega
                · rw [a1] at c1
                  injection c1 with c1 _ _
                  injection c1 with c1
                  injection c1 with c1 _
                  subst c1
                  obtain ⟨_, rfl⟩ := bk_inj a3 c3
                  rw [← a7, ← c7]
            rw [e3, e2] at e1
            injection e1 with e1
            injection e1 with e1
            injection e1 with e1
            injection e1 with e1 _
            exact e1.symm
          rw [hGG]
          refine ht.mono fun b hb' hf => ?_
          rcases hf with hf | hf
          · rw [hold b (h.bnd b (by rw [hf]; unfold TC; omega)).2]
            exact hf
          · unfold recol
            rw [if_neg (by omega), if_pos hb']
        · rw [hL2 q e2]
          exact hkeep (.inr e2)
      · rw [if_neg e1]
        exact hkeep (.inl e1)
  · unfold recol at hb'
    by_cases c : b < w.heap.size
    · rw [if_pos c] at hb'
      exact ⟨(h.bnd b hb').1, Nat.lt_of_lt_of_le c hk.size⟩
    · rw [if_neg c] at hb'
      by_cases c2 : b < w'.heap.size
      · exact ⟨by omega, c2⟩
      · rw [if_neg c2] at hb'
        exact absurd rfl hb'
theorem wcells_n (S : Nat → Value) (n m v : Int) : (wcells S n v).setIfInBounds 9 (.int .i64 m) = wcells S m v := by
  unfold wcells
  rfl
/-- How many symbols there are is set. -/
theorem WaveS.set_n {w : World} {B : Nat} {own : Nat → Nat} {gv : Nat} {S : Nat → Value} {Ls : Nat → List Nat} {n v : Int} (h : WaveS w B own gv S Ls n v) (m : Int) : WaveS (w.setCell ⟨gv, 9, none⟩ (.int .i64 m)) B own gv S Ls m v := by
  have hk : Keep (fun b => b = gv) w (w.setCell ⟨gv, 9, none⟩ (.int .i64 m)) := Keep.setCell (F := fun b => b = gv) (Keep.refl _ _) (p := ⟨gv, 9, none⟩) (.inl rfl) _
  refine ⟨by have := h.blk.set 9 (.int .i64 m); rw [wcells_n] at this; exact this, h.base, fun lv hl => ?_, fun b hb => ⟨(h.bnd b hb).1, Nat.lt_of_lt_of_le (h.bnd b hb).2 hk.size⟩⟩
  obtain ⟨G, g1, g2, g3⟩ := h.rows lv hl
  exact ⟨G, own_same g1 fun b cs _ hk' => hk.bk hk' (Bk.ne hk' h.blk (by decide)), g2, fun p hp => (g3 p hp).keep hk fun b t cs hin hk' _ e => by
    have e' : b = gv := e
    subst e'
    rw [(bk_inj hk' h.blk).1] at hin
    exact absurd hin (by decide)⟩
/-- Blocks that are none of the wave's may be written. -/
theorem WaveS.far {w w' : World} {B : Nat} {own : Nat → Nat} {gv : Nat} {S : Nat → Value} {Ls : Nat → List Nat} {n v : Int} (h : WaveS w B own gv S Ls n v) {H : Nat → Prop} (k : Keep H w w') (hH : ∀ b, H b → own b ≠ 2 ∧ own b < 16) : WaveS w' B own gv S Ls n v := by
  refine ⟨k.bk h.blk (fun f => by have := hH _ f; have := h.base.2; omega), h.base, fun lv hl => ?_, fun b hb => ⟨(h.bnd b hb).1, Nat.lt_of_lt_of_le (h.bnd b hb).2 k.size⟩⟩
  obtain ⟨G, g1, g2, g3⟩ := h.rows lv hl
  exact ⟨G, own_same g1 fun b cs hbo hk' => k.bk hk' (fun f => by have := hH _ f; have := g2 b hbo; omega), g2, fun p hp => (g3 p hp).keep k fun b t cs hin hk' hf f => by
    have := hH b f
    rw [hf] at this
    unfold TC at this
    omega⟩
theorem WaveE.far {w w' : World} {B : Nat} {own : Nat → Nat} {gv : Nat} {L : List Nat} (h : WaveE w B own gv L) {H : Nat → Prop} (k : Keep H w w') (hH : ∀ b, H b → own b ≠ 2 ∧ own b < 16) : WaveE w' B own gv L := by
  obtain ⟨S, v, h⟩ := h
  exact ⟨S, v, h.far k hH⟩
/-- Other colours below 2 may be given. -/
theorem WaveS.paint {w : World} {B : Nat} {own own' : Nat → Nat} {gv : Nat} {S : Nat → Value} {Ls : Nat → List Nat} {n v : Int} (h : WaveS w B own gv S Ls n v) (h1 : ∀ b, b < w.heap.size → 2 ≤ own b → own' b = own b) (h2 : ∀ b, own' b ≠ 0 → B ≤ b ∧ b < w.heap.size) : WaveS w B own' gv S Ls n v := by
  refine ⟨h.blk, ⟨h.base.1, by rw [h1 gv h.blk.lt (by rw [h.base.2]; omega)]; exact h.base.2⟩, fun lv hl => ?_, h2⟩
  obtain ⟨G, g1, g2, g3⟩ := h.rows lv hl
  refine ⟨G, g1, fun b hbo => ?_, fun p hp => (g3 p hp).mono fun b hb hf => ?_⟩
  · rw [h1 b (g1.lt b hbo).2 (by rw [g2 b hbo]; omega)]
    exact g2 b hbo
  · rw [h1 b hb (by rw [hf]; unfold TC; omega)]
    exact hf
theorem WaveE.paint {w : World} {B : Nat} {own own' : Nat → Nat} {gv : Nat} {L : List Nat} (h : WaveE w B own gv L) (h1 : ∀ b, b < w.heap.size → 2 ≤ own b → own' b = own b) (h2 : ∀ b, own' b ≠ 0 → B ≤ b ∧ b < w.heap.size) : WaveE w B own' gv L := by
  obtain ⟨S, v, h⟩ := h
  exact ⟨S, v, h.paint h1 h2⟩
end Go.Proofs.YthkkcelfgcholaaGreat
