/- The walk of the tree's fix at a leaf that is the only node. Conditions: at most 128 bits. -/
import Derived.Test.YtdpknieiigibfaaFnArena
namespace Go.Proofs.Ytdpknieiigibfaa
open Go.RowKit
set_option linter.unusedVariables false
set_option linter.unusedSimpArgs false
/-- A leaf's eight cells. -/
def leafL (x y : Int) (gb : Nat) : List Value := [.int .i64 (-1), .int .i64 (-1), .int .i64 0, .int .i64 x, .int .i64 y, .int .i64 0, .int .i64 0, .pointer (some ⟨gb, 0, none⟩)]
/-- The row of nodes: a leaf alone. -/
def RowS (B gl cl gb : Nat) (x y : Int) (w : World) : Prop := w.ownsRow B 136 8 (.slice (some ⟨gl, 0, none⟩) 1 cl) 1 (leafL x y gb)
theorem RowS.grow {B gl cl gb : Nat} {x y : Int} {w w' : World} (h : RowS B gl cl gb x y w) (k : Below w.heap.size w w') : RowS B gl cl gb x y w' := own_below h k
theorem RowS.at3 {B gl cl gb : Nat} {x y : Int} {w : World} (h : RowS B gl cl gb x y w) (z : Int) : RowS B gl cl gb z y (w.setCell ⟨gl, 3, none⟩ (.int .i64 z)) := (World.ownsRow.stored h 3 (.int .i64 z)).1
theorem RowS.at4 {B gl cl gb : Nat} {x y : Int} {w : World} (h : RowS B gl cl gb x y w) (z : Int) : RowS B gl cl gb x z (w.setCell ⟨gl, 4, none⟩ (.int .i64 z)) := (World.ownsRow.stored h 4 (.int .i64 z)).1
theorem RowS.lt {B gl cl gb : Nat} {x y : Int} {w : World} (h : RowS B gl cl gb x y w) : B ≤ gl ∧ gl < w.heap.size := World.ownsRow.lt h gl rfl
theorem RowS.bk_ne {B gl cl gb g : Nat} {x y : Int} {w : World} {t : TypeId} {cs : Array Value} (h : RowS B gl cl gb x y w) (hg : Bk w g t cs) (hne : 136 ≠ t) : g ≠ gl := fun e => own_bk_ne h hg hne (by rw [e]; rfl)
def FixC (W0 : World) (B gl cl gb : Nat) (w1 : World) : Prop := Keep (fun b => b = gl) W0 w1 ∧ ∃ x y, RowS B gl cl gb x y w1
def FixS (B gl cl gb : Nat) (N O : Int) (j : Nat) (w1 w2 : World) : Prop :=
  (j = 14 → Keep (fun b => b = gl) w1 w2 ∧ ∀ x y, RowS B gl cl gb x y w1 → RowS B gl cl gb N y w2) ∧ (j = 17 → Keep (fun b => b = gl) w1 w2 ∧ ∀ x y, RowS B gl cl gb x y w1 → RowS B gl cl gb x O w2) ∧ (j ≠ 14 → j ≠ 17 → Grow w1 w2)
theorem fixs_grow {B gl cl gb : Nat} {N O : Int} {j : Nat} {w1 w2 : World} (h1 : j ≠ 14) (h2 : j ≠ 17) (h : Grow w1 w2) : FixS B gl cl gb N O j w1 w2 := ⟨fun e => absurd e h1, fun e => absurd e h2, fun _ _ => h⟩
theorem fixc_step {W0 w1 w2 : World} {B gl cl gb j : Nat} {N O : Int} (h : FixC W0 B gl cl gb w1) (k : FixS B gl cl gb N O j w1 w2) : FixC W0 B gl cl gb w2 := by
  obtain ⟨h1, x, y, h2⟩ := h
  by_cases h14 : j = 14
  · obtain ⟨k1, k2⟩ := k.1 h14
    exact ⟨h1.trans k1, _, _, k2 x y h2⟩
  · by_cases h17 : j = 17
    · obtain ⟨k1, k2⟩ := k.2.1 h17
      exact ⟨h1.trans k1, _, _, k2 x y h2⟩
    · have kg := k.2.2 h14 h17
      exact ⟨h1.trans (Keep.of_below kg), x, y, h2.grow kg⟩
def N3 (B gl cl gb : Nat) (N : Int) : Value → World → Prop := fun _ w1 => ∃ y, RowS B gl cl gb N y w1
def N4 (B gl cl gb : Nat) (O : Int) : Value → World → Prop := fun _ w1 => ∃ x, RowS B gl cl gb x O w1
set_option maxRecDepth 100000 in
set_option maxHeartbeats 4000000 in
theorem fix_leaf (gt ga gl cl gb B : Nat) (rt v : Int) (bs : List Bool) (w : World) (ht : Bk w gt 125 #[.pointer (some ⟨ga, 0, none⟩), .slice (some ⟨gl, 0, none⟩) 1 cl, .int .i64 rt, .int .i64 v]) (hr : RowS B gl cl gb 0 0 w) (hb : Bk w gb 145 (blkC bs)) (hl : bs.length ≤ 128) :
    Calls Try.prog 99 #[.pointer (some ⟨gt, 0, none⟩), .int .i64 0] w fun e w' => e = .returned (.tuple #[]) ∧ Keep (fun b => b = gl) w w' ∧ RowS B gl cl gb (bs.length : Int) ((bs.count true : Nat) : Int) w' := by
  obtain ⟨N, hN⟩ : ∃ N : Int, (bs.length : Int) = N := ⟨_, rfl⟩
  obtain ⟨O, hO⟩ : ∃ O : Int, ((bs.count true : Nat) : Int) = O := ⟨_, rfl⟩
  rw [hN, hO]
  have HN := Lib.hid hN
  have HO := Lib.hid hO
  have c1 : w.cell? ⟨gt, 1, none⟩ = some (.slice (some ⟨gl, 0, none⟩) 1 cl) := (ht.cell 1).trans rfl
  have c7 : w.cell? ⟨gl, 7, none⟩ = some (.pointer (some ⟨gb, 0, none⟩)) := (World.ownsRow.cellAt hr 7 (by omega)).trans rfl
  have hglt := hr.lt
  have hbne := hr.bk_ne hb (by decide)
  have Hb := Lib.hid hb
  have Hr := Lib.hid hr
  clear hN hO ht hb hr
  go_enter Try.func99, Try.ntmps99
  go_wp2
  refine wp_region_any (by kernel_rfl) ?_
  refine wpAny_loose8 [18, 19, 20, 21, 22, 23, 24, 25, 26, 27, 28, 29, 30, 31, 32, 33] (FixC w B gl cl gb) (FixS B gl cl gb N O) (fun _ _ => True) (Vs [is (.pointer (some ⟨gl, 0, none⟩)), is (.pointer (some ⟨gl, 0, none⟩)), is (.pointer (some ⟨gl, 0, none⟩)), is (.pointer (some ⟨gl, 0, none⟩)), is (.pointer (some ⟨gl, 7, none⟩)), is (.pointer (some ⟨gb, 0, none⟩)), is (.int .i64 N), is (.pointer (some ⟨gl, 0, none⟩)), is (.pointer (some ⟨gl, 0, none⟩)), is (.pointer (some ⟨gl, 7, none⟩)), is (.pointer (some ⟨gb, 0, none⟩)), is (.int .i64 O), is (.pointer (some ⟨gl, 0, none⟩)), is (.pointer (some ⟨gl, 3, none⟩)), N3 B gl cl gb N, is (.pointer (some ⟨gl, 0, none⟩)), is (.pointer (some ⟨gl, 4, none⟩)), N4 B gl cl gb O]) _ _ rfl (by kernel_rfl) ⟨⟨rfl, rfl, rfl, Nat.le_refl _, fun _ _ _ => rfl⟩, _, _, Hr.out⟩ (fun _ => trivial) (fun j w1 w2 h k => fixc_step h k) (fun _ _ _ _ _ _ _ _ _ => trivial) ?_ ?_ ?_
  · intro i j v w1 w2 hij haf hv hC k
    rcases i with _ | _ | _ | _ | _ | _ | _ | _ | _ | _ | _ | _ | _ | _ | _ | _ | _ | _ | i
    · exact hv
    · exact hv
    · exact hv
    · exact hv
    · exact hv
    · exact hv
    · exact hv
    · exact hv
    · exact hv
    · exact hv
    · exact hv
    · exact hv
    · exact hv
    · exact hv
    · obtain ⟨y, hv⟩ := hv
      by_cases h17 : j = 17
      · exact ⟨_, (k.2.1 h17).2 _ _ hv⟩
      · exact ⟨_, RowS.grow hv (k.2.2 (fun e => hij e.symm) h17)⟩
    · exact hv
    · exact hv
    · obtain ⟨x, hv⟩ := hv
      by_cases h14 : j = 14
      · exact ⟨_, (k.1 h14).2 _ _ hv⟩
      · exact ⟨_, RowS.grow hv (k.2.2 h14 (fun e => hij e.symm))⟩
    · exact trivial
  · refine steps_of ?_
    refine steps_cons ?_ ?_
    · refine step_on3 rfl rfl ?_
      intro ev w5 hS hU hc hf hold hval a K ha hK
      obtain ⟨hk5, x5, y5, hr5⟩ := hS
      have e4 : ev (.tmp 4) = .pointer (some ⟨gl, 0, none⟩) := hold 4 (by kernel_rfl)
      go_simp
      exact hK _ _ (fixs_grow (by decide) (by decide) (Below.refl _ _)) rfl
    refine steps_cons ?_ ?_
    · refine step_on3 rfl rfl ?_
      intro ev w5 hS hU hc hf hold hval a K ha hK
      obtain ⟨hk5, x5, y5, hr5⟩ := hS
      have e4 : ev (.tmp 4) = .pointer (some ⟨gl, 0, none⟩) := hold 4 (by kernel_rfl)
      go_simp
      exact hK _ _ (fixs_grow (by decide) (by decide) (Below.refl _ _)) rfl
    refine steps_cons ?_ ?_
    · refine step_on3 rfl rfl ?_
      intro ev w5 hS hU hc hf hold hval a K ha hK
      obtain ⟨hk5, x5, y5, hr5⟩ := hS
      have e4 : ev (.tmp 4) = .pointer (some ⟨gl, 0, none⟩) := hold 4 (by kernel_rfl)
      go_simp
      exact hK _ _ (fixs_grow (by decide) (by decide) (Below.refl _ _)) rfl
    refine steps_cons ?_ ?_
    · refine step_on3 rfl rfl ?_
      intro ev w5 hS hU hc hf hold hval a K ha hK
      obtain ⟨hk5, x5, y5, hr5⟩ := hS
      have e20 : ev (.tmp 20) = .pointer (some ⟨gl, 0, none⟩) := hval 2 20 (by kernel_rfl) rfl
      go_simp
      exact hK _ _ (fixs_grow (by decide) (by decide) (Below.refl _ _)) rfl
    refine steps_cons ?_ ?_
    · refine step_on3 rfl rfl ?_
      intro ev w5 hS hU hc hf hold hval a K ha hK
      obtain ⟨hk5, x5, y5, hr5⟩ := hS
      have e21 : ev (.tmp 21) = .pointer (some ⟨gl, 0, none⟩) := hval 3 21 (by kernel_rfl) rfl
      go_simp
      exact hK _ _ (fixs_grow (by decide) (by decide) (Below.refl _ _)) rfl
    refine steps_cons ?_ ?_
    · refine step_on3 rfl rfl ?_
      intro ev w5 hS hU hc hf hold hval a K ha hK
      obtain ⟨hk5, x5, y5, hr5⟩ := hS
      have e22 : ev (.tmp 22) = .pointer (some ⟨gl, 7, none⟩) := hval 4 22 (by kernel_rfl) rfl
      have d7 : w5.cell? ⟨gl, 7, none⟩ = some (.pointer (some ⟨gb, 0, none⟩)) := (World.ownsRow.cellAt hr5 7 (by omega)).trans rfl
      go_simp
      exact hK _ _ (fixs_grow (by decide) (by decide) (Below.refl _ _)) rfl
    refine steps_cons ?_ ?_
    · refine step_on3 rfl rfl ?_
      intro ev w5 hS hU hc hf hold hval a K ha hK
      obtain ⟨hk5, x5, y5, hr5⟩ := hS
      have e23 : ev (.tmp 23) = .pointer (some ⟨gb, 0, none⟩) := hval 5 23 (by kernel_rfl) rfl
      have hb5 := hk5.bk Hb.out (fun e => hbne e)
      go_simp
      refine (BlockLen_any gb bs w5 hb5).mono ?_
      rintro e w8 ⟨rfl, rfl⟩
      exact hK _ _ (fixs_grow (by decide) (by decide) (Below.refl _ _)) (i64_eq HN.out)
    refine steps_cons ?_ ?_
    · refine step_on3 rfl rfl ?_
      intro ev w5 hS hU hc hf hold hval a K ha hK
      obtain ⟨hk5, x5, y5, hr5⟩ := hS
      have e4 : ev (.tmp 4) = .pointer (some ⟨gl, 0, none⟩) := hold 4 (by kernel_rfl)
      go_simp
      exact hK _ _ (fixs_grow (by decide) (by decide) (Below.refl _ _)) rfl
    refine steps_cons ?_ ?_
    · refine step_on3 rfl rfl ?_
      intro ev w5 hS hU hc hf hold hval a K ha hK
      obtain ⟨hk5, x5, y5, hr5⟩ := hS
      have e25 : ev (.tmp 25) = .pointer (some ⟨gl, 0, none⟩) := hval 7 25 (by kernel_rfl) rfl
      go_simp
      exact hK _ _ (fixs_grow (by decide) (by decide) (Below.refl _ _)) rfl
    refine steps_cons ?_ ?_
    · refine step_on3 rfl rfl ?_
      intro ev w5 hS hU hc hf hold hval a K ha hK
      obtain ⟨hk5, x5, y5, hr5⟩ := hS
      have e26 : ev (.tmp 26) = .pointer (some ⟨gl, 0, none⟩) := hval 8 26 (by kernel_rfl) rfl
      go_simp
      exact hK _ _ (fixs_grow (by decide) (by decide) (Below.refl _ _)) rfl
    refine steps_cons ?_ ?_
    · refine step_on3 rfl rfl ?_
      intro ev w5 hS hU hc hf hold hval a K ha hK
      obtain ⟨hk5, x5, y5, hr5⟩ := hS
      have e27 : ev (.tmp 27) = .pointer (some ⟨gl, 7, none⟩) := hval 9 27 (by kernel_rfl) rfl
      have d7 : w5.cell? ⟨gl, 7, none⟩ = some (.pointer (some ⟨gb, 0, none⟩)) := (World.ownsRow.cellAt hr5 7 (by omega)).trans rfl
      go_simp
      exact hK _ _ (fixs_grow (by decide) (by decide) (Below.refl _ _)) rfl
    refine steps_cons ?_ ?_
    · refine step_on3 rfl rfl ?_
      intro ev w5 hS hU hc hf hold hval a K ha hK
      obtain ⟨hk5, x5, y5, hr5⟩ := hS
      have e28 : ev (.tmp 28) = .pointer (some ⟨gb, 0, none⟩) := hval 10 28 (by kernel_rfl) rfl
      have hb5 := hk5.bk Hb.out (fun e => hbne e)
      go_simp
      refine (BlockOnes_any gb bs w5 hb5 hl).mono ?_
      rintro e w8 ⟨rfl, rfl⟩
      exact hK _ _ (fixs_grow (by decide) (by decide) (Below.refl _ _)) (i64_eq HO.out)
    refine steps_cons ?_ ?_
    · refine step_on3 rfl rfl ?_
      intro ev w5 hS hU hc hf hold hval a K ha hK
      obtain ⟨hk5, x5, y5, hr5⟩ := hS
      have e18 : ev (.tmp 18) = .pointer (some ⟨gl, 0, none⟩) := hval 0 18 (by kernel_rfl) rfl
      go_simp
      exact hK _ _ (fixs_grow (by decide) (by decide) (Below.refl _ _)) rfl
    refine steps_cons ?_ ?_
    · refine step_on3 rfl rfl ?_
      intro ev w5 hS hU hc hf hold hval a K ha hK
      obtain ⟨hk5, x5, y5, hr5⟩ := hS
      have e30 : ev (.tmp 30) = .pointer (some ⟨gl, 0, none⟩) := hval 12 30 (by kernel_rfl) rfl
      go_simp
      exact hK _ _ (fixs_grow (by decide) (by decide) (Below.refl _ _)) rfl
    refine steps_cons ?_ ?_
    · refine step_on3 rfl rfl ?_
      intro ev w5 hS hU hc hf hold hval a K ha hK
      obtain ⟨hk5, x5, y5, hr5⟩ := hS
      have e31 : ev (.tmp 31) = .pointer (some ⟨gl, 3, none⟩) := hval 13 31 (by kernel_rfl) rfl
      have e24 : ev (.tmp 24) = .int .i64 N := hval 6 24 (by kernel_rfl) rfl
      have d3 : w5.cell? ⟨gl, 3, none⟩ = some (.int .i64 x5) := (World.ownsRow.cellAt hr5 3 (by omega)).trans rfl
      have f3 := World.ownsRow.frozenAt hr5 3
      go_simp
      exact hK (.bool true) _ ⟨fun _ => ⟨Keep.setCell (F := fun b => b = gl) (Keep.refl _ _) (p := ⟨gl, 3, none⟩) (.inl rfl) _, fun x y h => h.at3 N⟩, fun e => absurd e (by decide), fun e => absurd rfl e⟩ ⟨y5, hr5.at3 N⟩
    refine steps_cons ?_ ?_
    · refine step_on3 rfl rfl ?_
      intro ev w5 hS hU hc hf hold hval a K ha hK
      obtain ⟨hk5, x5, y5, hr5⟩ := hS
      have e19 : ev (.tmp 19) = .pointer (some ⟨gl, 0, none⟩) := hval 1 19 (by kernel_rfl) rfl
      go_simp
      exact hK _ _ (fixs_grow (by decide) (by decide) (Below.refl _ _)) rfl
    refine steps_cons ?_ ?_
    · refine step_on3 rfl rfl ?_
      intro ev w5 hS hU hc hf hold hval a K ha hK
      obtain ⟨hk5, x5, y5, hr5⟩ := hS
      have e32 : ev (.tmp 32) = .pointer (some ⟨gl, 0, none⟩) := hval 15 32 (by kernel_rfl) rfl
      go_simp
      exact hK _ _ (fixs_grow (by decide) (by decide) (Below.refl _ _)) rfl
    refine steps_cons ?_ ?_
    · refine step_on3 rfl rfl ?_
      intro ev w5 hS hU hc hf hold hval a K ha hK
      obtain ⟨hk5, x5, y5, hr5⟩ := hS
      have e33 : ev (.tmp 33) = .pointer (some ⟨gl, 4, none⟩) := hval 16 33 (by kernel_rfl) rfl
      have e29 : ev (.tmp 29) = .int .i64 O := hval 11 29 (by kernel_rfl) rfl
      have d4 : w5.cell? ⟨gl, 4, none⟩ = some (.int .i64 y5) := (World.ownsRow.cellAt hr5 4 (by omega)).trans rfl
      have f4 := World.ownsRow.frozenAt hr5 4
      go_simp
      exact hK (.bool true) _ ⟨fun e => absurd e (by decide), fun _ => ⟨Keep.setCell (F := fun b => b = gl) (Keep.refl _ _) (p := ⟨gl, 4, none⟩) (.inl rfl) _, fun x y h => h.at4 O⟩, fun _ e => absurd rfl e⟩ ⟨x5, hr5.at4 O⟩
    exact steps_nil
  · intro ev w6 hS hval hall
    obtain ⟨hk6, _⟩ := hS
    obtain ⟨_, y6, h14⟩ : ∃ v, N3 B gl cl gb N v w6 := hall 14 (by decide)
    obtain ⟨_, x6, h17⟩ : ∃ v, N4 B gl cl gb O v w6 := hall 17 (by decide)
    have hfin : RowS B gl cl gb N O w6 := by
      have q4 := (World.ownsRow.cellAt h14 4 (by omega)).symm.trans (World.ownsRow.cellAt h17 4 (by omega))
      have q5 : y6 = O := by simpa [leafL] using q4
      rw [← q5]
      exact h14
    simp only [putsOf, List.foldl_cons, List.foldl_nil, Act.put, List.setIfInBounds_toArray, List.set_cons_zero, List.set_cons_succ]
    clear hval hall
    go_wp2
    exact bodyPost_ret (results_none rfl _ _ _) rfl ⟨rfl, hk6, hfin⟩
end Go.Proofs.Ytdpknieiigibfaa
