/- The walk of the wave's Rank. Conditions: symbols below 257. Words for the wave's New: rows of bits of one level, path by path. No conditions. -/
import Derived.Test.YthkkcelfgcholaaGreatPkF
import Derived.Test.YthkkcelfgcholaaGreatPkE
namespace Go.Proofs.YthkkcelfgcholaaGreat
open Go.RowKit
set_option linter.unusedVariables false
set_option linter.unusedSimpArgs false
theorem ix9 (S : Nat → Value) (lv : Nat) (h : lv < 9) (w : World) : (Instr.index 80 (.agg #[S 0, S 1, S 2, S 3, S 4, S 5, S 6, S 7, S 8]) (.int .i64 (lv : Int))).run Tryz.prog w = .ok (S lv) w := by
  rcases lv with _ | _ | _ | _ | _ | _ | _ | _ | _ | lv
  all_goals first | (exfalso; omega) | kernel_rfl
set_option maxRecDepth 100000 in
set_option maxHeartbeats 2000000 in
theorem WaveRank_any (B gv : Nat) (L : List Nat) (k s : Nat) (w : World) (h : WaveAt w B gv L) (hs : s < 257) (hk : k ≤ L.length) (hL : ∀ x ∈ L, x < 257) (hn : L.length ≤ 1000) :
    Calls Tryz.prog 89 #[.pointer (some ⟨gv, 0, none⟩), .int .i64 (k : Int), .int .i64 (s : Int)] w fun e w' => e = .returned (.int .i64 (((L.take k).count s : Nat) : Int)) ∧ VB B w w' := by
  have h90 := atLv_zero L k s hk hL hs
  have h99 := atLv_nine L k s
  obtain ⟨hBg, S, v, hb, hrows⟩ := h
  have hset := hb.set 10 (.int .i64 0)
  rw [wcells_visits] at hset
  have hv1 := VB.set_wave hb hBg 0
  obtain ⟨n, hnn⟩ : ∃ n, L.length = n := ⟨_, rfl⟩
  rw [hnn] at hb hset hk hn
  have m1 : max (k : Int) 0 = (k : Int) := by omega
  have m2 : min (k : Int) (n : Int) = (k : Int) := by omega
  have f10 := hb.frozen 10
  have x10 : w.cell? ⟨gv, 10, none⟩ = some (.int .i64 v) := (hb.cell 10).trans (wcells_get S n v).2.2.2.2.2.2.2.2.2.2
  have hlt := hb.lt
  obtain ⟨W, hW⟩ : ∃ W, w.setCell ⟨gv, 10, none⟩ (.int .i64 0) = W := ⟨_, rfl⟩
  rw [hW] at hset hv1
  have Hset := Lib.hid hset
  have Hv1 := Lib.hid hv1
  have Hrows := Lib.hid hrows
  have H0 := Lib.hid h90
  have H9 := Lib.hid h99
  have HL := Lib.hid hL
  have HN := Lib.hid hnn
  have HW := Lib.hid hW
  clear hb hrows hset hv1 h90 h99 hL hnn hW
  go_enter Tryz.func89, Tryz.ntmps89
  go_wp2_with fail
  rw [HW.out]
  refine (SymIs_any s _ hs).mono ?_
  rintro e w1 ⟨rfl, hb1⟩
  have hbk := Hset.out.below hb1 Hset.out.lt
  have hv2 := Hv1.out.below hb1
  obtain ⟨d0, d1, d2, d3, d4, d5, d6, d7, d8, d9, d10⟩ := wcells_get S (n : Int) 0
  have c0 : w1.cell? ⟨gv, 0, none⟩ = some (S 0) := (hbk.cell 0).trans d0
  have c1 : w1.cell? ⟨gv, 1, none⟩ = some (S 1) := (hbk.cell 1).trans d1
  have c2 : w1.cell? ⟨gv, 2, none⟩ = some (S 2) := (hbk.cell 2).trans d2
  have c3 : w1.cell? ⟨gv, 3, none⟩ = some (S 3) := (hbk.cell 3).trans d3
  have c4 : w1.cell? ⟨gv, 4, none⟩ = some (S 4) := (hbk.cell 4).trans d4
  have c5 : w1.cell? ⟨gv, 5, none⟩ = some (S 5) := (hbk.cell 5).trans d5
  have c6 : w1.cell? ⟨gv, 6, none⟩ = some (S 6) := (hbk.cell 6).trans d6
  have c7 : w1.cell? ⟨gv, 7, none⟩ = some (S 7) := (hbk.cell 7).trans d7
  have c8 : w1.cell? ⟨gv, 8, none⟩ = some (S 8) := (hbk.cell 8).trans d8
  have c9 : w1.cell? ⟨gv, 9, none⟩ = some (.int .i64 (n : Int)) := (hbk.cell 9).trans d9
  have Hbk := Lib.hid hbk
  have Hv2 := Lib.hid hv2
  clear d0 d1 d2 d3 d4 d5 d6 d7 d8 d9 d10 hbk hv2 hb1 Hset Hv1 x10 f10
  go_wp2_with fail
  go_loopw [1, 28] (fun x i wr => ∃ lv : Nat, lv ≤ 9 ∧ i = .int .i64 lv ∧ x = .int .i64 ((atLv L k s lv : Nat) : Int) ∧ VB B w1 wr) (fun _ i _ => 9 - (intOf i).toNat)
  case atStart => exact ⟨0, by omega, rfl, by rw [H0.out], VisK.refl _ _⟩
  case round =>
    obtain ⟨lv, hlv, rfl, rfl, hv⟩ := hrel
    by_cases hl9 : lv < 9
    · have hix := ix9 S lv hl9
      obtain ⟨G, hown, htr⟩ := Hrows.out lv hl9
      obtain ⟨m, hm⟩ : ∃ m, 2 ^ lv = m := ⟨_, rfl⟩
      obtain ⟨p, hp⟩ : ∃ p, pathN s lv = p := ⟨_, rfl⟩
      have hpm : p < m := by rw [← hm, ← hp]; exact path_lt s lv hs (by omega)
      rw [hm] at hown htr
      obtain ⟨g, cap, hSl, hnc, hgl⟩ := World.ownsRow.form hown (by omega)
      rw [hSl] at hix hown
      obtain ⟨x, hx⟩ : ∃ x, atLv L k s lv = x := ⟨_, rfl⟩
      obtain ⟨y, hy⟩ : ∃ y, atLv L k s (lv + 1) = y := ⟨_, rfl⟩
      obtain ⟨b, hbb⟩ : ∃ b, bitB s lv = b := ⟨_, rfl⟩
      have hxy := atLv_step L k s lv hl9
      have hxl := atLv_le L k s lv
      rw [hp, hx, hbb, hy] at hxy
      rw [hp, hx] at hxl
      rw [hx]
      have hpI : (p : Int) < (m : Int) := by omega
      have Hxy := Lib.hid hxy
      have Hxl := Lib.hid hxl
      have Hown := Lib.hid hown
      have Htr := Lib.hid (htr p hpm)
      have Hp := Lib.hid hp
      have Hb := Lib.hid hbb
      have Hy := Lib.hid hy
      have Hv := Lib.hid hv
      clear hown htr hSl hm hp hx hy hbb hxy hxl hv
      go_wp2_with fail
      refine wp_region_any (by kernel_rfl) ?_
      refine wpAny_loose2 [32, 33, 34, 35, 36, 37, 38, 39, 40, 41, 42, 43, 1] (VB B) (Vs [is (.pointer (some ⟨gv, 0, none⟩)), is (.slice (some ⟨g, 0, none⟩) m cap), is (.int .i64 (s : Int)), is (.int .i64 (lv : Int)), is (.int .i64 (p : Int)), is (.pointer (some ⟨g, p * 3, none⟩)), is (.agg #[.pointer (some ⟨G p, 0, none⟩), .int .i64 (lv : Int), .int .i64 (p : Int)]), is (.int .i64 (x : Int)), is (.int .i64 (s : Int)), is (.int .i64 (lv : Int)), is (.bool b), is (.int .i64 (y : Int)), is (.int .i64 (y : Int))]) _ _ rfl (by kernel_rfl) (VisK.refl _ _) (fun _ _ => VisK.trans) (stbs_all (by repeat' (first | exact stbs_is _ _ | exact stbs_any _ | (refine List.forall_mem_cons.2 ⟨?_, ?_⟩) | (intro p hp; cases hp)))) ?_ ?_
      · refine steps_of ?_
        refine steps_cons ?_ ?_
        · refine step_on rfl rfl ?_
          intro ev w5 hS hc hf hold hval a K ha hK
          have e0 : ev (.tmp 0) = .pointer (some ⟨gv, 0, none⟩) := hold 0 (by kernel_rfl)
          replace hS : (VB B) wr w5 := ⟨⟨hS.1.os, hS.1.tape, hS.1.output, hS.1.size, hS.1.block⟩, ⟨hS.2.os, hS.2.tape, hS.2.output, hS.2.size, hS.2.block⟩⟩
          go_simp
          exact hK _ _ ((VisK.refl _ _)) rfl
        refine steps_cons ?_ ?_
        · refine step_on rfl rfl ?_
          intro ev w5 hS hc hf hold hval a K ha hK
          have e8 : ev (.tmp 8) = .slice (some ⟨g, 0, none⟩) m cap := hold 8 (by kernel_rfl)
          replace hS : (VB B) wr w5 := ⟨⟨hS.1.os, hS.1.tape, hS.1.output, hS.1.size, hS.1.block⟩, ⟨hS.2.os, hS.2.tape, hS.2.output, hS.2.size, hS.2.block⟩⟩
          go_simp
          exact hK _ _ ((VisK.refl _ _)) rfl
        refine steps_cons ?_ ?_
        · refine step_on rfl rfl ?_
          intro ev w5 hS hc hf hold hval a K ha hK
          have e2 : ev (.tmp 2) = .int .i64 (s : Int) := hold 2 (by kernel_rfl)
          replace hS : (VB B) wr w5 := ⟨⟨hS.1.os, hS.1.tape, hS.1.output, hS.1.size, hS.1.block⟩, ⟨hS.2.os, hS.2.tape, hS.2.output, hS.2.size, hS.2.block⟩⟩
          go_simp
          exact hK _ _ ((VisK.refl _ _)) rfl
        refine steps_cons ?_ ?_
        · refine step_on rfl rfl ?_
          intro ev w5 hS hc hf hold hval a K ha hK
          have e7 : ev (.tmp 7) = .int .i64 (lv : Int) := hold 7 (by kernel_rfl)
          replace hS : (VB B) wr w5 := ⟨⟨hS.1.os, hS.1.tape, hS.1.output, hS.1.size, hS.1.block⟩, ⟨hS.2.os, hS.2.tape, hS.2.output, hS.2.size, hS.2.block⟩⟩
          go_simp
          exact hK _ _ ((VisK.refl _ _)) rfl
        refine steps_cons ?_ ?_
        · refine step_on rfl rfl ?_
          intro ev w5 hS hc hf hold hval a K ha hK
          have e34 : ev (.tmp 34) = .int .i64 (s : Int) := hval 2 34 (by kernel_rfl) rfl
          have e35 : ev (.tmp 35) = .int .i64 (lv : Int) := hval 3 35 (by kernel_rfl) rfl
          replace hS : (VB B) wr w5 := ⟨⟨hS.1.os, hS.1.tape, hS.1.output, hS.1.size, hS.1.block⟩, ⟨hS.2.os, hS.2.tape, hS.2.output, hS.2.size, hS.2.block⟩⟩
          go_simp
          refine (SymPath_any s lv w5 hs (by omega)).mono ?_
          rintro e w8 ⟨rfl, hb8⟩
          rw [Hp.out]
          exact hK _ _ (VisK.of_below hb8) rfl
        refine steps_cons ?_ ?_
        · refine step_on rfl rfl ?_
          intro ev w5 hS hc hf hold hval a K ha hK
          have e33 : ev (.tmp 33) = .slice (some ⟨g, 0, none⟩) m cap := hval 1 33 (by kernel_rfl) rfl
          have e36 : ev (.tmp 36) = .int .i64 (p : Int) := hval 4 36 (by kernel_rfl) rfl
          replace hS : (VB B) wr w5 := ⟨⟨hS.1.os, hS.1.tape, hS.1.output, hS.1.size, hS.1.block⟩, ⟨hS.2.os, hS.2.tape, hS.2.output, hS.2.size, hS.2.block⟩⟩
          go_simp
          exact hK _ _ ((VisK.refl _ _)) rfl
        refine steps_cons ?_ ?_
        · refine step_on rfl rfl ?_
          intro ev w5 hS hc hf hold hval a K ha hK
          have e37 : ev (.tmp 37) = .pointer (some ⟨g, p * 3, none⟩) := hval 5 37 (by kernel_rfl) rfl
          replace hS : (VB B) wr w5 := ⟨⟨hS.1.os, hS.1.tape, hS.1.output, hS.1.size, hS.1.block⟩, ⟨hS.2.os, hS.2.tape, hS.2.output, hS.2.size, hS.2.block⟩⟩
          have hrow5 := (Hv2.out.trans (Hv.out.trans hS)).1.own Hown.out (by decide) (by decide)
          obtain ⟨q0, q1, q2⟩ := shelfL_get G lv m p hpm
          have a0 : w5.cell? ⟨g, p * 3, none⟩ = _ := (World.ownsRow.cellAt hrow5 (p * 3) (by omega)).trans q0
          have a1 : w5.cell? ⟨g, p * 3 + 1, none⟩ = _ := (World.ownsRow.cellAt hrow5 (p * 3 + 1) (by omega)).trans q1
          have a2 : w5.cell? ⟨g, p * 3 + 2, none⟩ = _ := (World.ownsRow.cellAt hrow5 (p * 3 + 2) (by omega)).trans q2
          go_simp
          exact hK _ _ ((VisK.refl _ _)) rfl
        refine steps_cons ?_ ?_
        · refine step_on rfl rfl ?_
          intro ev w5 hS hc hf hold hval a K ha hK
          have e1 : ev (.tmp 1) = .int .i64 (x : Int) := hold 1 (by kernel_rfl)
          replace hS : (VB B) wr w5 := ⟨⟨hS.1.os, hS.1.tape, hS.1.output, hS.1.size, hS.1.block⟩, ⟨hS.2.os, hS.2.tape, hS.2.output, hS.2.size, hS.2.block⟩⟩
          go_simp
          exact hK _ _ ((VisK.refl _ _)) rfl
        refine steps_cons ?_ ?_
        · refine step_on rfl rfl ?_
          intro ev w5 hS hc hf hold hval a K ha hK
          have e2 : ev (.tmp 2) = .int .i64 (s : Int) := hold 2 (by kernel_rfl)
          replace hS : (VB B) wr w5 := ⟨⟨hS.1.os, hS.1.tape, hS.1.output, hS.1.size, hS.1.block⟩, ⟨hS.2.os, hS.2.tape, hS.2.output, hS.2.size, hS.2.block⟩⟩
          go_simp
          exact hK _ _ ((VisK.refl _ _)) rfl
        refine steps_cons ?_ ?_
        · refine step_on rfl rfl ?_
          intro ev w5 hS hc hf hold hval a K ha hK
          have e7 : ev (.tmp 7) = .int .i64 (lv : Int) := hold 7 (by kernel_rfl)
          replace hS : (VB B) wr w5 := ⟨⟨hS.1.os, hS.1.tape, hS.1.output, hS.1.size, hS.1.block⟩, ⟨hS.2.os, hS.2.tape, hS.2.output, hS.2.size, hS.2.block⟩⟩
          go_simp
          exact hK _ _ ((VisK.refl _ _)) rfl
        refine steps_cons ?_ ?_
        · refine step_on rfl rfl ?_
          intro ev w5 hS hc hf hold hval a K ha hK
          have e40 : ev (.tmp 40) = .int .i64 (s : Int) := hval 8 40 (by kernel_rfl) rfl
          have e41 : ev (.tmp 41) = .int .i64 (lv : Int) := hval 9 41 (by kernel_rfl) rfl
          replace hS : (VB B) wr w5 := ⟨⟨hS.1.os, hS.1.tape, hS.1.output, hS.1.size, hS.1.block⟩, ⟨hS.2.os, hS.2.tape, hS.2.output, hS.2.size, hS.2.block⟩⟩
          go_simp
          refine (SymBit_any s lv w5 hs hl9).mono ?_
          rintro e w8 ⟨rfl, hb8⟩
          rw [Hb.out]
          exact hK _ _ (VisK.of_below hb8) rfl
        refine steps_cons ?_ ?_
        · refine step_on rfl rfl ?_
          intro ev w5 hS hc hf hold hval a K ha hK
          have e32 : ev (.tmp 32) = .pointer (some ⟨gv, 0, none⟩) := hval 0 32 (by kernel_rfl) rfl
          have e38 : ev (.tmp 38) = .agg #[.pointer (some ⟨G p, 0, none⟩), .int .i64 (lv : Int), .int .i64 (p : Int)] := hval 6 38 (by kernel_rfl) rfl
          have e39 : ev (.tmp 39) = .int .i64 (x : Int) := hval 7 39 (by kernel_rfl) rfl
          have e42 : ev (.tmp 42) = .bool b := hval 10 42 (by kernel_rfl) rfl
          replace hS : (VB B) wr w5 := ⟨⟨hS.1.os, hS.1.tape, hS.1.output, hS.1.size, hS.1.block⟩, ⟨hS.2.os, hS.2.tape, hS.2.output, hS.2.size, hS.2.block⟩⟩
          go_simp
          obtain ⟨v5, hw5⟩ := (Hv.out.trans hS).1.waveC Hbk.out
          have ht5 := Htr.out.2.vis (Hv2.out.trans (Hv.out.trans hS)).1
          refine (WRank1_any gv (G p) S n v5 lv p (bitsOf L lv p) x b w5 hw5 ht5 Hxl.out).mono ?_
          rintro e w8 ⟨rfl, hv8⟩
          rw [Hxy.out]
          exact hK _ _ (hv8.mono fun b hb => by rcases hb with rfl | rfl; exact hBg; exact Htr.out.1) rfl
        refine steps_cons ?_ ?_
        · refine step_on rfl rfl ?_
          intro ev w5 hS hc hf hold hval a K ha hK
          have e43 : ev (.tmp 43) = .int .i64 (y : Int) := hval 11 43 (by kernel_rfl) rfl
          replace hS : (VB B) wr w5 := ⟨⟨hS.1.os, hS.1.tape, hS.1.output, hS.1.size, hS.1.block⟩, ⟨hS.2.os, hS.2.tape, hS.2.output, hS.2.size, hS.2.block⟩⟩
          go_simp
          exact hK _ _ ((VisK.refl _ _)) rfl
        exact steps_nil
      · intro ev w6 hS hval
        replace hS : (VB B) wr w6 := ⟨⟨hS.1.os, hS.1.tape, hS.1.output, hS.1.size, hS.1.block⟩, ⟨hS.2.os, hS.2.tape, hS.2.output, hS.2.size, hS.2.block⟩⟩
        have e1 : ev (.tmp 1) = .int .i64 (y : Int) := hval 12 1 rfl
        simp only [putsOf, List.foldl_cons, List.foldl_nil, Act.put, List.setIfInBounds_toArray, List.set_cons_zero, List.set_cons_succ]
        rw [e1]
        clear hval
        have hv6 := Hv.out.trans hS
        go_wp2_with fail
        go_roundw
        case rel => exact ⟨lv + 1, by omega, by go_num, by rw [Hy.out], hv6⟩
        case measure => simp [intOf]; omega
    · have h9 : lv = 9 := by omega
      subst h9
      rw [H9.out]
      go_wp2_with fail
      go_ret
      exact ⟨rfl, Hv2.out.trans hv⟩
end Go.Proofs.YthkkcelfgcholaaGreat
namespace Go.Proofs.YthkkcelfgcholaaGreat
open Go.RowKit
set_option linter.unusedVariables false
set_option linter.unusedSimpArgs false
/-- m cells. -/
@[irreducible] def rowC (T : Nat → Value) (m : Nat) : Array Value := Array.ofFn (n := m) fun i => T i.val
theorem rowC_size (T : Nat → Value) (m : Nat) : (rowC T m).size = m := by unfold rowC; simp
theorem rowC_get (T : Nat → Value) (m i : Nat) (h : i < m) : (rowC T m)[i]? = some (T i) := by
  unfold rowC
  rw [Array.getElem?_ofFn, dif_pos h]
theorem rowC_set (T : Nat → Value) (m i : Nat) (h : i < m) (v : Value) : (rowC T m).setIfInBounds i v = rowC (fun j => if j = i then v else T j) m := by
  apply Array.ext_getElem?
  intro j
  rcases Nat.lt_or_ge j m with hj | hj
  · rw [rowC_get _ _ _ hj]
    by_cases e : i = j
    · subst e
      rw [Array.getElem?_setIfInBounds_self_of_lt (by rw [rowC_size]; exact h), if_pos rfl]
    · rw [Array.getElem?_setIfInBounds_ne e, rowC_get _ _ _ hj, if_neg (fun x => e x.symm)]
  · rw [Array.getElem?_eq_none (by simp [rowC_size]; exact hj), Array.getElem?_eq_none (by rw [rowC_size]; exact hj)]
theorem rowC_const (v : Value) (m : Nat) : rowC (fun _ => v) m = Array.replicate m v := by
  apply Array.ext_getElem?
  intro j
  rcases Nat.lt_or_ge j m with hj | hj
  · rw [rowC_get _ _ _ hj]
    simp [hj]
  · rw [Array.getElem?_eq_none (by rw [rowC_size]; exact hj), Array.getElem?_eq_none (by simpa using hj)]
/-- The m rows of bits R, at the slices T, which the block gB holds. -/
structure Bits (w : World) (B gB m : Nat) (T : Nat → Value) (R : Nat → List Bool) : Prop where
  blk : Bk w gB 106 (rowC T m)
  own : ∀ p, p < m → w.ownsRow B 4 1 (T p) (R p).length ((R p).map Value.bool)
  apart : ∀ p q, p < m → q < m → p ≠ q → ∀ b, (T p).ownBlock = some b → (T q).ownBlock ≠ some b
theorem Bits.same {w w' : World} {B gB m : Nat} {T : Nat → Value} {R : Nat → List Bool} (h : Bits w B gB m T R) (k1 : ∀ b cs, Bk w b 106 cs → Bk w' b 106 cs) (k2 : ∀ b cs, Bk w b 4 cs → Bk w' b 4 cs) : Bits w' B gB m T R :=
  ⟨k1 _ _ h.blk, fun p hp => own_same (h.own p hp) fun b cs _ hb => k2 b cs hb, h.apart⟩
theorem Bits.below {w w' : World} {B gB m : Nat} {T : Nat → Value} {R : Nat → List Bool} (h : Bits w B gB m T R) (k : Below w.heap.size w w') : Bits w' B gB m T R := h.same (fun b cs hb => hb.below k hb.lt) (fun b cs hb => hb.below k hb.lt)
theorem Bits.start (w : World) (B gB m : Nat) (h : Bk w gB 106 (rowC (fun _ => .slice none 0 0) m)) : Bits w B gB m (fun _ => .slice none 0 0) (fun _ => []) :=
  ⟨h, fun p hp => World.ownsRow_nil _ _ _ _, fun p q _ _ _ b hb => by simp [Value.ownBlock] at hb⟩
/-- One row has one bit more, at a slice of its own or a new one. -/
theorem Bits.push {w w1 : World} {B gB m p : Nat} {T : Nat → Value} {R : Nat → List Bool} {v : Value} {b : Bool} (h : Bits w B gB m T R) (hp : p < m) (k : Keep (fun b => (T p).ownBlock = some b) w w1)
    (ho : w1.ownsRow B 4 1 v ((R p).length + 1) ((R p).map Value.bool ++ [.bool b])) (ha : v.ownBlock = (T p).ownBlock ∨ ∃ g, v.ownBlock = some g ∧ w.heap.size ≤ g) :
    Bits (w1.setCell ⟨gB, p, none⟩ v) B gB m (fun j => if j = p then v else T j) (fun j => if j = p then R p ++ [b] else R j) := by
  have hne : (T p).ownBlock ≠ some gB := by
    intro e
    exact own_bk_ne (h.own p hp) h.blk (by decide) e.symm
  have hb1 := k.bk h.blk hne
  have hset : ∀ g cs, Bk w1 g 4 cs → Bk (w1.setCell ⟨gB, p, none⟩ v) g 4 cs := fun g cs hg => hg.far (Bk.ne hg hb1 (by decide)) _
  refine ⟨?_, fun q hq => ?_, fun q r hq hr hqr b' hb' => ?_⟩
  · rw [← rowC_set T m p hp v]
    exact hb1.set p v
  · by_cases e : q = p
    · subst e
      rw [if_pos rfl, if_pos rfl, List.length_append, List.map_append]
      exact own_same ho fun g cs _ hg => hset g cs hg
    · rw [if_neg e, if_neg e]
      refine own_same (h.own q hq) fun g cs hg hgb => hset g cs (k.bk hgb ?_)
      exact fun x => h.apart q p hq hp e g hg x
  · have lt : ∀ q, q < m → ∀ x, (T q).ownBlock = some x → x < w.heap.size := fun q hq x hx => ((h.own q hq).lt x hx).2
    have hv : ∀ q, q < m → q ≠ p → ∀ x, v.ownBlock = some x → (T q).ownBlock ≠ some x := by
      intro q hq hqp x hx hy
      rcases ha with ha | ⟨g, hg, hge⟩
      · rw [ha] at hx
        exact h.apart p q hp hq (fun e => hqp e.symm) x hx hy
      · rw [hg] at hx
        cases hx
        have := lt q hq _ hy
        omega
    by_cases e1 : q = p
    · subst e1
      rw [if_pos rfl] at hb'
      rw [if_neg (fun e => hqr e.symm)]
      exact hv r hr (fun e => hqr e.symm) b' hb'
    · rw [if_neg e1] at hb'
      by_cases e2 : r = p
      · subst e2
        rw [if_pos rfl]
        intro hx
        exact hv q hq e1 b' hx hb'
      · rw [if_neg e2]
        exact h.apart q r hq hr hqr b' hb'
theorem bits_snoc (L : List Nat) (s lv p : Nat) : bitsOf (L ++ [s]) lv p = if p = pathN s lv then bitsOf L lv p ++ [bitB s lv] else bitsOf L lv p := by
  unfold bitsOf
  rw [List.filter_append, List.map_append]
  by_cases e : p = pathN s lv
  · rw [if_pos e]
    simp [e]
  · rw [if_neg e]
    have : (pathN s lv == p) = false := by simp; omega
    simp [this]
theorem Bits.congr {w : World} {B gB m : Nat} {T : Nat → Value} {R R' : Nat → List Bool} (h : Bits w B gB m T R) (e : ∀ p, p < m → R p = R' p) : Bits w B gB m T R' :=
  ⟨h.blk, fun p hp => by rw [← e p hp]; exact h.own p hp, h.apart⟩
theorem own_ty {w : World} {base : Nat} {e : TypeId} {sz n b : Nat} {v : Value} {xs : List Value} (h : w.ownsRow base e sz v n xs) (hb : v.ownBlock = some b) : ∃ cs, Bk w b e cs := by
  rcases h.2 with ⟨rfl, _⟩ | ⟨g, cap, cur, rfl, _, hg, _⟩
  · simp [Value.ownBlock] at hb
  · have e1 : g = b := by simpa [Value.ownBlock] using hb
    subst e1
    exact ⟨cur, hg⟩
/-- Behind the write of the wave, and of blocks that are new, an older tree stands. -/
theorem TreeAt.keepT {w w' : World} {F : Nat → Prop} {gt : Nat} {bs : List Bool} (h : TreeAt w gt bs) (k : Keep F w w') (hf : ∀ b, F b → ∃ t cs, Bk w b t cs ∧ (t = 82 ∨ t = 85)) : TreeAt w' gt bs := by
  refine h.same fun b t cs hin hb => k.bk hb fun hF => ?_
  obtain ⟨t', cs', hb', ht⟩ := hf b hF
  have e := (bk_inj hb hb').1
  subst e
  rcases ht with rfl | rfl
  · exact absurd hin (by decide)
  · exact absurd hin (by decide)
theorem ShelfRow.keepW {w w' : World} {gv B : Nat} {cs : Array Value} {v : Value} {L : List Nat} {lv m : Nat} (h : ShelfRow w B v L lv m) (k : Keep (fun b => b = gv) w w') (hw : Bk w gv 82 cs) : ShelfRow w' B v L lv m := by
  obtain ⟨G, h1, h2⟩ := h
  refine ⟨G, own_same h1 fun b cs _ hb => k.bk hb fun e => ?_, fun p hp => ⟨(h2 p hp).1, (h2 p hp).2.keepT k fun b e => by
    have e' : b = gv := e
    subst e'
    exact ⟨_, cs, hw, .inl rfl⟩⟩⟩
  have e' : b = gv := e
  subst e'
  exact absurd (bk_inj hb hw).1 (by decide)
theorem ShelfRow.mono {w : World} {B B' : Nat} {v : Value} {L : List Nat} {lv m : Nat} (h : ShelfRow w B v L lv m) (hB : B' ≤ B) : ShelfRow w B' v L lv m := by
  obtain ⟨G, h1, h2⟩ := h
  exact ⟨G, own_mono h1 hB, fun p hp => ⟨Nat.le_trans hB (h2 p hp).1, (h2 p hp).2⟩⟩
end Go.Proofs.YthkkcelfgcholaaGreat
