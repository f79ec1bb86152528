/- The walks of the wave's Select: its closure, look with it, Select. Conditions: there is such a symbol; symbols below 257; at most 1000; the table of math/bits stands in its variable. The walk of the wave's Select. Conditions: there is such a symbol; symbols below 257; at most 1000; the table of math/bits stands in its variable. The walks of walk's First and On, of sym.Byte; the row of the suffix one behind. Conditions: a row that is there; symbols below 257; at most 1000; the table of math/bits stands in its variable. -/
import Derived.Test.YthkkcelfgcholaaGreatDoorPkN
import Derived.Test.YthkkcelfgcholaaGreatDoorQFnWGet2
import Derived.Test.YthkkcelfgcholaaGreatDoorQFnBack
namespace Go.Proofs.YthkkcelfgcholaaGreatDoor
open Go.RowKit
set_option linter.unusedVariables false
set_option linter.unusedSimpArgs false
/-- The table stands under what lookups write. -/
theorem TabW.vb {B : Nat} {w w' : World} (h : TabW w) (k : VB B w w') (hB : 0 < B) (hw : 0 < w.heap.size) : TabW w' :=
  fun j hj => (k.2.cell (p := ⟨0, j, none⟩) hw (by show ¬ (B ≤ 0); omega)).trans (h j hj)
set_option maxRecDepth 100000 in
set_option maxHeartbeats 1000000 in
theorem Select1_any (B gt gj gs gv : Nat) (lv : Nat) (p : Int) (bs : List Bool) (r j s : Nat) (w : World) (ht : TreeAt w gt bs) (hj : Bk w gj 3 #[.int .i64 (j : Int)]) (hs : Bk w gs 3 #[.int .i64 (s : Int)]) (hv : Bk w gv 3 #[.int .i64 (lv : Int)]) (hl9 : lv < 9) (hs257 : s < 257) (hr : bs[r]? = some (bitB s lv)) (hc : (bs.take r).count (bitB s lv) = j) (hT : TabW w) (hB : 0 < B) (hBt : B ≤ gt) :
    Calls Tryz.prog 110 #[.agg #[.pointer (some ⟨gt, 0, none⟩), .int .i64 (lv : Int), .int .i64 p], .pointer (some ⟨gj, 0, none⟩), .pointer (some ⟨gs, 0, none⟩), .pointer (some ⟨gv, 0, none⟩)] w fun e w' => e = .returned (.tuple #[]) ∧
      ∃ w1, VB B w w1 ∧ Bk w1 gj 3 #[.int .i64 (j : Int)] ∧ w' = w1.setCell ⟨gj, 0, none⟩ (.int .i64 (r : Int)) := by
  have l1 := hj.lt
  have l2 := hs.lt
  have l3 := hv.lt
  have l0 : 0 < w.heap.size := hT.pos
  obtain ⟨b, hb⟩ : ∃ b, bitB s lv = b := ⟨_, rfl⟩
  rw [hb] at hr hc
  obtain ⟨o, ho⟩ : ∃ o, Obj.cells #[.pointer (some ⟨gt, 0, none⟩), .int .i64 (lv : Int), .int .i64 p] 85 = o := ⟨_, rfl⟩
  have hal := (Below.refl w.heap.size w).alloc (Nat.le_refl _) o
  have hs1 := Bk.new w 85 #[.pointer (some ⟨gt, 0, none⟩), .int .i64 (lv : Int), .int .i64 p]
  rw [ho] at hs1
  have l4 := hs1.lt
  obtain ⟨W, hW⟩ : ∃ x, w.alloc o = x := ⟨_, rfl⟩
  have ht1 := ht.below hal
  have hj1 := hj.below hal l1
  have hss1 := hs.below hal l2
  have hv1 := hv.below hal l3
  have hT1 := hT.below hal l0
  rw [hW] at hal hs1 ht1 hj1 hss1 hv1 hT1 l4
  have l5 := hal.size
  have Hb := Lib.hid hb
  have Hr := Lib.hid hr
  have Hc := Lib.hid hc
  have Ht := Lib.hid ht1
  have Hj := Lib.hid hj1
  have Hs := Lib.hid hss1
  have Hv := Lib.hid hv1
  have HT := Lib.hid hT1
  have HA := Lib.hid hal
  have Hs1 := Lib.hid hs1
  have Ho := Lib.hid ho
  have HW := Lib.hid hW
  have Hl5 := Lib.hid l5
  clear hb hr hc ht hj hs hv hT hal hs1 ho ht1 hj1 hss1 hv1 hT1 hW l5
  go_enter Tryz.func110, Tryz.ntmps110
  go_wp2_with fail
  rw [Ho.out, HW.out]
  refine wp_region_any (by kernel_rfl) ?_
  refine wpAny_vis_tail B 7 [5, 6, 7, 8, 9, 10, 11] (fun _ => False) 6 [] (fun _ => True) (is (.int .i64 (r : Int))) [is (.pointer (some ⟨w.heap.size, 0, none⟩)), is (.pointer (some ⟨gt, 0, none⟩)), is (.int .i64 (j : Int)), is (.int .i64 (s : Int)), is (.int .i64 (lv : Int)), is (.bool b), anyV] _ _ rfl (by decide) (by kernel_rfl) (by kernel_rfl) (by kernel_rfl) (trivial) (fun _ _ _ _ _ => trivial) (stbs_is _ _) (by repeat' (first | exact stbs_is _ _ | exact stbs_any _ | (refine List.forall_mem_cons.2 ⟨?_, ?_⟩) | (intro p hp; cases hp))) ?_ ?_
  · refine steps_of_n ?_
    refine steps_cons ?_ ?_
    · refine step_on3 rfl rfl ?_
      intro ev w5 hS hU hc hf hold hval a K ha hK
      replace hS : VFB B (fun _ => False) W w5 := ⟨⟨hS.1.os, hS.1.tape, hS.1.output, hS.1.size, hS.1.block⟩, ⟨hS.2.os, hS.2.tape, hS.2.output, hS.2.size, hS.2.block⟩⟩
      clear hU
      have e4 : ev (.tmp 4) = .pointer (some ⟨w.heap.size, 0, none⟩) := hold 4 (by kernel_rfl)
      go_simp
      exact hK _ _ (vstep_vis (VisK.refl _ _)) rfl
    refine steps_cons ?_ ?_
    · refine step_on3 rfl rfl ?_
      intro ev w5 hS hU hc hf hold hval a K ha hK
      replace hS : VFB B (fun _ => False) W w5 := ⟨⟨hS.1.os, hS.1.tape, hS.1.output, hS.1.size, hS.1.block⟩, ⟨hS.2.os, hS.2.tape, hS.2.output, hS.2.size, hS.2.block⟩⟩
      clear hU
      have e5 : ev (.tmp 5) = .pointer (some ⟨w.heap.size, 0, none⟩) := hval 0 5 (by kernel_rfl) rfl
      have k5 : w5.cell? ⟨w.heap.size, 0, none⟩ = some (.pointer (some ⟨gt, 0, none⟩)) := ((hS.1.bk Hs1.out (by decide) (by decide) (fun h => h)).cell 0).trans rfl
      go_simp
      exact hK _ _ (vstep_vis (VisK.refl _ _)) rfl
    refine steps_cons ?_ ?_
    · refine step_on3 rfl rfl ?_
      intro ev w5 hS hU hc hf hold hval a K ha hK
      replace hS : VFB B (fun _ => False) W w5 := ⟨⟨hS.1.os, hS.1.tape, hS.1.output, hS.1.size, hS.1.block⟩, ⟨hS.2.os, hS.2.tape, hS.2.output, hS.2.size, hS.2.block⟩⟩
      clear hU
      have e1 : ev (.tmp 1) = .pointer (some ⟨gj, 0, none⟩) := hold 1 (by kernel_rfl)
      have k5 : w5.cell? ⟨gj, 0, none⟩ = some (.int .i64 (j : Int)) := ((hS.1.bk Hj.out (by decide) (by decide) (fun h => h)).cell 0).trans rfl
      go_simp
      exact hK _ _ (vstep_vis (VisK.refl _ _)) rfl
    refine steps_cons ?_ ?_
    · refine step_on3 rfl rfl ?_
      intro ev w5 hS hU hc hf hold hval a K ha hK
      replace hS : VFB B (fun _ => False) W w5 := ⟨⟨hS.1.os, hS.1.tape, hS.1.output, hS.1.size, hS.1.block⟩, ⟨hS.2.os, hS.2.tape, hS.2.output, hS.2.size, hS.2.block⟩⟩
      clear hU
      have e2 : ev (.tmp 2) = .pointer (some ⟨gs, 0, none⟩) := hold 2 (by kernel_rfl)
      have k5 : w5.cell? ⟨gs, 0, none⟩ = some (.int .i64 (s : Int)) := ((hS.1.bk Hs.out (by decide) (by decide) (fun h => h)).cell 0).trans rfl
      go_simp
      exact hK _ _ (vstep_vis (VisK.refl _ _)) rfl
    refine steps_cons ?_ ?_
    · refine step_on3 rfl rfl ?_
      intro ev w5 hS hU hc hf hold hval a K ha hK
      replace hS : VFB B (fun _ => False) W w5 := ⟨⟨hS.1.os, hS.1.tape, hS.1.output, hS.1.size, hS.1.block⟩, ⟨hS.2.os, hS.2.tape, hS.2.output, hS.2.size, hS.2.block⟩⟩
      clear hU
      have e3 : ev (.tmp 3) = .pointer (some ⟨gv, 0, none⟩) := hold 3 (by kernel_rfl)
      have k5 : w5.cell? ⟨gv, 0, none⟩ = some (.int .i64 (lv : Int)) := ((hS.1.bk Hv.out (by decide) (by decide) (fun h => h)).cell 0).trans rfl
      go_simp
      exact hK _ _ (vstep_vis (VisK.refl _ _)) rfl
    refine steps_cons ?_ ?_
    · refine step_on3 rfl rfl ?_
      intro ev w5 hS hU hc hf hold hval a K ha hK
      replace hS : VFB B (fun _ => False) W w5 := ⟨⟨hS.1.os, hS.1.tape, hS.1.output, hS.1.size, hS.1.block⟩, ⟨hS.2.os, hS.2.tape, hS.2.output, hS.2.size, hS.2.block⟩⟩
      clear hU
      have e8 : ev (.tmp 8) = .int .i64 (s : Int) := hval 3 8 (by kernel_rfl) rfl
      have e9 : ev (.tmp 9) = .int .i64 (lv : Int) := hval 4 9 (by kernel_rfl) rfl
      go_simp
      refine (SymBit_any s lv w5 hs257 hl9).mono ?_
      rintro e w8 ⟨rfl, hb8⟩
      rw [Hb.out]
      exact hK _ _ (vstep_vis (VisK.of_below hb8)) rfl
    refine steps_cons ?_ ?_
    · refine step_on3 rfl rfl ?_
      intro ev w5 hS hU hc hf hold hval a K ha hK
      replace hS : VFB B (fun _ => False) W w5 := ⟨⟨hS.1.os, hS.1.tape, hS.1.output, hS.1.size, hS.1.block⟩, ⟨hS.2.os, hS.2.tape, hS.2.output, hS.2.size, hS.2.block⟩⟩
      clear hU
      have e6 : ev (.tmp 6) = .pointer (some ⟨gt, 0, none⟩) := hval 1 6 (by kernel_rfl) rfl
      have e7 : ev (.tmp 7) = .int .i64 (j : Int) := hval 2 7 (by kernel_rfl) rfl
      have e10 : ev (.tmp 10) = .bool b := hval 5 10 (by kernel_rfl) rfl
      go_simp
      have hvs := VFB.to_vb hS (fun b _ h => h)
      have ht5 := Ht.out.vis hvs.1
      have hT5 := HT.out.vb hvs hB (Nat.lt_of_lt_of_le l0 Hl5.out)
      refine (TreeSelect_any gt bs r j b w5 ht5 Hr.out Hc.out hT5 (by omega)).mono ?_
      rintro e w8 ⟨rfl, hv8⟩
      exact hK _ _ (vstep_vis (hv8.mono fun b hb => by rcases hb with rfl; exact hBt)) rfl
    exact steps_nil
  · intro ev w6 f hS hval hall
    replace hS : VFB B (fun _ => False) W w6 := ⟨⟨hS.1.os, hS.1.tape, hS.1.output, hS.1.size, hS.1.block⟩, ⟨hS.2.os, hS.2.tape, hS.2.output, hS.2.size, hS.2.block⟩⟩
    have e11 : ev (.tmp 11) = .int .i64 (r : Int) := hval 6 11 (by decide) rfl
    obtain ⟨vJ, pJ0⟩ := hall 6 (by decide)
    have pJ : (is (.int .i64 (r : Int))) vJ w6 := pJ0
    clear pJ0 hall
    simp only [putsOf, List.foldl_cons, List.foldl_nil, Act.put, List.setIfInBounds_toArray, List.set_cons_zero, List.set_cons_succ]
    rw [e11]
    clear hval
    have hvs := VFB.to_vb hS (fun b _ h => h)
    have hj6 := hvs.1.bk Hj.out (by decide) (by decide)
    have c6 : w6.cell? ⟨gj, 0, none⟩ = some (.int .i64 (j : Int)) := (hj6.cell 0).trans rfl
    have f6 := hj6.frozen 0
    have hvn := (VisK.of_below (F := fun b => B ≤ b) HA.out).trans hvs
    have l6 := hj6.lt
    clear hvs hS pJ
    change wpAny Tryz.prog Region.Mode.any _ _ (1 + f) (firstN 7 8) _ w6
    rw [Nat.add_comm 1 f]
    refine wpAny_one (f := f) (i := 7) (by kernel_rfl) ?_
    refine wpOp_run rfl rfl ?_
    generalize hK : wpAny Tryz.prog _ _ _ f _ = K5
    go_simp
    subst hK
    refine wpAny_all (by kernel_rfl) ?_
    go_wp2_with fail
    go_end0
    exact ⟨rfl, w6, hvn, hj6, rfl⟩
set_option maxRecDepth 100000 in
set_option maxHeartbeats 1000000 in
theorem LookS_any (B gv gt gn gs gw : Nat) (S : Nat → Value) (n v p : Int) (lv : Nat) (bs : List Bool) (r j s : Nat) (w0 w : World) (hw : Bk w gv 82 (wcells S n v)) (ht0 : TreeAt w0 gt bs) (hv0 : Vis w0 w) (hg0 : w0.heap.size ≤ gn) (hn : Bk w gn 3 #[.int .i64 (j : Int)]) (hs5 : Bk w gs 3 #[.int .i64 (s : Int)]) (hk : Bk w gw 3 #[.int .i64 (lv : Int)]) (hl9 : lv < 9) (hs257 : s < 257) (hr : bs[r]? = some (bitB s lv)) (hc : (bs.take r).count (bitB s lv) = j) (hT : TabW w) (hB : 0 < B) (hBv : B ≤ gv) (hBt : B ≤ gt) (hBn : B ≤ gn) :
    Calls Tryz.prog 59 #[.pointer (some ⟨gv, 0, none⟩), .agg #[.pointer (some ⟨gt, 0, none⟩), .int .i64 (lv : Int), .int .i64 p], .func (.func 110) #[] #[.pointer (some ⟨gn, 0, none⟩), .pointer (some ⟨gs, 0, none⟩), .pointer (some ⟨gw, 0, none⟩)]] w fun e w' => e = .returned (.tuple #[]) ∧
      VisF (fun b => b = gn) w w' ∧ Keep (fun b => B ≤ b) w w' ∧ Bk w' gn 3 #[.int .i64 (r : Int)] := by
  have ht := ht0.vis hv0
  have Ht0 := Lib.hid ht0
  have HV0 := Lib.hid hv0
  have Hr := Lib.hid hr
  have Hc := Lib.hid hc
  have HT := Lib.hid hT
  have Hs5 := Lib.hid hs5
  have l5 := hs5.lt
  have l0 : 0 < w.heap.size := hT.pos
  clear ht0 hv0 hr hc hT hs5
  obtain ⟨o, ho⟩ : ∃ o, Obj.cells #[.pointer (some ⟨gt, 0, none⟩), .int .i64 (lv : Int), .int .i64 p] 85 = o := ⟨_, rfl⟩
  have hal := (Below.refl w.heap.size w).alloc (Nat.le_refl _) o
  have hs1 := Bk.new w 85 #[.pointer (some ⟨gt, 0, none⟩), .int .i64 (lv : Int), .int .i64 p]
  rw [ho] at hs1
  have l1 := hk.lt
  have l3 := hn.lt
  have l4 := hw.lt
  have n1 := Bk.ne hn hw (by decide)
  have Ht := Lib.hid ht
  have Hn := Lib.hid hn
  have Hk := Lib.hid hk
  have Hw := Lib.hid hw
  have HA := Lib.hid hal
  have Hs := Lib.hid hs1
  have Ho := Lib.hid ho
  clear ht hk hn hw hal hs1 ho
  go_enter Tryz.func59, Tryz.ntmps59
  go_wp2_with fail
  rw [Ho.out]
  refine (Select1_any B gt gn gs gw lv p bs r j s _ (Ht.out.below HA.out) (Hn.out.alloc _) (Hs5.out.alloc _) (Hk.out.alloc _) hl9 hs257 Hr.out Hc.out (HT.out.below HA.out l0) hB hBt).mono ?_
  rintro e w2 ⟨rfl, w1, hv1, hn1, rfl⟩
  obtain ⟨v1, hw1⟩ := ((Vis.of_below HA.out).trans hv1.1).waveC Hw.out
  have hw2 := hw1.far (p := ⟨gn, 0, none⟩) (fun h => n1 h.symm) (.int .i64 (r : Int))
  have ht1 := Ht.out.vis ((Vis.of_below HA.out).trans hv1.1)
  have ht2 : TreeAt (w1.setCell ⟨gn, 0, none⟩ (.int .i64 (r : Int))) gt bs := Ht0.out.vis (((HV0.out.trans (Vis.of_below HA.out)).trans hv1.1).fresh (p := ⟨gn, 0, none⟩) hg0 _)
  obtain ⟨vt, hvt⟩ := ht2.visits
  have hs2 := (hv1.1.bk Hs.out (by decide) (by decide)).far (p := ⟨gn, 0, none⟩) (fun h => absurd (show w.heap.size = gn from h) (by omega)) (.int .i64 (r : Int))
  have hnn := hn1.set 0 (.int .i64 (r : Int))
  have hfin : VisF (fun b => b = gn) w (w1.setCell ⟨gn, 0, none⟩ (.int .i64 (r : Int))) := VisF.put (F := fun b => b = gn) (VisF.of_vis ((Vis.of_below HA.out).trans hv1.1)) (p := ⟨gn, 0, none⟩) (.inl rfl) _
  have hkp : Keep (fun b => B ≤ b) w (w1.setCell ⟨gn, 0, none⟩ (.int .i64 (r : Int))) := Keep.setCell (F := fun b => B ≤ b) ((Keep.of_below HA.out).trans hv1.2) (p := ⟨gn, 0, none⟩) (.inl hBn) _
  obtain ⟨W, hW⟩ : ∃ W, w1.setCell ⟨gn, 0, none⟩ (.int .i64 (r : Int)) = W := ⟨_, rfl⟩
  rw [hW] at hw2 ht2 hvt hs2 hnn hfin hkp ⊢
  have s0 : W.cell? ⟨w.heap.size, 0, none⟩ = some (.pointer (some ⟨gt, 0, none⟩)) := (hs2.cell 0).trans rfl
  have Hw2 := Lib.hid hw2
  have Hs2 := Lib.hid hs2
  have HN := Lib.hid hnn
  have HF := Lib.hid hfin
  have HK := Lib.hid hkp
  have Ht2 := Lib.hid ht2
  have Hvt := Lib.hid hvt
  have htlt := ht2.lt
  have hslt := hs2.lt
  have hgs := Bk.ne hw2 hs2 (by decide)
  have hgn := Bk.ne hw2 hnn (by decide)
  have hgvt : gt ≠ gv := by
    rintro rfl
    obtain ⟨ga, v, ⟨_, _, h2⟩ | ⟨_, _, _, _, _, h3⟩⟩ := Ht2.out
    · exact absurd (bk_inj h2 Hw2.out).1 (by decide)
    · exact absurd (bk_inj h3.tree Hw2.out).1 (by decide)
  clear hw2 hs2 hnn hfin hkp ht2 hvt hW hw1 ht1 hn1 hv1 HA Ht Hn Hk Hw Hs s0
  go_wp2_with fail
  refine wp_region_any (by kernel_rfl) ?_
  refine wpAny_keep [9, 10, 11, 12, 13, 14, 15, 16, 17, 18] (fun b => b = gv) 10 [3, 10] (fun w2 => Bk w2 gv 82 (wcells S n v1)) (fun _ w2 => Bk w2 gv 82 (wcells S n (IntKind.i64.wrap (v1 + vt)))) [is (.pointer (some ⟨gv, 0, none⟩)), is (.pointer (some ⟨gv, 0, none⟩)), is (.pointer (some ⟨gv, 10, none⟩)), is (.int .i64 v1), is (.pointer (some ⟨w.heap.size, 0, none⟩)), is (.pointer (some ⟨gt, 0, none⟩)), is (.int .i64 vt), is (.int .i64 (IntKind.i64.wrap (v1 + vt))), is (.pointer (some ⟨gv, 0, none⟩)), is (.pointer (some ⟨gv, 10, none⟩)), anyV] _ _ rfl (by kernel_rfl) (by kernel_rfl) (Hw2.out) (fun w2 w3 h _ hg => Bk.below h hg h.lt) (fun _ _ _ h k => Bk.below h k h.lt) (by repeat' (first | exact stbk_is _ _ | exact stbk_any _ | (refine List.forall_mem_cons.2 ⟨?_, ?_⟩) | (intro p hp; cases hp))) ?_ ?_
  · refine steps_of ?_
    refine steps_cons ?_ ?_
    · refine step_on3 rfl rfl ?_
      intro ev w5 hS hU hc hf hold hval a K ha hK
      replace hS : Keep (fun b => b = gv) W w5 := ⟨hS.os, hS.tape, hS.output, hS.size, hS.block⟩
      clear hU
      have e0 : ev (.tmp 0) = .pointer (some ⟨gv, 0, none⟩) := hold 0 (by kernel_rfl)
      go_simp
      exact hK _ _ (kstep_grow (Below.refl _ _)) rfl
    refine steps_cons ?_ ?_
    · refine step_on3 rfl rfl ?_
      intro ev w5 hS hU hc hf hold hval a K ha hK
      replace hS : Keep (fun b => b = gv) W w5 := ⟨hS.os, hS.tape, hS.output, hS.size, hS.block⟩
      clear hU
      have e9 : ev (.tmp 9) = .pointer (some ⟨gv, 0, none⟩) := hval 0 9 (by kernel_rfl) rfl
      go_simp
      exact hK _ _ (kstep_grow (Below.refl _ _)) rfl
    refine steps_cons ?_ ?_
    · refine step_on3 rfl rfl ?_
      intro ev w5 hS hU hc hf hold hval a K ha hK
      replace hS : Keep (fun b => b = gv) W w5 := ⟨hS.os, hS.tape, hS.output, hS.size, hS.block⟩
      clear hU
      have e10 : ev (.tmp 10) = .pointer (some ⟨gv, 0, none⟩) := hval 1 10 (by kernel_rfl) rfl
      go_simp
      exact hK _ _ (kstep_grow (Below.refl _ _)) rfl
    refine steps_cons ?_ ?_
    · refine step_on3 rfl rfl ?_
      intro ev w5 hS hU hc hf hold hval a K ha hK
      replace hS : Keep (fun b => b = gv) W w5 := ⟨hS.os, hS.tape, hS.output, hS.size, hS.block⟩
      have hpre := hU rfl
      clear hU
      have e11 : ev (.tmp 11) = .pointer (some ⟨gv, 10, none⟩) := hval 2 11 (by kernel_rfl) rfl
      have c12 : w5.cell? ⟨gv, 10, none⟩ = some (.int .i64 v1) := (hpre.cell 10).trans (wcells_get _ _ _).2.2.2.2.2.2.2.2.2.2
      go_simp
      exact hK _ _ (kstep_grow (Below.refl _ _)) rfl
    refine steps_cons ?_ ?_
    · refine step_on3 rfl rfl ?_
      intro ev w5 hS hU hc hf hold hval a K ha hK
      replace hS : Keep (fun b => b = gv) W w5 := ⟨hS.os, hS.tape, hS.output, hS.size, hS.block⟩
      clear hU
      have e4 : ev (.tmp 4) = .pointer (some ⟨w.heap.size, 0, none⟩) := hold 4 (by kernel_rfl)
      go_simp
      exact hK _ _ (kstep_grow (Below.refl _ _)) rfl
    refine steps_cons ?_ ?_
    · refine step_on3 rfl rfl ?_
      intro ev w5 hS hU hc hf hold hval a K ha hK
      replace hS : Keep (fun b => b = gv) W w5 := ⟨hS.os, hS.tape, hS.output, hS.size, hS.block⟩
      clear hU
      have e13 : ev (.tmp 13) = .pointer (some ⟨w.heap.size, 0, none⟩) := hval 4 13 (by kernel_rfl) rfl
      have c14 : w5.cell? ⟨w.heap.size, 0, none⟩ = some (.pointer (some ⟨gt, 0, none⟩)) := ((hS.bk Hs2.out (fun h => hgs (show w.heap.size = gv from h).symm)).cell 0).trans rfl
      go_simp
      exact hK _ _ (kstep_grow (Below.refl _ _)) rfl
    refine steps_cons ?_ ?_
    · refine step_on3 rfl rfl ?_
      intro ev w5 hS hU hc hf hold hval a K ha hK
      replace hS : Keep (fun b => b = gv) W w5 := ⟨hS.os, hS.tape, hS.output, hS.size, hS.block⟩
      clear hU
      have e14 : ev (.tmp 14) = .pointer (some ⟨gt, 0, none⟩) := hval 5 14 (by kernel_rfl) rfl
      go_simp
      refine (TreeVisits_any gt vt w5 ((hS.cell htlt hgvt).trans Hvt.out)).mono ?_
      rintro e w8 ⟨rfl, hb8⟩
      exact hK _ _ (kstep_grow hb8) rfl
    refine steps_cons ?_ ?_
    · refine step_on3 rfl rfl ?_
      intro ev w5 hS hU hc hf hold hval a K ha hK
      replace hS : Keep (fun b => b = gv) W w5 := ⟨hS.os, hS.tape, hS.output, hS.size, hS.block⟩
      clear hU
      have e12 : ev (.tmp 12) = .int .i64 v1 := hval 3 12 (by kernel_rfl) rfl
      have e15 : ev (.tmp 15) = .int .i64 vt := hval 6 15 (by kernel_rfl) rfl
      go_simp
      exact hK _ _ (kstep_grow (Below.refl _ _)) rfl
    refine steps_cons ?_ ?_
    · refine step_on3 rfl rfl ?_
      intro ev w5 hS hU hc hf hold hval a K ha hK
      replace hS : Keep (fun b => b = gv) W w5 := ⟨hS.os, hS.tape, hS.output, hS.size, hS.block⟩
      clear hU
      have e9 : ev (.tmp 9) = .pointer (some ⟨gv, 0, none⟩) := hval 0 9 (by kernel_rfl) rfl
      go_simp
      exact hK _ _ (kstep_grow (Below.refl _ _)) rfl
    refine steps_cons ?_ ?_
    · refine step_on3 rfl rfl ?_
      intro ev w5 hS hU hc hf hold hval a K ha hK
      replace hS : Keep (fun b => b = gv) W w5 := ⟨hS.os, hS.tape, hS.output, hS.size, hS.block⟩
      clear hU
      have e17 : ev (.tmp 17) = .pointer (some ⟨gv, 0, none⟩) := hval 8 17 (by kernel_rfl) rfl
      go_simp
      exact hK _ _ (kstep_grow (Below.refl _ _)) rfl
    refine steps_cons ?_ ?_
    · refine step_on3 rfl rfl ?_
      intro ev w5 hS hU hc hf hold hval a K ha hK
      replace hS : Keep (fun b => b = gv) W w5 := ⟨hS.os, hS.tape, hS.output, hS.size, hS.block⟩
      have hpre := hU rfl
      clear hU
      have e18 : ev (.tmp 18) = .pointer (some ⟨gv, 10, none⟩) := hval 9 18 (by kernel_rfl) rfl
      have e16 : ev (.tmp 16) = .int .i64 (IntKind.i64.wrap (v1 + vt)) := hval 7 16 (by kernel_rfl) rfl
      have c18 : w5.cell? ⟨gv, 10, none⟩ = some (.int .i64 v1) := (hpre.cell 10).trans (wcells_get _ _ _).2.2.2.2.2.2.2.2.2.2
      have f18 := hpre.frozen 10
      go_simp
      refine hK (.bool true) _ (kstep_keep (Keep.setCell (F := fun b => b = gv) (Keep.refl _ _) (p := ⟨gv, 10, none⟩) (.inl rfl) _)) ?_
      rw [← wcells_visits S n v1]
      exact hpre.set 10 _
    exact steps_nil
  · intro ev w6 hS hval hall
    replace hS : Keep (fun b => b = gv) W w6 := ⟨hS.os, hS.tape, hS.output, hS.size, hS.block⟩
    obtain ⟨vJ, pJ⟩ : ∃ vJ0, (fun _ w2 => Bk w2 gv 82 (wcells S n (IntKind.i64.wrap (v1 + vt)))) vJ0 w6 := hall 10 (by decide)
    simp only [putsOf, List.foldl_cons, List.foldl_nil, Act.put, List.setIfInBounds_toArray, List.set_cons_zero, List.set_cons_succ]
    clear hval hall
    have hv6 := Vis.of_wave hS Hw2.out pJ
    have h1 := VisF.trans HF.out (VisF.of_vis hv6)
    have h2 := HK.out.trans (hS.mono fun b _ (e : b = gv) => by rw [e]; exact hBv)
    have h3 := hS.bk HN.out (fun e => hgn (show gn = gv from e).symm)
    have H1 := Lib.hid h1
    have H2 := Lib.hid h2
    have H3 := Lib.hid h3
    clear hv6 h1 h2 h3 pJ hS
    go_wp2_with fail
    go_end0
    exact ⟨rfl, H1.out, H2.out, H3.out⟩
end Go.Proofs.YthkkcelfgcholaaGreatDoor
namespace Go.Proofs.YthkkcelfgcholaaGreatDoor
open Go.RowKit
set_option linter.unusedVariables false
set_option linter.unusedSimpArgs false
theorem VisF.waveC {F : Nat → Prop} {w w' : World} {g : Nat} {S : Nat → Value} {n v : Int} (h : VisF F w w') (hb : Bk w g 82 (wcells S n v)) (hn : ¬ F g) : ∃ v', Bk w' g 82 (wcells S n v') := by
  rcases VisF.wave h hb hn with h1 | ⟨v', h1⟩
  · exact ⟨v, h1⟩
  · rw [wcells_visits] at h1
    exact ⟨v', h1⟩
/-- The level that a variable holds, and one more. -/
def lvlOf (x : Value) (w : World) : Nat := match x with
  | .pointer (some a) => match w.cell? a with
    | some v => (intOf v + 1).toNat
    | none => 0
  | _ => 0
theorem lvlOf_at {w : World} {a : Addr} {z : Int} (h : w.cell? a = some (.int .i64 z)) : lvlOf (.pointer (some a)) w = (z + 1).toNat := by
  show (match w.cell? a with | some v => (intOf v + 1).toNat | none => 0) = _
  rw [h]
  rfl
set_option maxRecDepth 100000 in
set_option maxHeartbeats 4000000 in
theorem WaveSelect_any (B gv : Nat) (L : List Nat) (r j s : Nat) (w : World) (h : WaveAt w B gv L) (hr : L[r]? = some s) (hj : (L.take r).count s = j) (hL : ∀ x ∈ L, x < 257) (hn : L.length ≤ 1000) (hT : TabW w) (hB0 : 0 < B) :
    Calls Tryz.prog 75 #[.pointer (some ⟨gv, 0, none⟩), .int .i64 (j : Int), .int .i64 (s : Int)] w fun e w' => e = .returned (.int .i64 (r : Int)) ∧ VB B w w' := by
  have hrl := (List.getElem?_eq_some_iff.1 hr).1
  have hrs := (List.getElem?_eq_some_iff.1 hr).2
  have hs : s < 257 := by rw [← hrs]; exact hL _ (List.getElem_mem hrl)
  have hcnt : (L.take r).count s < L.count s := by
    have h1 : L.count s = (L.take (r + 1)).count s + (L.drop (r + 1)).count s := by rw [← List.count_append, List.take_append_drop]
    have h2 : (L.take (r + 1)).count s = (L.take r).count s + 1 := by
      rw [List.take_add_one, hr, List.count_append]
      simp
    omega
  have h90 := atLv_zero L r s (Nat.le_of_lt hrl) hL hs
  have h99 := atLv_nine L r s
  rw [hj] at h99 hcnt
  have hat : ∀ lv, (bitsOf L lv (pathN s lv))[atLv L r s lv]? = some (bitB s lv) := fun lv => by
    have := bits_at L r lv hrl
    rw [hrs] at this
    exact this
  have hwA := h
  obtain ⟨hBg, S, v, hb, hrows⟩ := h
  obtain ⟨n, hnn⟩ : ∃ n, L.length = n := ⟨_, rfl⟩
  have hqq : (L.take n).count s = L.count s := by rw [← hnn, List.take_length]
  obtain ⟨q, hq⟩ : ∃ q, L.count s = q := ⟨_, rfl⟩
  rw [hq] at hqq hcnt
  rw [hnn] at hb hrl
  have hlt := hb.lt
  have hj0 : decide ((j : Int) < 0) = false := by simp
  have hbel := ((Below.refl w.heap.size w).alloc (Nat.le_refl _) (.cells #[.int .i64 (j : Int)] 3)).alloc (by simp) (.cells #[.int .i64 (s : Int)] 3)
  have hg4 := (Bk.new w 3 #[.int .i64 (j : Int)]).alloc (.cells #[.int .i64 (s : Int)] 3)
  have hg5 := Bk.new (w.alloc (.cells #[.int .i64 (j : Int)] 3)) 3 #[.int .i64 (s : Int)]
  rw [World.size_alloc] at hg5
  obtain ⟨W, hW⟩ : ∃ x, (w.alloc (.cells #[.int .i64 (j : Int)] 3)).alloc (.cells #[.int .i64 (s : Int)] 3) = x := ⟨_, rfl⟩
  obtain ⟨g4, hg4e⟩ : ∃ x, w.heap.size = x := ⟨_, rfl⟩
  obtain ⟨g5, hg5e⟩ : ∃ x, g4 + 1 = x := ⟨_, rfl⟩
  rw [hW] at hbel hg4 hg5
  rw [hg4e] at hg4
  rw [hg4e, hg5e] at hg5
  have l4 := hg4.lt
  have l5 := hg5.lt
  have Hj9 := Lib.hid h99
  have H0 := Lib.hid h90
  have HwA := Lib.hid (hwA.vis (Vis.of_below hbel))
  have Hwb := Lib.hid (hb.below hbel hlt)
  have Hwb0 := Lib.hid hb
  have Hrows := Lib.hid hrows
  have Hat := Lib.hid hat
  have HL := Lib.hid hL
  have HN := Lib.hid hnn
  have Hn1000 := Lib.hid hn
  have Hq := Lib.hid hqq
  have Hjq := Lib.hid (show ¬ q ≤ j by omega)
  have HT := Lib.hid hT
  have Hg4 := Lib.hid hg4
  have Hg5 := Lib.hid hg5
  have HW := Lib.hid hW
  have Hbel := Lib.hid hbel
  have He4 := Lib.hid hg4e
  have He5 := Lib.hid hg5e
  clear h99 h90 hwA hb hrows hat hL hnn hqq hq hcnt hj hr hrs hT hg4 hg5 hW hbel hn hrl
  go_enter Tryz.func75, Tryz.ntmps75
  go_wp2_with fail
  rw [HW.out]
  refine wp_region_any (by kernel_rfl) ?_
  refine wpAny_loose2 [8, 9, 10, 11, 12, 13, 14, 15, 16, 17, 18, 19, 20, 21, 22, 23, 24] (VB B) (Vs [is (.pointer (some ⟨gv, 0, none⟩)), is (.bool false), is (.bool false), is (.int .i64 (j : Int)), is (.bool false), is (.bool false), is (.bool false), is (.int .i64 (j : Int)), is (.pointer (some ⟨gv, 0, none⟩)), is (.pointer (some ⟨gv, 0, none⟩)), is (.pointer (some ⟨gv, 0, none⟩)), is (.pointer (some ⟨gv, 9, none⟩)), is (.int .i64 (n : Int)), is (.int .i64 (s : Int)), is (.int .i64 (q : Int)), is (.bool false), is (.bool false)]) _ _ rfl (by kernel_rfl) (VisK.refl _ _) (fun _ _ => VisK.trans) (stbs_all (by repeat' (first | exact stbs_is _ _ | exact stbs_any _ | (refine List.forall_mem_cons.2 ⟨?_, ?_⟩) | (intro p hp; cases hp)))) ?_ ?_
  · refine steps_of ?_
    refine steps_cons ?_ ?_
    · refine step_on rfl rfl ?_
      intro ev w5 hS hc hf hold hval a K ha hK
      have e0 : ev (.tmp 0) = .pointer (some ⟨gv, 0, none⟩) := hold 0 (by kernel_rfl)
      replace hS : (VB B) W w5 := ⟨⟨hS.1.os, hS.1.tape, hS.1.output, hS.1.size, hS.1.block⟩, ⟨hS.2.os, hS.2.tape, hS.2.output, hS.2.size, hS.2.block⟩⟩
      go_simp
      exact hK _ _ ((VisK.refl _ _)) rfl
    refine steps_cons ?_ ?_
    · refine step_on rfl rfl ?_
      intro ev w5 hS hc hf hold hval a K ha hK
      have e8 : ev (.tmp 8) = .pointer (some ⟨gv, 0, none⟩) := hval 0 8 (by kernel_rfl) rfl
      replace hS : (VB B) W w5 := ⟨⟨hS.1.os, hS.1.tape, hS.1.output, hS.1.size, hS.1.block⟩, ⟨hS.2.os, hS.2.tape, hS.2.output, hS.2.size, hS.2.block⟩⟩
      go_simp
      exact hK _ _ ((VisK.refl _ _)) rfl
    refine steps_cons ?_ ?_
    · refine step_on rfl rfl ?_
      intro ev w5 hS hc hf hold hval a K ha hK
      have e9 : ev (.tmp 9) = .bool false := hval 1 9 (by kernel_rfl) rfl
      replace hS : (VB B) W w5 := ⟨⟨hS.1.os, hS.1.tape, hS.1.output, hS.1.size, hS.1.block⟩, ⟨hS.2.os, hS.2.tape, hS.2.output, hS.2.size, hS.2.block⟩⟩
      go_simp
      exact hK _ _ ((VisK.refl _ _)) rfl
    refine steps_cons ?_ ?_
    · refine step_guard (d := 10) (b := false) rfl rfl rfl (by kernel_rfl) (fun _ _ _ h => h) ?_
      intro ev w5 hS hc hf hold hval a K ha hK
      have e4 : ev (.tmp 4) = .pointer (some ⟨g4, 0, none⟩) := hold 4 (by kernel_rfl)
      replace hS : (VB B) W w5 := ⟨⟨hS.1.os, hS.1.tape, hS.1.output, hS.1.size, hS.1.block⟩, ⟨hS.2.os, hS.2.tape, hS.2.output, hS.2.size, hS.2.block⟩⟩
      have k5 : w5.cell? ⟨g4, 0, none⟩ = some (.int .i64 (j : Int)) := ((hS.1.bk Hg4.out (by decide) (by decide)).cell 0).trans rfl
      go_simp
      exact hK _ _ ((VisK.refl _ _)) rfl
    refine steps_cons ?_ ?_
    · refine step_guard (d := 10) (b := false) rfl rfl rfl (by kernel_rfl) (fun _ _ _ h => h) ?_
      intro ev w5 hS hc hf hold hval a K ha hK
      have e11 : ev (.tmp 11) = .int .i64 (j : Int) := hval 3 11 (by kernel_rfl) rfl
      replace hS : (VB B) W w5 := ⟨⟨hS.1.os, hS.1.tape, hS.1.output, hS.1.size, hS.1.block⟩, ⟨hS.2.os, hS.2.tape, hS.2.output, hS.2.size, hS.2.block⟩⟩
      go_simp
      exact hK _ _ ((VisK.refl _ _)) rfl
    refine steps_cons ?_ ?_
    · refine step_on rfl rfl ?_
      intro ev w5 hS hc hf hold hval a K ha hK
      have e10 : ev (.tmp 10) = .bool false := hval 2 10 (by kernel_rfl) rfl
      have e12 : ev (.tmp 12) = .bool false := hval 4 12 (by kernel_rfl) rfl
      replace hS : (VB B) W w5 := ⟨⟨hS.1.os, hS.1.tape, hS.1.output, hS.1.size, hS.1.block⟩, ⟨hS.2.os, hS.2.tape, hS.2.output, hS.2.size, hS.2.block⟩⟩
      go_simp
      exact hK _ _ ((VisK.refl _ _)) rfl
    refine steps_cons ?_ ?_
    · refine step_on rfl rfl ?_
      intro ev w5 hS hc hf hold hval a K ha hK
      have e13 : ev (.tmp 13) = .bool false := hval 5 13 (by kernel_rfl) rfl
      replace hS : (VB B) W w5 := ⟨⟨hS.1.os, hS.1.tape, hS.1.output, hS.1.size, hS.1.block⟩, ⟨hS.2.os, hS.2.tape, hS.2.output, hS.2.size, hS.2.block⟩⟩
      go_simp
      exact hK _ _ ((VisK.refl _ _)) rfl
    refine steps_cons ?_ ?_
    · refine step_guard (d := 14) (b := false) rfl rfl rfl (by kernel_rfl) (fun _ _ _ h => h) ?_
      intro ev w5 hS hc hf hold hval a K ha hK
      have e4 : ev (.tmp 4) = .pointer (some ⟨g4, 0, none⟩) := hold 4 (by kernel_rfl)
      replace hS : (VB B) W w5 := ⟨⟨hS.1.os, hS.1.tape, hS.1.output, hS.1.size, hS.1.block⟩, ⟨hS.2.os, hS.2.tape, hS.2.output, hS.2.size, hS.2.block⟩⟩
      have k5 : w5.cell? ⟨g4, 0, none⟩ = some (.int .i64 (j : Int)) := ((hS.1.bk Hg4.out (by decide) (by decide)).cell 0).trans rfl
      go_simp
      exact hK _ _ ((VisK.refl _ _)) rfl
    refine steps_cons ?_ ?_
    · refine step_guard (d := 14) (b := false) rfl rfl rfl (by kernel_rfl) (fun _ _ _ h => h) ?_
      intro ev w5 hS hc hf hold hval a K ha hK
      have e0 : ev (.tmp 0) = .pointer (some ⟨gv, 0, none⟩) := hold 0 (by kernel_rfl)
      replace hS : (VB B) W w5 := ⟨⟨hS.1.os, hS.1.tape, hS.1.output, hS.1.size, hS.1.block⟩, ⟨hS.2.os, hS.2.tape, hS.2.output, hS.2.size, hS.2.block⟩⟩
      go_simp
      exact hK _ _ ((VisK.refl _ _)) rfl
    refine steps_cons ?_ ?_
    · refine step_guard (d := 14) (b := false) rfl rfl rfl (by kernel_rfl) (fun _ _ _ h => h) ?_
      intro ev w5 hS hc hf hold hval a K ha hK
      have e0 : ev (.tmp 0) = .pointer (some ⟨gv, 0, none⟩) := hold 0 (by kernel_rfl)
      replace hS : (VB B) W w5 := ⟨⟨hS.1.os, hS.1.tape, hS.1.output, hS.1.size, hS.1.block⟩, ⟨hS.2.os, hS.2.tape, hS.2.output, hS.2.size, hS.2.block⟩⟩
      go_simp
      exact hK _ _ ((VisK.refl _ _)) rfl
    refine steps_cons ?_ ?_
    · refine step_guard (d := 14) (b := false) rfl rfl rfl (by kernel_rfl) (fun _ _ _ h => h) ?_
      intro ev w5 hS hc hf hold hval a K ha hK
      have e17 : ev (.tmp 17) = .pointer (some ⟨gv, 0, none⟩) := hval 9 17 (by kernel_rfl) rfl
      replace hS : (VB B) W w5 := ⟨⟨hS.1.os, hS.1.tape, hS.1.output, hS.1.size, hS.1.block⟩, ⟨hS.2.os, hS.2.tape, hS.2.output, hS.2.size, hS.2.block⟩⟩
      go_simp
      exact hK _ _ ((VisK.refl _ _)) rfl
    refine steps_cons ?_ ?_
    · refine step_guard (d := 14) (b := false) rfl rfl rfl (by kernel_rfl) (fun _ _ _ h => h) ?_
      intro ev w5 hS hc hf hold hval a K ha hK
      have e18 : ev (.tmp 18) = .pointer (some ⟨gv, 0, none⟩) := hval 10 18 (by kernel_rfl) rfl
      replace hS : (VB B) W w5 := ⟨⟨hS.1.os, hS.1.tape, hS.1.output, hS.1.size, hS.1.block⟩, ⟨hS.2.os, hS.2.tape, hS.2.output, hS.2.size, hS.2.block⟩⟩
      go_simp
      exact hK _ _ ((VisK.refl _ _)) rfl
    refine steps_cons ?_ ?_
    · refine step_guard (d := 14) (b := false) rfl rfl rfl (by kernel_rfl) (fun _ _ _ h => h) ?_
      intro ev w5 hS hc hf hold hval a K ha hK
      have e19 : ev (.tmp 19) = .pointer (some ⟨gv, 9, none⟩) := hval 11 19 (by kernel_rfl) rfl
      replace hS : (VB B) W w5 := ⟨⟨hS.1.os, hS.1.tape, hS.1.output, hS.1.size, hS.1.block⟩, ⟨hS.2.os, hS.2.tape, hS.2.output, hS.2.size, hS.2.block⟩⟩
      obtain ⟨v5, hw5⟩ := hS.1.waveC Hwb.out
      have c9 : w5.cell? ⟨gv, 9, none⟩ = some (.int .i64 (n : Int)) := (hw5.cell 9).trans (wcells_get S n v5).2.2.2.2.2.2.2.2.2.1
      go_simp
      exact hK _ _ ((VisK.refl _ _)) rfl
    refine steps_cons ?_ ?_
    · refine step_guard (d := 14) (b := false) rfl rfl rfl (by kernel_rfl) (fun _ _ _ h => h) ?_
      intro ev w5 hS hc hf hold hval a K ha hK
      have e5 : ev (.tmp 5) = .pointer (some ⟨g5, 0, none⟩) := hold 5 (by kernel_rfl)
      replace hS : (VB B) W w5 := ⟨⟨hS.1.os, hS.1.tape, hS.1.output, hS.1.size, hS.1.block⟩, ⟨hS.2.os, hS.2.tape, hS.2.output, hS.2.size, hS.2.block⟩⟩
      have k5 : w5.cell? ⟨g5, 0, none⟩ = some (.int .i64 (s : Int)) := ((hS.1.bk Hg5.out (by decide) (by decide)).cell 0).trans rfl
      go_simp
      exact hK _ _ ((VisK.refl _ _)) rfl
    refine steps_cons ?_ ?_
    · refine step_guard (d := 14) (b := false) rfl rfl rfl (by kernel_rfl) (fun _ _ _ h => h) ?_
      intro ev w5 hS hc hf hold hval a K ha hK
      have e16 : ev (.tmp 16) = .pointer (some ⟨gv, 0, none⟩) := hval 8 16 (by kernel_rfl) rfl
      have e20 : ev (.tmp 20) = .int .i64 (n : Int) := hval 12 20 (by kernel_rfl) rfl
      have e21 : ev (.tmp 21) = .int .i64 (s : Int) := hval 13 21 (by kernel_rfl) rfl
      replace hS : (VB B) W w5 := ⟨⟨hS.1.os, hS.1.tape, hS.1.output, hS.1.size, hS.1.block⟩, ⟨hS.2.os, hS.2.tape, hS.2.output, hS.2.size, hS.2.block⟩⟩
      go_simp
      refine (WaveRank_any B gv L n s w5 (HwA.out.vis hS.1) hs (Nat.le_of_eq HN.out.symm) HL.out Hn1000.out).mono ?_
      rintro e w8 ⟨rfl, hv8⟩
      rw [Hq.out]
      exact hK _ _ hv8 rfl
    refine steps_cons ?_ ?_
    · refine step_guard (d := 14) (b := false) rfl rfl rfl (by kernel_rfl) (fun _ _ _ h => h) ?_
      intro ev w5 hS hc hf hold hval a K ha hK
      have e15 : ev (.tmp 15) = .int .i64 (j : Int) := hval 7 15 (by kernel_rfl) rfl
      have e22 : ev (.tmp 22) = .int .i64 (q : Int) := hval 14 22 (by kernel_rfl) rfl
      replace hS : (VB B) W w5 := ⟨⟨hS.1.os, hS.1.tape, hS.1.output, hS.1.size, hS.1.block⟩, ⟨hS.2.os, hS.2.tape, hS.2.output, hS.2.size, hS.2.block⟩⟩
      have hjq := Hjq.out
      have hjq2 : decide (q ≤ j) = false := decide_eq_false hjq
      go_simp
      exact hK _ _ ((VisK.refl _ _)) rfl
    refine steps_cons ?_ ?_
    · refine step_on rfl rfl ?_
      intro ev w5 hS hc hf hold hval a K ha hK
      have e14 : ev (.tmp 14) = .bool false := hval 6 14 (by kernel_rfl) rfl
      have e23 : ev (.tmp 23) = .bool false := hval 15 23 (by kernel_rfl) rfl
      replace hS : (VB B) W w5 := ⟨⟨hS.1.os, hS.1.tape, hS.1.output, hS.1.size, hS.1.block⟩, ⟨hS.2.os, hS.2.tape, hS.2.output, hS.2.size, hS.2.block⟩⟩
      go_simp
      exact hK _ _ ((VisK.refl _ _)) rfl
    exact steps_nil
  · intro ev w6 hS hval
    replace hS : (VB B) W w6 := ⟨⟨hS.1.os, hS.1.tape, hS.1.output, hS.1.size, hS.1.block⟩, ⟨hS.2.os, hS.2.tape, hS.2.output, hS.2.size, hS.2.block⟩⟩
    have e24 : ev (.tmp 24) = .bool false := hval 16 24 rfl
    simp only [putsOf, List.foldl_cons, List.foldl_nil, Act.put, List.setIfInBounds_toArray, List.set_cons_zero, List.set_cons_succ]
    rw [e24]
    clear hval
    have hvW : VB B w w6 := (VisK.of_below (hg4e ▸ Hbel.out)).trans hS
    have hg4 := hS.1.bk Hg4.out (by decide) (by decide)
    have hg5 := hS.1.bk Hg5.out (by decide) (by decide)
    have hs6 := hS.1.size
    obtain ⟨W6, hW6⟩ : ∃ x, x = w6 := ⟨_, rfl⟩
    subst hW6
    have h8 := Bk.new W6 3 #[.int .i64 8]
    have hg47 := hg4.alloc (.cells #[.int .i64 8] 3)
    have hg57 := hg5.alloc (.cells #[.int .i64 8] 3)
    have hv7 := hvW.alloc (.cells #[.int .i64 8] 3)
    have H8 := Lib.hid h8
    have Hg47 := Lib.hid hg47
    have Hg57 := Lib.hid hg57
    have Hv7 := Lib.hid hv7
    have hB4 : B ≤ g4 := by omega
    have hgw : w.heap.size ≤ W6.heap.size := hvW.1.size
    clear h8 hg47 hg57 hv7 hg4 hg5 hS hvW Hg4 Hg5 hj0
    go_wp2_with fail
    go_loopw [7] (fun x wr => ∃ (g7 m : Nat) (z : Int), m ≤ 9 ∧ z = (m : Int) - 1 ∧ x = .pointer (some ⟨g7, 0, none⟩) ∧ Bk wr g7 3 #[.int .i64 z] ∧ Bk wr g4 3 #[.int .i64 ((atLv L r s m : Nat) : Int)] ∧ Bk wr g5 3 #[.int .i64 (s : Int)] ∧ VB B w wr ∧ g5 < g7) (fun x wr => lvlOf x wr)
    case atStart => exact ⟨W6.heap.size, 9, 8, by omega, by omega, rfl, H8.out, by rw [Hj9.out]; exact Hg47.out, Hg57.out, Hv7.out, by omega⟩
    case round =>
      obtain ⟨g7, m9, z, hm9, hz, rfl, hg7, hgk, hg5, hv, hg57⟩ := hrel
      have c7 : wr.cell? ⟨g7, 0, none⟩ = some (.int .i64 z) := (hg7.cell 0).trans rfl
      rcases m9 with _ | lv
      · have hz0 : decide (z ≥ 0) = false := by simp; omega
        have c4 : wr.cell? ⟨g4, 0, none⟩ = some (.int .i64 ((atLv L r s 0 : Nat) : Int)) := (hgk.cell 0).trans rfl
        rw [H0.out] at c4
        have Hv := Lib.hid hv
        clear hgk hg5 hg7 hv
        go_wp2_with fail
        go_ret
        exact ⟨rfl, Hv.out⟩
      · obtain rfl : z = (lv : Int) := by omega
        have hl9 : lv < 9 := by omega
        have hz0 : decide ((lv : Int) ≥ 0) = true := by simp
        obtain ⟨G, hown, htr⟩ := Hrows.out lv hl9
        obtain ⟨m, hm⟩ : ∃ m, 2 ^ lv = m := ⟨_, rfl⟩
        obtain ⟨p, hp⟩ : ∃ p, pathN s lv = p := ⟨_, rfl⟩
        have hpm : p < m := by rw [← hm, ← hp]; exact path_lt s lv hs (by omega)
        rw [hm] at hown htr
        obtain ⟨g, cap, hSl, hnc, hgl⟩ := World.ownsRow.form hown (by omega)
        rw [hSl] at hown
        obtain ⟨x, hx⟩ : ∃ x, atLv L r s lv = x := ⟨_, rfl⟩
        obtain ⟨y, hy⟩ : ∃ y, atLv L r s (lv + 1) = y := ⟨_, rfl⟩
        have hxy := atLv_step L r s lv hl9
        have hxa := Hat.out lv
        rw [hp, hx, hy] at hxy
        rw [hp, hx] at hxa
        rw [hy] at hgk
        have hpI : (p : Int) < (m : Int) := by omega
        have hown2 := hv.1.own hown (by decide) (by decide)
        have hgw2 := hown.lt
        have hgne : ∀ b, (Value.slice (some ⟨g, 0, none⟩) m cap).ownBlock = some b → b ≠ g4 := fun b hbo => by
          have hgb : g = b := by simpa [Value.ownBlock] using hbo
          omega
        have Hgne := Lib.hid hgne
        clear hgne
        have hwb2 : ∃ v2, Bk wr gv 82 (wcells S n v2) := hv.1.waveC Hwb0.out
        obtain ⟨v2, hwb2⟩ := hwb2
        have hTr := HT.out.vb hv hB0 (by omega)
        have hwr := hv.1.size
        have Hxy := Lib.hid hxy
        have Hxa := Lib.hid hxa
        have Hown := Lib.hid hown2
        have Htr := Lib.hid (htr p hpm)
        have Hp := Lib.hid hp
        have Hx := Lib.hid hx
        have Hy := Lib.hid hy
        have Hv := Lib.hid hv
        have HSl := Lib.hid hSl
        have Hwb := Lib.hid hwb2
        have HTr := Lib.hid hTr
        have Hg7 := Lib.hid hg7
        have Hg5 := Lib.hid hg5
        have Hgk := Lib.hid hgk
        have C7 := Lib.hid c7
        obtain ⟨Wx, hWx⟩ : ∃ x, x = wr := ⟨_, rfl⟩
        subst hWx
        clear hown htr hSl hm hp hx hy hxy hxa hv hown2 hwb2 hTr hg7 hg5 hgk hz
        go_wp2_with fail
        refine wp_region_any (by kernel_rfl) ?_
        refine wpAny_vis_tail B 14 [29, 30, 31, 32, 33, 34, 35, 36, 37, 38, 39, 40, 41, 42] (fun b => b = g4) 13 [13] (fun w2 => Bk w2 g4 3 #[.int .i64 (y : Int)]) (fun _ w2 => Bk w2 g4 3 #[.int .i64 (x : Int)]) [is (.pointer (some ⟨gv, 0, none⟩)), is (.pointer (some ⟨gv, 0, none⟩)), is (.int .i64 (lv : Int)), is (.pointer (some ⟨gv, 0, none⟩)), is (.pointer (some ⟨gv, 0, none⟩)), is (.pointer (some ⟨gv, lv, none⟩)), is (.slice (some ⟨g, 0, none⟩) m cap), is (.int .i64 (s : Int)), is (.int .i64 (lv : Int)), is (.int .i64 (p : Int)), is (.pointer (some ⟨g, p * 3, none⟩)), is (.agg #[.pointer (some ⟨G p, 0, none⟩), .int .i64 (lv : Int), .int .i64 (p : Int)]), is (.func (.func 110) #[] #[.pointer (some ⟨g4, 0, none⟩), .pointer (some ⟨g5, 0, none⟩), .pointer (some ⟨g7, 0, none⟩)]), anyV] _ _ rfl (by decide) (by kernel_rfl) (by kernel_rfl) (by kernel_rfl) (Hgk.out) (fun w1 w2 h _ k => k.1.bk h (by decide) (by decide)) (fun _ _ _ h k => k.1.bk h (by decide) (by decide)) (by repeat' (first | exact stbs_is _ _ | exact stbs_any _ | (refine List.forall_mem_cons.2 ⟨?_, ?_⟩) | (intro p hp; cases hp))) ?_ ?_
        · refine steps_of_n ?_
          refine steps_cons ?_ ?_
          · refine step_on3 rfl rfl ?_
            intro ev w5 hS hU hc hf hold hval a K ha hK
            replace hS : VFB B (fun b => b = g4) Wx w5 := ⟨⟨hS.1.os, hS.1.tape, hS.1.output, hS.1.size, hS.1.block⟩, ⟨hS.2.os, hS.2.tape, hS.2.output, hS.2.size, hS.2.block⟩⟩
            clear hU
            have e0 : ev (.tmp 0) = .pointer (some ⟨gv, 0, none⟩) := hold 0 (by kernel_rfl)
            go_simp
            exact hK _ _ (vstep_vis (VisK.refl _ _)) rfl
          refine steps_cons ?_ ?_
          · refine step_on3 rfl rfl ?_
            intro ev w5 hS hU hc hf hold hval a K ha hK
            replace hS : VFB B (fun b => b = g4) Wx w5 := ⟨⟨hS.1.os, hS.1.tape, hS.1.output, hS.1.size, hS.1.block⟩, ⟨hS.2.os, hS.2.tape, hS.2.output, hS.2.size, hS.2.block⟩⟩
            clear hU
            have e0 : ev (.tmp 0) = .pointer (some ⟨gv, 0, none⟩) := hold 0 (by kernel_rfl)
            go_simp
            exact hK _ _ (vstep_vis (VisK.refl _ _)) rfl
          refine steps_cons ?_ ?_
          · refine step_on3 rfl rfl ?_
            intro ev w5 hS hU hc hf hold hval a K ha hK
            replace hS : VFB B (fun b => b = g4) Wx w5 := ⟨⟨hS.1.os, hS.1.tape, hS.1.output, hS.1.size, hS.1.block⟩, ⟨hS.2.os, hS.2.tape, hS.2.output, hS.2.size, hS.2.block⟩⟩
            clear hU
            have e7 : ev (.tmp 7) = .pointer (some ⟨g7, 0, none⟩) := hold 7 (by kernel_rfl)
            have k5 : w5.cell? ⟨g7, 0, none⟩ = some (.int .i64 (lv : Int)) := ((hS.1.bk Hg7.out (by decide) (by decide) (fun h => absurd (show g7 = g4 from h) (by omega))).cell 0).trans rfl
            go_simp
            exact hK _ _ (vstep_vis (VisK.refl _ _)) rfl
          refine steps_cons ?_ ?_
          · refine step_on3 rfl rfl ?_
            intro ev w5 hS hU hc hf hold hval a K ha hK
            replace hS : VFB B (fun b => b = g4) Wx w5 := ⟨⟨hS.1.os, hS.1.tape, hS.1.output, hS.1.size, hS.1.block⟩, ⟨hS.2.os, hS.2.tape, hS.2.output, hS.2.size, hS.2.block⟩⟩
            clear hU
            have e30 : ev (.tmp 30) = .pointer (some ⟨gv, 0, none⟩) := hval 1 30 (by kernel_rfl) rfl
            go_simp
            exact hK _ _ (vstep_vis (VisK.refl _ _)) rfl
          refine steps_cons ?_ ?_
          · refine step_on3 rfl rfl ?_
            intro ev w5 hS hU hc hf hold hval a K ha hK
            replace hS : VFB B (fun b => b = g4) Wx w5 := ⟨⟨hS.1.os, hS.1.tape, hS.1.output, hS.1.size, hS.1.block⟩, ⟨hS.2.os, hS.2.tape, hS.2.output, hS.2.size, hS.2.block⟩⟩
            clear hU
            have e32 : ev (.tmp 32) = .pointer (some ⟨gv, 0, none⟩) := hval 3 32 (by kernel_rfl) rfl
            go_simp
            exact hK _ _ (vstep_vis (VisK.refl _ _)) rfl
          refine steps_cons ?_ ?_
          · refine step_on3 rfl rfl ?_
            intro ev w5 hS hU hc hf hold hval a K ha hK
            replace hS : VFB B (fun b => b = g4) Wx w5 := ⟨⟨hS.1.os, hS.1.tape, hS.1.output, hS.1.size, hS.1.block⟩, ⟨hS.2.os, hS.2.tape, hS.2.output, hS.2.size, hS.2.block⟩⟩
            clear hU
            have e33 : ev (.tmp 33) = .pointer (some ⟨gv, 0, none⟩) := hval 4 33 (by kernel_rfl) rfl
            have e31 : ev (.tmp 31) = .int .i64 (lv : Int) := hval 2 31 (by kernel_rfl) rfl
            have hl9I : (lv : Int) < 9 := by omega
            go_simp
            exact hK _ _ (vstep_vis (VisK.refl _ _)) rfl
          refine steps_cons ?_ ?_
          · refine step_on3 rfl rfl ?_
            intro ev w5 hS hU hc hf hold hval a K ha hK
            replace hS : VFB B (fun b => b = g4) Wx w5 := ⟨⟨hS.1.os, hS.1.tape, hS.1.output, hS.1.size, hS.1.block⟩, ⟨hS.2.os, hS.2.tape, hS.2.output, hS.2.size, hS.2.block⟩⟩
            clear hU
            have e34 : ev (.tmp 34) = .pointer (some ⟨gv, lv, none⟩) := hval 5 34 (by kernel_rfl) rfl
            obtain ⟨v5, hw5⟩ := hS.1.waveC Hwb.out (fun h => absurd (show gv = g4 from h) (by omega))
            have c9 : w5.cell? ⟨gv, lv, none⟩ = some (.slice (some ⟨g, 0, none⟩) m cap) := (hw5.cell lv).trans ((wcells_at S n v5 lv hl9).trans (congrArg some HSl.out))
            go_simp
            exact hK _ _ (vstep_vis (VisK.refl _ _)) rfl
          refine steps_cons ?_ ?_
          · refine step_on3 rfl rfl ?_
            intro ev w5 hS hU hc hf hold hval a K ha hK
            replace hS : VFB B (fun b => b = g4) Wx w5 := ⟨⟨hS.1.os, hS.1.tape, hS.1.output, hS.1.size, hS.1.block⟩, ⟨hS.2.os, hS.2.tape, hS.2.output, hS.2.size, hS.2.block⟩⟩
            clear hU
            have e5 : ev (.tmp 5) = .pointer (some ⟨g5, 0, none⟩) := hold 5 (by kernel_rfl)
            have k5 : w5.cell? ⟨g5, 0, none⟩ = some (.int .i64 (s : Int)) := ((hS.1.bk Hg5.out (by decide) (by decide) (fun h => absurd (show g5 = g4 from h) (by omega))).cell 0).trans rfl
            go_simp
            exact hK _ _ (vstep_vis (VisK.refl _ _)) rfl
          refine steps_cons ?_ ?_
          · refine step_on3 rfl rfl ?_
            intro ev w5 hS hU hc hf hold hval a K ha hK
            replace hS : VFB B (fun b => b = g4) Wx w5 := ⟨⟨hS.1.os, hS.1.tape, hS.1.output, hS.1.size, hS.1.block⟩, ⟨hS.2.os, hS.2.tape, hS.2.output, hS.2.size, hS.2.block⟩⟩
            clear hU
            have e7 : ev (.tmp 7) = .pointer (some ⟨g7, 0, none⟩) := hold 7 (by kernel_rfl)
            have k5 : w5.cell? ⟨g7, 0, none⟩ = some (.int .i64 (lv : Int)) := ((hS.1.bk Hg7.out (by decide) (by decide) (fun h => absurd (show g7 = g4 from h) (by omega))).cell 0).trans rfl
            go_simp
            exact hK _ _ (vstep_vis (VisK.refl _ _)) rfl
          refine steps_cons ?_ ?_
          · refine step_on3 rfl rfl ?_
            intro ev w5 hS hU hc hf hold hval a K ha hK
            replace hS : VFB B (fun b => b = g4) Wx w5 := ⟨⟨hS.1.os, hS.1.tape, hS.1.output, hS.1.size, hS.1.block⟩, ⟨hS.2.os, hS.2.tape, hS.2.output, hS.2.size, hS.2.block⟩⟩
            clear hU
            have e36 : ev (.tmp 36) = .int .i64 (s : Int) := hval 7 36 (by kernel_rfl) rfl
            have e37 : ev (.tmp 37) = .int .i64 (lv : Int) := hval 8 37 (by kernel_rfl) rfl
            go_simp
            refine (SymPath_any s lv w5 hs (by omega)).mono ?_
            rintro e w8 ⟨rfl, hb8⟩
            rw [Hp.out]
            exact hK _ _ (vstep_vis (VisK.of_below hb8)) rfl
          refine steps_cons ?_ ?_
          · refine step_on3 rfl rfl ?_
            intro ev w5 hS hU hc hf hold hval a K ha hK
            replace hS : VFB B (fun b => b = g4) Wx w5 := ⟨⟨hS.1.os, hS.1.tape, hS.1.output, hS.1.size, hS.1.block⟩, ⟨hS.2.os, hS.2.tape, hS.2.output, hS.2.size, hS.2.block⟩⟩
            clear hU
            have e35 : ev (.tmp 35) = .slice (some ⟨g, 0, none⟩) m cap := hval 6 35 (by kernel_rfl) rfl
            have e38 : ev (.tmp 38) = .int .i64 (p : Int) := hval 9 38 (by kernel_rfl) rfl
            go_simp
            exact hK _ _ (vstep_vis (VisK.refl _ _)) rfl
          refine steps_cons ?_ ?_
          · refine step_on3 rfl rfl ?_
            intro ev w5 hS hU hc hf hold hval a K ha hK
            replace hS : VFB B (fun b => b = g4) Wx w5 := ⟨⟨hS.1.os, hS.1.tape, hS.1.output, hS.1.size, hS.1.block⟩, ⟨hS.2.os, hS.2.tape, hS.2.output, hS.2.size, hS.2.block⟩⟩
            clear hU
            have e39 : ev (.tmp 39) = .pointer (some ⟨g, p * 3, none⟩) := hval 10 39 (by kernel_rfl) rfl
            have hrow5 := own_same Hown.out fun b cs hbo hb => hS.1.bk hb (by decide) (by decide) (fun h => absurd (show b = g4 from h) (Hgne.out b hbo))
            obtain ⟨q0, q1, q2⟩ := shelfL_get G lv m p hpm
            have a0 : w5.cell? ⟨g, p * 3, none⟩ = _ := (World.ownsRow.cellAt hrow5 (p * 3) (by omega)).trans q0
            have a1 : w5.cell? ⟨g, p * 3 + 1, none⟩ = _ := (World.ownsRow.cellAt hrow5 (p * 3 + 1) (by omega)).trans q1
            have a2 : w5.cell? ⟨g, p * 3 + 2, none⟩ = _ := (World.ownsRow.cellAt hrow5 (p * 3 + 2) (by omega)).trans q2
            go_simp
            exact hK _ _ (vstep_vis (VisK.refl _ _)) rfl
          refine steps_cons ?_ ?_
          · refine step_on3 rfl rfl ?_
            intro ev w5 hS hU hc hf hold hval a K ha hK
            replace hS : VFB B (fun b => b = g4) Wx w5 := ⟨⟨hS.1.os, hS.1.tape, hS.1.output, hS.1.size, hS.1.block⟩, ⟨hS.2.os, hS.2.tape, hS.2.output, hS.2.size, hS.2.block⟩⟩
            clear hU
            have e4 : ev (.tmp 4) = .pointer (some ⟨g4, 0, none⟩) := hold 4 (by kernel_rfl)
            have e5 : ev (.tmp 5) = .pointer (some ⟨g5, 0, none⟩) := hold 5 (by kernel_rfl)
            have e7 : ev (.tmp 7) = .pointer (some ⟨g7, 0, none⟩) := hold 7 (by kernel_rfl)
            go_simp
            exact hK _ _ (vstep_vis (VisK.refl _ _)) rfl
          refine steps_cons ?_ ?_
          · refine step_on3 rfl rfl ?_
            intro ev w5 hS hU hc hf hold hval a K ha hK
            replace hS : VFB B (fun b => b = g4) Wx w5 := ⟨⟨hS.1.os, hS.1.tape, hS.1.output, hS.1.size, hS.1.block⟩, ⟨hS.2.os, hS.2.tape, hS.2.output, hS.2.size, hS.2.block⟩⟩
            have hpre := hU rfl
            clear hU
            have e29 : ev (.tmp 29) = .pointer (some ⟨gv, 0, none⟩) := hval 0 29 (by kernel_rfl) rfl
            have e40 : ev (.tmp 40) = .agg #[.pointer (some ⟨G p, 0, none⟩), .int .i64 (lv : Int), .int .i64 (p : Int)] := hval 11 40 (by kernel_rfl) rfl
            have e41 : ev (.tmp 41) = .func (.func 110) #[] #[.pointer (some ⟨g4, 0, none⟩), .pointer (some ⟨g5, 0, none⟩), .pointer (some ⟨g7, 0, none⟩)] := hval 12 41 (by kernel_rfl) rfl
            go_simp
            have hvw : Vis w w5 := (VisF.trans (VisF.of_vis Hv.out.1) hS.1).to_vis (fun b hb e => by have : b = g4 := e; omega)
            obtain ⟨v5, hw5⟩ : ∃ v5, Bk w5 gv 82 (wcells S n v5) := hvw.waveC Hwb0.out
            have hg5 := hS.1.bk Hg5.out (by decide) (by decide) (fun h => absurd (show g5 = g4 from h) (by omega))
            have hg7 := hS.1.bk Hg7.out (by decide) (by decide) (fun h => absurd (show g7 = g4 from h) (by omega))
            have hT5 : TabW w5 := fun j hj => (hS.2.cell (p := ⟨0, j, none⟩) (by show 0 < Wx.heap.size; omega) (by show ¬ (0 = g4 ∨ B ≤ 0); omega)).trans (HTr.out j hj)
            refine (LookS_any B gv (G p) g4 g5 g7 S n v5 p lv (bitsOf L lv p) x y s w w5 hw5 Htr.out.2 hvw (by omega) hpre hg5 hg7 hl9 hs Hxa.out Hxy.out hT5 hB0 hBg Htr.out.1 (by omega)).mono ?_
            rintro e w8 ⟨rfl, hf8, hk8, hb8⟩
            exact hK _ _ (vstep_at ⟨hf8, hk8.mono fun b _ h => .inr h⟩) hb8
          exact steps_nil
        · intro ev w6 f hS hval hall
          replace hS : VFB B (fun b => b = g4) Wx w6 := ⟨⟨hS.1.os, hS.1.tape, hS.1.output, hS.1.size, hS.1.block⟩, ⟨hS.2.os, hS.2.tape, hS.2.output, hS.2.size, hS.2.block⟩⟩
          obtain ⟨vJ, pJ0⟩ := hall 13 (by decide)
          have pJ : (fun _ w2 => Bk w2 g4 3 #[.int .i64 (x : Int)]) vJ w6 := pJ0
          clear pJ0 hall
          simp only [putsOf, List.foldl_cons, List.foldl_nil, Act.put, List.setIfInBounds_toArray, List.set_cons_zero, List.set_cons_succ]
          clear hval
          change wpAny Tryz.prog Region.Mode.any _ _ (0 + f) (firstN 14 14) _ w6
          refine wpAny_all (by kernel_rfl) ?_
          have hg5 := hS.1.bk Hg5.out (by decide) (by decide) (fun h => absurd (show g5 = g4 from h) (by omega))
          have hg7 := hS.1.bk Hg7.out (by decide) (by decide) (fun h => absurd (show g7 = g4 from h) (by omega))
          have hvn : VB B w w6 := ⟨(VisF.trans (VisF.of_vis Hv.out.1) hS.1).to_vis (fun b hb e => by have : b = g4 := e; omega), Hv.out.2.trans (hS.2.mono fun b _ h => by rcases h with h | h; (have : b = g4 := h; omega); exact h)⟩
          have hs6 := hS.1.size
          have c7 : w6.cell? ⟨g7, 0, none⟩ = some (.int .i64 (lv : Int)) := (hg7.cell 0).trans rfl
          have l7 := hg7.lt
          have Hg5n := Lib.hid hg5
          have Hg4n := Lib.hid pJ
          have Hvn := Lib.hid hvn
          clear hg5 hg7 hvn hS pJ
          go_wp2_with fail
          refine ⟨⟨w6.heap.size, lv, (lv : Int) - 1, by omega, rfl, rfl, Bk.new _ _ _, by rw [Hx.out]; exact Hg4n.out.alloc _, Hg5n.out.alloc _, Hvn.out.alloc _, by omega⟩, ?_⟩
          have n1 := ((Bk.new w6 3 #[.int .i64 ((lv : Int) - 1)]).cell 0)
          rw [lvlOf_at (n1.trans rfl), lvlOf_at C7.out]
          omega
end Go.Proofs.YthkkcelfgcholaaGreatDoor
namespace Go.Proofs.YthkkcelfgcholaaGreatDoor
open Go.RowKit
set_option linter.unusedVariables false
set_option linter.unusedSimpArgs false
theorem count_lt_nat {L : List Nat} {i s : Nat} (h : L[i]? = some s) : (L.take i).count s < L.count s := by
  have h1 : L.count s = (L.take (i + 1)).count s + (L.drop (i + 1)).count s := by rw [← List.count_append, List.take_append_drop]
  have h2 : (L.take (i + 1)).count s = (L.take i).count s + 1 := by
    rw [List.take_add_one, h, List.count_append]
    simp
  omega
/-- Row i's suffix begins one behind row j's, whose first symbol is s. -/
theorem on_row {t : List UInt8} {rs : List Nat} (h : IsSuf (symL t) rs) {i j p : Nat} {c : UInt8} (hi : rs[i]? = some (p + 1)) (hj : rs[j]? = some p) (hc : t[p]? = some c) :
    (lastL (symL t) rs)[i]? = some (c.toNat + 1) ∧ narL (lastL (symL t) rs) (c.toNat + 1) i = j := by
  obtain ⟨hi1, hi2⟩ := List.getElem?_eq_some_iff.1 hi
  obtain ⟨hj1, hj2⟩ := List.getElem?_eq_some_iff.1 hj
  have hp := (List.getElem?_eq_some_iff.1 hc).1
  have hg : (symL t).getD p 0 = c.toNat + 1 := by
    unfold symL symB
    rw [List.getD_eq_getElem?_getD, List.getElem?_append_left (by simpa using hp), List.getElem?_map, hc]
    rfl
  have h1 := lf h (symL_end t) hi1 hj1 hi2 hj2
  have h2 := lastL_at (symL_end t) hi1 hi2 hp
  rw [hg] at h1 h2
  exact ⟨List.getElem?_eq_some_iff.2 ⟨_, h2⟩, h1⟩
set_option maxRecDepth 100000 in
set_option maxHeartbeats 1000000 in
theorem WalkFirst_any (B gk : Nat) (L : List Nat) (i j s : Nat) (w : World) (h : WalkAt w B gk L) (his : L[i]? = some s) (hij : narL L s i = j) (hL : ∀ x ∈ L, x < 257) (hl : L.length ≤ 1000) :
    Calls Tryz.prog 35 #[.pointer (some ⟨gk, 0, none⟩), .int .i64 (j : Int)] w fun e w' => e = .returned (.int .i64 (s : Int)) ∧ Below w.heap.size w w' := by
  have hs : s < 257 := hL _ (List.mem_of_getElem? his)
  have hcl := count_lt_nat his
  have hjd : L.countP (fun x => decide (x < s)) + (L.take i).count s = j := hij
  have hjl : j < L.length := by
    have := narL_le L s L.length
    unfold narL at this
    rw [List.take_length] at this
    omega
  have hH := h
  obtain ⟨gv, gt, h1, h2, h3⟩ := h
  have c1 := h1.cell 1
  have H := Lib.hid hH
  have H3 := Lib.hid h3
  have Hj := Lib.hid hjd
  have Hc := Lib.hid hcl
  have Hjl := Lib.hid hjl
  have Hl := Lib.hid hl
  clear hH h1 h2 h3 hjd hcl hij hjl hL hl his
  go_enter Tryz.func35, Tryz.ntmps35
  go_wp2_with fail
  refine (WalkIs_any B gk L j w H.out Hjl.out).mono ?_
  rintro e w1 ⟨rfl, rfl⟩
  go_wp2_with fail
  refine (TallyWhich_any gt L j s _ H3.out hs (by have := Hj.out; omega) (by have := Hj.out; have := Hc.out; omega) Hl.out).mono ?_
  rintro e w' ⟨rfl, hb⟩
  go_wp2_with fail
  go_ret
  exact ⟨rfl, hb⟩
set_option maxRecDepth 100000 in
theorem SymByte_any (c : UInt8) (s : Nat) (hs : s = c.toNat + 1) (w : World) :
    Calls Tryz.prog 34 #[.int .i64 (s : Int)] w fun e w' => e = .returned (.tuple #[bv c, .bool true]) ∧ Below w.heap.size w w' := by
  have hc := c.toNat_lt
  have e0 : ¬ ((s : Int) = 0) := by omega
  have e1 : ((s : Int) == 0) = false := by rw [beq_eq_false_iff_ne]; omega
  have e2 : IntKind.i64.wrap ((s : Int) - 1) = (c.toNat : Int) := by rw [IntKind.wrap_i64]; omega
  have e3 : IntKind.u8.wrap (c.toNat : Int) = (c.toNat : Int) := by rw [IntKind.wrap_u8]; omega
  have e4 : ¬ s = 0 := by omega
  have e5 : decide (s = 0) = false := decide_eq_false e4
  have hs257 : s < 257 := by omega
  clear hs hc
  go_enter Tryz.func34, Tryz.ntmps34
  go_wp2_with fail
  refine (SymIs_any s w hs257).mono ?_
  rintro e w1 ⟨rfl, hb⟩
  go_wp2_with fail
  go_ret2
  exact ⟨rfl, hb⟩
set_option maxRecDepth 100000 in
set_option maxHeartbeats 2000000 in
theorem WalkOn_any (B gk : Nat) (L : List Nat) (i j s : Nat) (w : World) (h : WalkAt w B gk L) (his : L[i]? = some s) (hij : narL L s i = j) (hL : ∀ x ∈ L, x < 257) (hl : L.length ≤ 1000) (hT : TabW w) (hB0 : 0 < B) :
    Calls Tryz.prog 36 #[.pointer (some ⟨gk, 0, none⟩), .int .i64 (j : Int)] w fun e w' => e = .returned (.int .i64 (i : Int)) ∧ VB B w w' := by
  have hs : s < 257 := hL _ (List.mem_of_getElem? his)
  have hfirst := WalkFirst_any B gk L i j s w h his hij hL hl
  obtain ⟨q, hq⟩ : ∃ q, L.countP (fun x => decide (x < s)) = q := ⟨_, rfl⟩
  obtain ⟨c, hc⟩ : ∃ q, (L.take i).count s = q := ⟨_, rfl⟩
  have hjd : q + c = j := by rw [← hq, ← hc]; exact hij
  have hb1 : q ≤ 1000 := by rw [← hq]; exact Nat.le_trans List.countP_le_length hl
  have hb2 : c ≤ 1000 := by rw [← hc]; exact Nat.le_trans List.count_le_length (by rw [List.length_take]; omega)
  have hH := h
  obtain ⟨gv, gt, h1, h2, h3⟩ := h
  have hlt := h1.lt
  have H := Lib.hid hH
  have H1 := Lib.hid h1
  have H2 := Lib.hid h2
  have His := Lib.hid his
  have HL := Lib.hid hL
  have Hl := Lib.hid hl
  have Hq := Lib.hid hq
  have Hc := Lib.hid hc
  have Hj := Lib.hid hjd
  have HT := Lib.hid hT
  clear hH h1 h2 h3 his hL hl hq hc hij hjd hT
  have hs0 : decide ((s : Int) < 0) = false := by simp
  go_enter Tryz.func36, Tryz.ntmps36
  go_wp2_with fail
  refine hfirst.mono ?_
  rintro e W ⟨rfl, hb⟩
  clear hfirst
  have hv : VB B w W := VisK.of_below hb
  have HW := Lib.hid (H.out.vis hv.1)
  have H1W := Lib.hid (hv.1.bk H1.out (by decide) (by decide))
  have H2W := Lib.hid (H2.out.vis hv.1)
  have HTW := Lib.hid (HT.out.vb hv hB0 HT.out.pos)
  have hsz := hv.1.size
  have Hv := Lib.hid hv
  clear hv hb
  go_wp2_with fail
  refine wp_region_any (by kernel_rfl) ?_
  refine wpAny_loose2 [11, 12, 13, 14, 15, 16, 17, 18, 19, 20, 21, 4] (VB B) (Vs [is (.pointer (some ⟨gk, 0, none⟩)), is (.pointer (some ⟨gk, 0, none⟩)), is (.pointer (some ⟨gk, 0, none⟩)), is (.pointer (some ⟨gv, 0, none⟩)), is (.int .i64 (j : Int)), is (.pointer (some ⟨gk, 0, none⟩)), is (.int .i64 (s : Int)), is (.int .i64 (q : Int)), is (.int .i64 (c : Int)), is (.int .i64 (s : Int)), is (.int .i64 (i : Int)), is (.int .i64 (i : Int))]) _ _ rfl (by kernel_rfl) (VisK.refl _ _) (fun _ _ => VisK.trans) (stbs_all (by repeat' (first | exact stbs_is _ _ | exact stbs_any _ | (refine List.forall_mem_cons.2 ⟨?_, ?_⟩) | (intro p hp; cases hp)))) ?_ ?_
  · refine steps_of ?_
    refine steps_cons ?_ ?_
    · refine step_on rfl rfl ?_
      intro ev w5 hS hc hf hold hval a K ha hK
      have e0 : ev (.tmp 0) = .pointer (some ⟨gk, 0, none⟩) := hold 0 (by kernel_rfl)
      replace hS : (VB B) W w5 := ⟨⟨hS.1.os, hS.1.tape, hS.1.output, hS.1.size, hS.1.block⟩, ⟨hS.2.os, hS.2.tape, hS.2.output, hS.2.size, hS.2.block⟩⟩
      go_simp
      exact hK _ _ ((VisK.refl _ _)) rfl
    refine steps_cons ?_ ?_
    · refine step_on rfl rfl ?_
      intro ev w5 hS hc hf hold hval a K ha hK
      have e11 : ev (.tmp 11) = .pointer (some ⟨gk, 0, none⟩) := hval 0 11 (by kernel_rfl) rfl
      replace hS : (VB B) W w5 := ⟨⟨hS.1.os, hS.1.tape, hS.1.output, hS.1.size, hS.1.block⟩, ⟨hS.2.os, hS.2.tape, hS.2.output, hS.2.size, hS.2.block⟩⟩
      go_simp
      exact hK _ _ ((VisK.refl _ _)) rfl
    refine steps_cons ?_ ?_
    · refine step_on rfl rfl ?_
      intro ev w5 hS hc hf hold hval a K ha hK
      have e12 : ev (.tmp 12) = .pointer (some ⟨gk, 0, none⟩) := hval 1 12 (by kernel_rfl) rfl
      replace hS : (VB B) W w5 := ⟨⟨hS.1.os, hS.1.tape, hS.1.output, hS.1.size, hS.1.block⟩, ⟨hS.2.os, hS.2.tape, hS.2.output, hS.2.size, hS.2.block⟩⟩
      go_simp
      exact hK _ _ ((VisK.refl _ _)) rfl
    refine steps_cons ?_ ?_
    · refine step_on rfl rfl ?_
      intro ev w5 hS hc hf hold hval a K ha hK
      have e13 : ev (.tmp 13) = .pointer (some ⟨gk, 0, none⟩) := hval 2 13 (by kernel_rfl) rfl
      replace hS : (VB B) W w5 := ⟨⟨hS.1.os, hS.1.tape, hS.1.output, hS.1.size, hS.1.block⟩, ⟨hS.2.os, hS.2.tape, hS.2.output, hS.2.size, hS.2.block⟩⟩
      have c26 : w5.cell? ⟨gk, 0, none⟩ = some (.pointer (some ⟨gv, 0, none⟩)) := ((hS.1.bk H1W.out (by decide) (by decide)).cell 0).trans rfl
      go_simp
      exact hK _ _ ((VisK.refl _ _)) rfl
    refine steps_cons ?_ ?_
    · refine step_on rfl rfl ?_
      intro ev w5 hS hc hf hold hval a K ha hK
      have e1 : ev (.tmp 1) = .int .i64 (j : Int) := hold 1 (by kernel_rfl)
      replace hS : (VB B) W w5 := ⟨⟨hS.1.os, hS.1.tape, hS.1.output, hS.1.size, hS.1.block⟩, ⟨hS.2.os, hS.2.tape, hS.2.output, hS.2.size, hS.2.block⟩⟩
      go_simp
      exact hK _ _ ((VisK.refl _ _)) rfl
    refine steps_cons ?_ ?_
    · refine step_on rfl rfl ?_
      intro ev w5 hS hc hf hold hval a K ha hK
      have e0 : ev (.tmp 0) = .pointer (some ⟨gk, 0, none⟩) := hold 0 (by kernel_rfl)
      replace hS : (VB B) W w5 := ⟨⟨hS.1.os, hS.1.tape, hS.1.output, hS.1.size, hS.1.block⟩, ⟨hS.2.os, hS.2.tape, hS.2.output, hS.2.size, hS.2.block⟩⟩
      go_simp
      exact hK _ _ ((VisK.refl _ _)) rfl
    refine steps_cons ?_ ?_
    · refine step_on rfl rfl ?_
      intro ev w5 hS hc hf hold hval a K ha hK
      have e5 : ev (.tmp 5) = .int .i64 (s : Int) := hold 5 (by kernel_rfl)
      replace hS : (VB B) W w5 := ⟨⟨hS.1.os, hS.1.tape, hS.1.output, hS.1.size, hS.1.block⟩, ⟨hS.2.os, hS.2.tape, hS.2.output, hS.2.size, hS.2.block⟩⟩
      go_simp
      exact hK _ _ ((VisK.refl _ _)) rfl
    refine steps_cons ?_ ?_
    · refine step_on rfl rfl ?_
      intro ev w5 hS hc hf hold hval a K ha hK
      have e16 : ev (.tmp 16) = .pointer (some ⟨gk, 0, none⟩) := hval 5 16 (by kernel_rfl) rfl
      have e17 : ev (.tmp 17) = .int .i64 (s : Int) := hval 6 17 (by kernel_rfl) rfl
      replace hS : (VB B) W w5 := ⟨⟨hS.1.os, hS.1.tape, hS.1.output, hS.1.size, hS.1.block⟩, ⟨hS.2.os, hS.2.tape, hS.2.output, hS.2.size, hS.2.block⟩⟩
      go_simp
      refine (WalkBelow_any B gk L s w5 (HW.out.vis hS.1) hs Hl.out).mono ?_
      rintro e w8 ⟨rfl, hb8⟩
      rw [Hq.out]
      exact hK _ _ (VisK.of_below hb8) rfl
    refine steps_cons ?_ ?_
    · refine step_on rfl rfl ?_
      intro ev w5 hS hc hf hold hval a K ha hK
      have e15 : ev (.tmp 15) = .int .i64 (j : Int) := hval 4 15 (by kernel_rfl) rfl
      have e18 : ev (.tmp 18) = .int .i64 (q : Int) := hval 7 18 (by kernel_rfl) rfl
      replace hS : (VB B) W w5 := ⟨⟨hS.1.os, hS.1.tape, hS.1.output, hS.1.size, hS.1.block⟩, ⟨hS.2.os, hS.2.tape, hS.2.output, hS.2.size, hS.2.block⟩⟩
      have hx1 : IntKind.i64.wrap ((j : Int) - (q : Int)) = (c : Int) := by rw [IntKind.wrap_i64]; have := Hj.out; omega
      go_simp
      exact hK _ _ ((VisK.refl _ _)) rfl
    refine steps_cons ?_ ?_
    · refine step_on rfl rfl ?_
      intro ev w5 hS hc hf hold hval a K ha hK
      have e5 : ev (.tmp 5) = .int .i64 (s : Int) := hold 5 (by kernel_rfl)
      replace hS : (VB B) W w5 := ⟨⟨hS.1.os, hS.1.tape, hS.1.output, hS.1.size, hS.1.block⟩, ⟨hS.2.os, hS.2.tape, hS.2.output, hS.2.size, hS.2.block⟩⟩
      go_simp
      exact hK _ _ ((VisK.refl _ _)) rfl
    refine steps_cons ?_ ?_
    · refine step_on rfl rfl ?_
      intro ev w5 hS hc hf hold hval a K ha hK
      have e14 : ev (.tmp 14) = .pointer (some ⟨gv, 0, none⟩) := hval 3 14 (by kernel_rfl) rfl
      have e19 : ev (.tmp 19) = .int .i64 (c : Int) := hval 8 19 (by kernel_rfl) rfl
      have e20 : ev (.tmp 20) = .int .i64 (s : Int) := hval 9 20 (by kernel_rfl) rfl
      replace hS : (VB B) W w5 := ⟨⟨hS.1.os, hS.1.tape, hS.1.output, hS.1.size, hS.1.block⟩, ⟨hS.2.os, hS.2.tape, hS.2.output, hS.2.size, hS.2.block⟩⟩
      go_simp
      refine (WaveSelect_any B gv L i c s w5 (H2W.out.vis hS.1) His.out Hc.out HL.out Hl.out (HTW.out.vb hS hB0 HTW.out.pos) hB0).mono ?_
      rintro e w8 ⟨rfl, hv8⟩
      exact hK _ _ hv8 rfl
    refine steps_cons ?_ ?_
    · refine step_on rfl rfl ?_
      intro ev w5 hS hc hf hold hval a K ha hK
      have e21 : ev (.tmp 21) = .int .i64 (i : Int) := hval 10 21 (by kernel_rfl) rfl
      replace hS : (VB B) W w5 := ⟨⟨hS.1.os, hS.1.tape, hS.1.output, hS.1.size, hS.1.block⟩, ⟨hS.2.os, hS.2.tape, hS.2.output, hS.2.size, hS.2.block⟩⟩
      go_simp
      exact hK _ _ ((VisK.refl _ _)) rfl
    exact steps_nil
  · intro ev w6 hS hval
    replace hS : (VB B) W w6 := ⟨⟨hS.1.os, hS.1.tape, hS.1.output, hS.1.size, hS.1.block⟩, ⟨hS.2.os, hS.2.tape, hS.2.output, hS.2.size, hS.2.block⟩⟩
    have e4 : ev (.tmp 4) = .int .i64 (i : Int) := hval 11 4 rfl
    simp only [putsOf, List.foldl_cons, List.foldl_nil, Act.put, List.setIfInBounds_toArray, List.set_cons_zero, List.set_cons_succ]
    rw [e4]
    clear hval
    have hv6 := Hv.out.trans hS
    go_wp2_with fail
    go_ret
    exact ⟨rfl, hv6⟩
end Go.Proofs.YthkkcelfgcholaaGreatDoor
