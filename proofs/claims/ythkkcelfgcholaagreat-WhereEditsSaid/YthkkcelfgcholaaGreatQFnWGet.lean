/- The walks of the wave's Get: its closure, and look with it. Conditions: none. -/
import Derived.Test.YthkkcelfgcholaaGreatQFnGet
import Derived.Test.YthkkcelfgcholaaGreatPkG
import Derived.Test.YthkkcelfgcholaaGreatQFnLF
import Derived.Test.YthkkcelfgcholaaGreatPkI
namespace Go.Proofs.YthkkcelfgcholaaGreat
open Go.RowKit
set_option linter.unusedVariables false
set_option linter.unusedSimpArgs false
set_option maxRecDepth 100000 in
theorem Get1_any (gt gk gn : Nat) (lv p : Int) (x : Value) (bs : List Bool) (k : Nat) (w : World) (ht : TreeAt w gt bs) (hk : Bk w gk 3 #[.int .i64 (k : Int)]) (hn : Bk w gn 4 #[x]) (hkl : k < bs.length) :
    Calls Tryz.prog 55 #[.agg #[.pointer (some ⟨gt, 0, none⟩), .int .i64 lv, .int .i64 p], .pointer (some ⟨gk, 0, none⟩), .pointer (some ⟨gn, 0, none⟩)] w fun e w' => e = .returned (.tuple #[]) ∧
      ∃ w1, VisK (fun b => b = gt) w w1 ∧ Bk w1 gn 4 #[x] ∧ w' = w1.setCell ⟨gn, 0, none⟩ (.bool (bs.getD k false)) := by
  have c1 : w.cell? ⟨gk, 0, none⟩ = some (.int .i64 (k : Int)) := (hk.cell 0).trans rfl
  have l1 := hk.lt
  have l3 := hn.lt
  obtain ⟨bb, hbb⟩ : ∃ b, bs.getD k false = b := ⟨_, rfl⟩
  rw [hbb]
  have Hbb := Lib.hid hbb
  have Ht := Lib.hid ht
  have Hn := Lib.hid hn
  have Hkl := Lib.hid hkl
  clear ht hk hn hbb hkl
  go_enter Tryz.func55, Tryz.ntmps55
  go_wp2_with fail
  refine (TreeGet_any gt bs k _ (Ht.out.below ((Below.refl _ _).alloc (Nat.le_refl _) _)) Hkl.out).mono ?_
  rintro e w1 ⟨rfl, hv⟩
  rw [Hbb.out]
  have hv0 : VisK (fun b => b = gt) w w1 := (VisK.of_below ((Below.refl _ _).alloc (Nat.le_refl _) _)).trans hv
  have hn1 := hv0.1.bk Hn.out (by decide) (by decide)
  have c3 : w1.cell? ⟨gn, 0, none⟩ = some x := (hn1.cell 0).trans rfl
  have f3 := hn1.frozen 0
  have HV := Lib.hid hv0
  have Hn1 := Lib.hid hn1
  clear hv hv0 hn1
  go_wp2_with fail
  go_end0
  exact ⟨rfl, w1, HV.out, Hn1.out, rfl⟩
set_option maxRecDepth 100000 in
set_option maxHeartbeats 1000000 in
theorem LookG_any (gv gt gk gn : Nat) (S : Nat → Value) (n v lv p : Int) (x : Value) (bs : List Bool) (k : Nat) (w0 w : World) (hw : Bk w gv 82 (wcells S n v)) (ht0 : TreeAt w0 gt bs) (hv0 : Vis w0 w) (hg0 : w0.heap.size ≤ gn) (hk : Bk w gk 3 #[.int .i64 (k : Int)]) (hn : Bk w gn 4 #[x]) (hkl : k < bs.length) :
    Calls Tryz.prog 54 #[.pointer (some ⟨gv, 0, none⟩), .agg #[.pointer (some ⟨gt, 0, none⟩), .int .i64 lv, .int .i64 p], .func (.func 55) #[] #[.pointer (some ⟨gk, 0, none⟩), .pointer (some ⟨gn, 0, none⟩)]] w fun e w' => e = .returned (.tuple #[]) ∧
      VisF (fun b => b = gn) w w' ∧ Keep (fun b => b = gv ∨ b = gt ∨ b = gn) w w' ∧ Bk w' gn 4 #[.bool (bs.getD k false)] := by
  have ht := ht0.vis hv0
  obtain ⟨bb, hbb⟩ : ∃ b, bs.getD k false = b := ⟨_, rfl⟩
  rw [hbb]
  have Hbb := Lib.hid hbb
  have Ht0 := Lib.hid ht0
  have HV0 := Lib.hid hv0
  clear hbb ht0 hv0
  obtain ⟨o, ho⟩ : ∃ o, Obj.cells #[.pointer (some ⟨gt, 0, none⟩), .int .i64 lv, .int .i64 p] 85 = o := ⟨_, rfl⟩
  have hal := (Below.refl w.heap.size w).alloc (Nat.le_refl _) o
  have hs1 := Bk.new w 85 #[.pointer (some ⟨gt, 0, none⟩), .int .i64 lv, .int .i64 p]
  rw [ho] at hs1
  have l1 := hk.lt
  have l3 := hn.lt
  have l4 := hw.lt
  have n1 := Bk.ne hn hw (by decide)
  have Ht := Lib.hid ht
  have Hn := Lib.hid hn
  have Hk := Lib.hid hk
  have Hw := Lib.hid hw
  have HA := Lib.hid hal
  have Hs := Lib.hid hs1
  have Ho := Lib.hid ho
  clear ht hk hn hw hal hs1 ho
  go_enter Tryz.func54, Tryz.ntmps54
  go_wp2_with fail
  rw [Ho.out]
  refine (Get1_any gt gk gn lv p x bs k _ (Ht.out.below HA.out) (Hk.out.alloc _) (Hn.out.alloc _) hkl).mono ?_
  rintro e w2 ⟨rfl, w1, hv1, hn1, rfl⟩
  rw [Hbb.out]
  obtain ⟨v1, hw1⟩ := ((Vis.of_below HA.out).trans hv1.1).waveC Hw.out
  have hw2 := hw1.far (p := ⟨gn, 0, none⟩) (fun h => n1 h.symm) (.bool bb)
  have ht1 := Ht.out.vis ((Vis.of_below HA.out).trans hv1.1)
  have ht2 : TreeAt (w1.setCell ⟨gn, 0, none⟩ (.bool bb)) gt bs := Ht0.out.vis (((HV0.out.trans (Vis.of_below HA.out)).trans hv1.1).fresh (p := ⟨gn, 0, none⟩) hg0 _)
  obtain ⟨vt, hvt⟩ := ht2.visits
  have hs2 := (hv1.1.bk Hs.out (by decide) (by decide)).far (p := ⟨gn, 0, none⟩) (fun h => absurd (show w.heap.size = gn from h) (by omega)) (.bool bb)
  have hnn := hn1.set 0 (.bool bb)
  have hfin : VisF (fun b => b = gn) w (w1.setCell ⟨gn, 0, none⟩ (.bool bb)) := VisF.put (F := fun b => b = gn) (VisF.of_vis ((Vis.of_below HA.out).trans hv1.1)) (p := ⟨gn, 0, none⟩) (.inl rfl) _
  have hkp : Keep (fun b => b = gv ∨ b = gt ∨ b = gn) w (w1.setCell ⟨gn, 0, none⟩ (.bool bb)) := Keep.setCell (F := fun b => b = gv ∨ b = gt ∨ b = gn) ((Keep.of_below HA.out).trans (hv1.2.mono fun b _ e => .inr (.inl e))) (p := ⟨gn, 0, none⟩) (.inl (.inr (.inr rfl))) _
  obtain ⟨W, hW⟩ : ∃ W, w1.setCell ⟨gn, 0, none⟩ (.bool bb) = W := ⟨_, rfl⟩
  rw [hW] at hw2 ht2 hvt hs2 hnn hfin hkp ⊢
  have s0 : W.cell? ⟨w.heap.size, 0, none⟩ = some (.pointer (some ⟨gt, 0, none⟩)) := (hs2.cell 0).trans rfl
  have Hw2 := Lib.hid hw2
  have Hs2 := Lib.hid hs2
  have HN := Lib.hid hnn
  have HF := Lib.hid hfin
  have HK := Lib.hid hkp
  have Ht2 := Lib.hid ht2
  have Hvt := Lib.hid hvt
  have htlt := ht2.lt
  have hslt := hs2.lt
  have hgs := Bk.ne hw2 hs2 (by decide)
  have hgn := Bk.ne hw2 hnn (by decide)
  have hgvt : gt ≠ gv := by
    rintro rfl
    obtain ⟨ga, v, ⟨_, _, h2⟩ | ⟨_, _, _, _, _, h3⟩⟩ := Ht2.out
    · exact absurd (bk_inj h2 Hw2.out).1 (by decide)
    · exact absurd (bk_inj h3.tree Hw2.out).1 (by decide)
  clear hw2 hs2 hnn hfin hkp ht2 hvt hW hw1 ht1 hn1 hv1 HA Ht Hn Hk Hw Hs s0
  go_wp2_with fail
  refine wp_region_any (by kernel_rfl) ?_
  refine wpAny_keep [9, 10, 11, 12, 13, 14, 15, 16, 17, 18] (fun b => b = gv) 10 [3, 10] (fun w2 => Bk w2 gv 82 (wcells S n v1)) (fun _ w2 => Bk w2 gv 82 (wcells S n (IntKind.i64.wrap (v1 + vt)))) [is (.pointer (some ⟨gv, 0, none⟩)), is (.pointer (some ⟨gv, 0, none⟩)), is (.pointer (some ⟨gv, 10, none⟩)), is (.int .i64 v1), is (.pointer (some ⟨w.heap.size, 0, none⟩)), is (.pointer (some ⟨gt, 0, none⟩)), is (.int .i64 vt), is (.int .i64 (IntKind.i64.wrap (v1 + vt))), is (.pointer (some ⟨gv, 0, none⟩)), is (.pointer (some ⟨gv, 10, none⟩)), anyV] _ _ rfl (by kernel_rfl) (by kernel_rfl) (Hw2.out) (fun w2 w3 h _ hg => Bk.below h hg h.lt) (fun _ _ _ h k => Bk.below h k h.lt) (by repeat' (first | exact stbk_is _ _ | exact stbk_any _ | (refine List.forall_mem_cons.2 ⟨?_, ?_⟩) | (intro p hp; cases hp))) ?_ ?_
  · refine steps_of ?_
    refine steps_cons ?_ ?_
    · refine step_on3 rfl rfl ?_
      intro ev w5 hS hU hc hf hold hval a K ha hK
      replace hS : Keep (fun b => b = gv) W w5 := ⟨hS.os, hS.tape, hS.output, hS.size, hS.block⟩
      clear hU
      have e0 : ev (.tmp 0) = .pointer (some ⟨gv, 0, none⟩) := hold 0 (by kernel_rfl)
      go_simp
      exact hK _ _ (kstep_grow (Below.refl _ _)) rfl
    refine steps_cons ?_ ?_
    · refine step_on3 rfl rfl ?_
      intro ev w5 hS hU hc hf hold hval a K ha hK
      replace hS : Keep (fun b => b = gv) W w5 := ⟨hS.os, hS.tape, hS.output, hS.size, hS.block⟩
      clear hU
      have e9 : ev (.tmp 9) = .pointer (some ⟨gv, 0, none⟩) := hval 0 9 (by kernel_rfl) rfl
      go_simp
      exact hK _ _ (kstep_grow (Below.refl _ _)) rfl
    refine steps_cons ?_ ?_
    · refine step_on3 rfl rfl ?_
      intro ev w5 hS hU hc hf hold hval a K ha hK
      replace hS : Keep (fun b => b = gv) W w5 := ⟨hS.os, hS.tape, hS.output, hS.size, hS.block⟩
      clear hU
      have e10 : ev (.tmp 10) = .pointer (some ⟨gv, 0, none⟩) := hval 1 10 (by kernel_rfl) rfl
      go_simp
      exact hK _ _ (kstep_grow (Below.refl _ _)) rfl
    refine steps_cons ?_ ?_
    · refine step_on3 rfl rfl ?_
      intro ev w5 hS hU hc hf hold hval a K ha hK
      replace hS : Keep (fun b => b = gv) W w5 := ⟨hS.os, hS.tape, hS.output, hS.size, hS.block⟩
      have hpre := hU rfl
      clear hU
      have e11 : ev (.tmp 11) = .pointer (some ⟨gv, 10, none⟩) := hval 2 11 (by kernel_rfl) rfl
      have c12 : w5.cell? ⟨gv, 10, none⟩ = some (.int .i64 v1) := (hpre.cell 10).trans (wcells_get _ _ _).2.2.2.2.2.2.2.2.2.2
      go_simp
      exact hK _ _ (kstep_grow (Below.refl _ _)) rfl
    refine steps_cons ?_ ?_
    · refine step_on3 rfl rfl ?_
      intro ev w5 hS hU hc hf hold hval a K ha hK
      replace hS : Keep (fun b => b = gv) W w5 := ⟨hS.os, hS.tape, hS.output, hS.size, hS.block⟩
      clear hU
      have e4 : ev (.tmp 4) = .pointer (some ⟨w.heap.size, 0, none⟩) := hold 4 (by kernel_rfl)
      go_simp
      exact hK _ _ (kstep_grow (Below.refl _ _)) rfl
    refine steps_cons ?_ ?_
    · refine step_on3 rfl rfl ?_
      intro ev w5 hS hU hc hf hold hval a K ha hK
      replace hS : Keep (fun b => b = gv) W w5 := ⟨hS.os, hS.tape, hS.output, hS.size, hS.block⟩
      clear hU
      have e13 : ev (.tmp 13) = .pointer (some ⟨w.heap.size, 0, none⟩) := hval 4 13 (by kernel_rfl) rfl
      have c14 : w5.cell? ⟨w.heap.size, 0, none⟩ = some (.pointer (some ⟨gt, 0, none⟩)) := ((hS.bk Hs2.out (fun h => hgs (show w.heap.size = gv from h).symm)).cell 0).trans rfl
      go_simp
      exact hK _ _ (kstep_grow (Below.refl _ _)) rfl
    refine steps_cons ?_ ?_
    · refine step_on3 rfl rfl ?_
      intro ev w5 hS hU hc hf hold hval a K ha hK
      replace hS : Keep (fun b => b = gv) W w5 := ⟨hS.os, hS.tape, hS.output, hS.size, hS.block⟩
      clear hU
      have e14 : ev (.tmp 14) = .pointer (some ⟨gt, 0, none⟩) := hval 5 14 (by kernel_rfl) rfl
      go_simp
      refine (TreeVisits_any gt vt w5 ((hS.cell htlt hgvt).trans Hvt.out)).mono ?_
      rintro e w8 ⟨rfl, hb8⟩
      exact hK _ _ (kstep_grow hb8) rfl
    refine steps_cons ?_ ?_
    · refine step_on3 rfl rfl ?_
      intro ev w5 hS hU hc hf hold hval a K ha hK
      replace hS : Keep (fun b => b = gv) W w5 := ⟨hS.os, hS.tape, hS.output, hS.size, hS.block⟩
      clear hU
      have e12 : ev (.tmp 12) = .int .i64 v1 := hval 3 12 (by kernel_rfl) rfl
      have e15 : ev (.tmp 15) = .int .i64 vt := hval 6 15 (by kernel_rfl) rfl
      go_simp
      exact hK _ _ (kstep_grow (Below.refl _ _)) rfl
    refine steps_cons ?_ ?_
    · refine step_on3 rfl rfl ?_
      intro ev w5 hS hU hc hf hold hval a K ha hK
      replace hS : Keep (fun b => b = gv) W w5 := ⟨hS.os, hS.tape, hS.output, hS.size, hS.block⟩
      clear hU
      have e9 : ev (.tmp 9) = .pointer (some ⟨gv, 0, none⟩) := hval 0 9 (by kernel_rfl) rfl
      go_simp
      exact hK _ _ (kstep_grow (Below.refl _ _)) rfl
    refine steps_cons ?_ ?_
    · refine step_on3 rfl rfl ?_
      intro ev w5 hS hU hc hf hold hval a K ha hK
      replace hS : Keep (fun b => b = gv) W w5 := ⟨hS.os, hS.tape, hS.output, hS.size, hS.block⟩
      clear hU
      have e17 : ev (.tmp 17) = .pointer (some ⟨gv, 0, none⟩) := hval 8 17 (by kernel_rfl) rfl
      go_simp
      exact hK _ _ (kstep_grow (Below.refl _ _)) rfl
    refine steps_cons ?_ ?_
    · refine step_on3 rfl rfl ?_
      intro ev w5 hS hU hc hf hold hval a K ha hK
      replace hS : Keep (fun b => b = gv) W w5 := ⟨hS.os, hS.tape, hS.output, hS.size, hS.block⟩
      have hpre := hU rfl
      clear hU
      have e18 : ev (.tmp 18) = .pointer (some ⟨gv, 10, none⟩) := hval 9 18 (by kernel_rfl) rfl
      have e16 : ev (.tmp 16) = .int .i64 (IntKind.i64.wrap (v1 + vt)) := hval 7 16 (by kernel_rfl) rfl
      have c18 : w5.cell? ⟨gv, 10, none⟩ = some (.int .i64 v1) := (hpre.cell 10).trans (wcells_get _ _ _).2.2.2.2.2.2.2.2.2.2
      have f18 := hpre.frozen 10
      go_simp
      refine hK (.bool true) _ (kstep_keep (Keep.setCell (F := fun b => b = gv) (Keep.refl _ _) (p := ⟨gv, 10, none⟩) (.inl rfl) _)) ?_
      rw [← wcells_visits S n v1]
      exact hpre.set 10 _
    exact steps_nil
  · intro ev w6 hS hval hall
    replace hS : Keep (fun b => b = gv) W w6 := ⟨hS.os, hS.tape, hS.output, hS.size, hS.block⟩
    obtain ⟨vJ, pJ⟩ : ∃ vJ0, (fun _ w2 => Bk w2 gv 82 (wcells S n (IntKind.i64.wrap (v1 + vt)))) vJ0 w6 := hall 10 (by decide)
    simp only [putsOf, List.foldl_cons, List.foldl_nil, Act.put, List.setIfInBounds_toArray, List.set_cons_zero, List.set_cons_succ]
    clear hval hall
    have hv6 := Vis.of_wave hS Hw2.out pJ
    have h1 := VisF.trans HF.out (VisF.of_vis hv6)
    have h2 := HK.out.trans (hS.mono fun b _ e => .inl e)
    have h3 := hS.bk HN.out (fun e => hgn (show gn = gv from e).symm)
    have H1 := Lib.hid h1
    have H2 := Lib.hid h2
    have H3 := Lib.hid h3
    clear hv6 h1 h2 h3 pJ hS
    go_wp2_with fail
    go_end0
    exact ⟨rfl, H1.out, H2.out, H3.out⟩
end Go.Proofs.YthkkcelfgcholaaGreat
