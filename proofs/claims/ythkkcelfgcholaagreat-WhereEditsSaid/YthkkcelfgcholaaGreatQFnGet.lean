/- The walks of a block's and a tree's Get. Conditions: at most 128 bits. -/
import Derived.Test.YthkkcelfgcholaaGreatPkD
namespace Go.Proofs.YthkkcelfgcholaaGreat
open Go.RowKit
set_option linter.unusedVariables false
set_option linter.unusedSimpArgs false
set_option maxRecDepth 100000 in
theorem BlockHas_any (gb : Nat) (l : List Bool) (k : Nat) (w : World) (hb : Bk w gb 147 (blkC l)) (hk : k < l.length) :
    Calls Tryz.prog 128 #[.pointer (some ⟨gb, 0, none⟩), .int .i64 (k : Int)] w fun e w' => e = .returned (.int .i64 0) ∧ Below w.heap.size w w' := by
  have c0 : w.cell? ⟨gb, 0, none⟩ = some (.int .i64 (l.length : Int)) := (hb.cell 0).trans rfl
  have hlt := hb.lt
  have hkI : ¬ (k : Int) < 0 := by omega
  have hkJ : decide ((k : Int) ≥ (l.length : Int)) = false := by simp; omega
  clear hb
  go_enter Tryz.func128, Tryz.ntmps128
  go_wp2_with fail
  go_ret
  exact ⟨rfl, Below.refl _ _⟩
theorem w_bit (l : List Bool) (k : Nat) : (if k < 64 then w0 l >>> k else w1 l >>> (k - 64)) &&& 1 = if l.getD k false then 1 else 0 := by
  by_cases h : k < 64
  · rw [if_pos h]
    have := encW_bit (l.take 64) k
    rw [Nat.and_one_is_mod, Nat.shiftRight_eq_div_pow, ← Nat.toNat_testBit, show (w0 l).testBit k = (l.take 64).getD k false from this]
    have e : (l.take 64).getD k false = l.getD k false := by simp [List.getD_eq_getElem?_getD, List.getElem?_take, h]
    rw [e]
    cases l.getD k false <;> rfl
  · rw [if_neg h]
    have := encW_bit (l.drop 64) (k - 64)
    rw [Nat.and_one_is_mod, Nat.shiftRight_eq_div_pow, ← Nat.toNat_testBit, show (w1 l).testBit (k - 64) = (l.drop 64).getD (k - 64) false from this]
    have e : (l.drop 64).getD (k - 64) false = l.getD k false := by simp [List.getD_eq_getElem?_getD, List.getElem?_drop, show 64 + (k - 64) = k by omega]
    rw [e]
    cases l.getD k false <;> rfl
theorem bit_one (u k : Nat) (bb : Bool) (hu : u < 18446744073709551616) (h : u >>> k &&& 1 = if bb then 1 else 0) : (bits .and .u64 ((u : Int) / 2 ^ k) 1 == 1) = bb := by
  have e := shr_and u k 1 (2 ^ k) hu (by omega) rfl
  have e2 : ((2 ^ k : Nat) : Int) = (2 : Int) ^ k := by push_cast; rfl
  rw [e2] at e
  have e3 : bits .and .u64 ((u : Int) / 2 ^ k) 1 = ((u >>> k &&& 1 : Nat) : Int) := e
  rw [e3, h]
  cases bb <;> rfl
set_option maxRecDepth 100000 in
set_option maxHeartbeats 1000000 in
theorem BlockGet_any (gb : Nat) (l : List Bool) (k : Nat) (w : World) (hb : Bk w gb 147 (blkC l)) (hl : l.length ≤ 128) (hk : k < l.length) :
    Calls Tryz.prog 92 #[.pointer (some ⟨gb, 0, none⟩), .int .i64 (k : Int)] w fun e w' => e = .returned (.tuple #[.bool (l.getD k false), .int .i64 0]) ∧ Below w.heap.size w w' := by
  have Hb := Lib.hid hb
  have hwb := w_bit l k
  obtain ⟨bb, hbb⟩ : ∃ b, l.getD k false = b := ⟨_, rfl⟩
  rw [hbb] at hwb ⊢
  clear hbb
  have b0 := w0_lt l
  have b1 := w1_lt l hl
  have hlt := hb.lt
  clear hb
  go_enter Tryz.func92, Tryz.ntmps92
  go_wp2_with fail
  refine (BlockHas_any gb l k _ Hb.out hk).mono ?_
  rintro e w1' ⟨rfl, hb1⟩
  have hb2 := Hb.out.below hb1 Hb.out.lt
  have c1 : w1'.cell? ⟨gb, 1, none⟩ = some (.int .u64 ((w0 l : Nat) : Int)) := (hb2.cell 1).trans rfl
  have c2 : w1'.cell? ⟨gb, 2, none⟩ = some (.int .u64 ((w1 l : Nat) : Int)) := (hb2.cell 2).trans rfl
  have hlt2 := hb2.lt
  by_cases h64 : k < 64
  · rw [if_pos h64] at hwb
    have e1 : (k : Int).tdiv 64 = 0 := by rw [Int.tdiv_eq_ediv_of_nonneg (by omega)]; omega
    have e2 : (k : Int).tmod 64 = (k : Int) := by rw [Int.tmod_eq_emod_of_nonneg (by omega)]; omega
    have e3 : IntKind.u64.wrap (k : Int) = (k : Int) := by rw [IntKind.wrap_u64]; omega
    generalize w0 l = u at *
    have Hwb := Lib.hid hwb
    have Hb1 := Lib.hid hb1
    clear hb1 hb2 c2 Hb hwb
    go_wp2_with fail
    go_ret2
    exact ⟨by rw [bit_one u k bb b0 Hwb.out]; rfl, Hb1.out⟩
  · rw [if_neg h64] at hwb
    have e1 : (k : Int).tdiv 64 = 1 := by rw [Int.tdiv_eq_ediv_of_nonneg (by omega)]; omega
    have e2 : (k : Int).tmod 64 = ((k - 64 : Nat) : Int) := by rw [Int.tmod_eq_emod_of_nonneg (by omega)]; omega
    have e3 : IntKind.u64.wrap ((k - 64 : Nat) : Int) = ((k - 64 : Nat) : Int) := by rw [IntKind.wrap_u64]; omega
    have hk64 : k - 64 < 64 := by omega
    generalize w1 l = u at *
    generalize k - 64 = k2 at *
    have Hwb := Lib.hid hwb
    have Hb1 := Lib.hid hb1
    clear hb1 hb2 c1 Hb hwb
    go_wp2_with fail
    go_ret2
    exact ⟨by rw [bit_one u k2 bb b1 Hwb.out]; rfl, Hb1.out⟩
set_option maxRecDepth 100000 in
set_option maxHeartbeats 1000000 in
theorem TreeHas_any (gt : Nat) (bs : List Bool) (k : Nat) (w : World) (h : TreeAt w gt bs) (hk : k < bs.length) :
    Calls Tryz.prog 91 #[.pointer (some ⟨gt, 0, none⟩), .int .i64 (k : Int)] w fun e w' => e = .returned (.int .i64 0) ∧ VisK (fun b => b = gt) w w' := by
  have hv0 : ∃ cs, Bk w gt 117 cs ∧ 3 < cs.size := by
    obtain ⟨ga, v, ⟨rfl, vl, h2⟩ | ⟨h1, h2, gl, cl, gb, h3⟩⟩ := h
    · exact ⟨_, h2, by simp⟩
    · exact ⟨_, h3.tree, by simp⟩
  obtain ⟨cs, hcs, hc3⟩ := hv0
  have hv1 := VisK.set_tree hcs 0
  have ht1 := h.vis hv1.1
  have hgl := hcs.lt
  have c3 : w.cell? ⟨gt, 3, none⟩ = some cs[3] := by rw [hcs.cell 3]; simp [hc3]
  have f3 := hcs.frozen 3
  have hkI : ¬ (k : Int) < 0 := by omega
  have HV := Lib.hid hv1
  have Ht := Lib.hid ht1
  obtain ⟨N, hN⟩ : ∃ N, bs.length = N := ⟨_, rfl⟩
  have HN := Lib.hid hN
  have hkJ : ¬ (N ≤ k) := by omega
  clear h hv1 ht1 hcs hN hk
  go_enter Tryz.func91, Tryz.ntmps91
  go_wp2_with fail
  clear c3 f3
  refine (TreeLen_any gt bs _ Ht.out).mono ?_
  rintro e w2 ⟨rfl, hb2⟩
  rw [HN.out]
  have hv2 := HV.out.below hb2
  have HV2 := Lib.hid hv2
  clear hv2 hb2 HV Ht
  go_wp2_with fail
  go_ret
  exact ⟨rfl, HV2.out⟩
set_option maxRecDepth 100000 in
set_option maxHeartbeats 1000000 in
theorem TreeGet_any (gt : Nat) (bs : List Bool) (k : Nat) (w : World) (h : TreeAt w gt bs) (hk : k < bs.length) :
    Calls Tryz.prog 56 #[.pointer (some ⟨gt, 0, none⟩), .int .i64 (k : Int)] w fun e w' => e = .returned (.tuple #[.bool (bs.getD k false), .int .i64 0]) ∧ VisK (fun b => b = gt) w w' := by
  have Hh := Lib.hid h
  obtain ⟨bb, hbb⟩ : ∃ b, bs.getD k false = b := ⟨_, rfl⟩
  rw [hbb]
  have Hbb := Lib.hid hbb
  have Hk := Lib.hid hk
  clear h hbb
  go_enter Tryz.func56, Tryz.ntmps56
  go_wp2_with fail
  refine (TreeHas_any gt bs k w Hh.out hk).mono ?_
  rintro e w2 ⟨rfl, hv2⟩
  have ht2 := Hh.out.vis hv2.1
  have HV2 := Lib.hid hv2
  clear hv2 Hh
  obtain ⟨ga, v, ⟨hbe, _, _⟩ | ⟨hbe, hb2, gl, cl, gb, hl⟩⟩ := ht2
  · rw [hbe] at hk
    simp at hk
  clear hk
  obtain ⟨c0, c1, c2, c3, d0, d1, d2, d3, d4, d5, d6, d7⟩ := hl.cells
  have hl2 := hl.row.lt
  have hgl2 := hl.tree.lt
  have hgt_gl : gt ≠ gl := hl.row.bk_ne hl.tree (by decide)
  have f3 := hl.tree.frozen 3
  have Hl := Lib.hid hl
  have H2 := Lib.hid hb2
  clear hl hb2 hbe
  go_wp2_with fail
  go_loopw [1, 7, 8] (fun x y z wr => x = .int .i64 (k : Int) ∧ y = .int .i64 0 ∧ wr = w2) (fun _ _ _ _ => 0)
  case atStart => exact ⟨rfl, rfl, rfl⟩
  case round =>
    obtain ⟨rfl, rfl, rfl⟩ := hrel
    go_wp2_with fail
    have hgb := Bk.ne Hl.out.blk Hl.out.tree (by decide)
    have hbb := H2.out
    have hv3 := (VisK.set_tree Hl.out.tree (wrap64 (v + 1))).alloc (.cells #[.int .i64 (-1), .int .i64 (-1), .int .i64 0, .int .i64 (bs.length : Int), .int .i64 ((bs.count true : Nat) : Int), .int .i64 0, .int .i64 0, .pointer (some ⟨gb, 0, none⟩)] 120)
    refine (BlockGet_any gb bs k _ ((Hl.out.blk.far hgb _).alloc _) H2.out Hk.out).mono ?_
    rintro e w4 ⟨rfl, hb4⟩
    rw [Hbb.out]
    have hv4 := (HV2.out.trans hv3).below hb4
    have HV4 := Lib.hid hv4
    clear hv3 hb4 hv4 hgb hbb
    go_wp2_with fail
    go_ret2
    exact ⟨rfl, HV4.out⟩
end Go.Proofs.YthkkcelfgcholaaGreat
