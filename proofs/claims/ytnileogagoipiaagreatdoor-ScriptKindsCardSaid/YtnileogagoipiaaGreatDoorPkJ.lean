/- The walks of a block's and a tree's Get. Conditions: at most 128 bits. Plain laws: from a row to the row of the suffix one ahead. No conditions. The walks of the wave's Get: its closure, and look with it. Conditions: none. The walk of the wave's Get. Conditions: symbols below 257; at most 1000. The walks of the walk's is and Back. Conditions: at most 1000 rows. -/
import Derived.Test.YtnileogagoipiaaGreatDoorPkD
import Derived.Test.YtnileogagoipiaaGreatDoorPkI
import Derived.Test.YtnileogagoipiaaGreatDoorPkG
import Derived.BigQuiet
import Derived.Test.YtnileogagoipiaaGreatDoorQFnWalk
namespace Go.Proofs.YtnileogagoipiaaGreatDoor
open Go.RowKit
set_option linter.unusedVariables false
set_option linter.unusedSimpArgs false
set_option maxRecDepth 100000 in
theorem BlockHas_any (gb : Nat) (l : List Bool) (k : Nat) (w : World) (hb : Bk w gb 236 (blkC l)) (hk : k < l.length) :
    Calls Tryz.prog 215 #[.pointer (some ⟨gb, 0, none⟩), .int .i64 (k : Int)] w fun e w' => e = .returned (.int .i64 0) ∧ Below w.heap.size w w' := by
  have c0 : w.cell? ⟨gb, 0, none⟩ = some (.int .i64 (l.length : Int)) := (hb.cell 0).trans rfl
  have hlt := hb.lt
  have hkI : ¬ (k : Int) < 0 := by omega
  have hkJ : decide ((k : Int) ≥ (l.length : Int)) = false := by simp; omega
  clear hb
  go_enter Tryz.func215, Tryz.ntmps215
  go_wp2_with fail
  go_ret
  exact ⟨rfl, Below.refl _ _⟩
theorem w_bit (l : List Bool) (k : Nat) : (if k < 64 then w0 l >>> k else w1 l >>> (k - 64)) &&& 1 = if l.getD k false then 1 else 0 := by
  by_cases h : k < 64
  · rw [if_pos h]
    have := encW_bit (l.take 64) k
    rw [Nat.and_one_is_mod, Nat.shiftRight_eq_div_pow, ← Nat.toNat_testBit, show (w0 l).testBit k = (l.take 64).getD k false from this]
    have e : (l.take 64).getD k false = l.getD k false := by simp [List.getD_eq_getElem?_getD, List.getElem?_take, h]
    rw [e]
    cases l.getD k false <;> rfl
  · rw [if_neg h]
    have := encW_bit (l.drop 64) (k - 64)
    rw [Nat.and_one_is_mod, Nat.shiftRight_eq_div_pow, ← Nat.toNat_testBit, show (w1 l).testBit (k - 64) = (l.drop 64).getD (k - 64) false from this]
    have e : (l.drop 64).getD (k - 64) false = l.getD k false := by simp [List.getD_eq_getElem?_getD, List.getElem?_drop, show 64 + (k - 64) = k by omega]
    rw [e]
    cases l.getD k false <;> rfl
theorem bit_one (u k : Nat) (bb : Bool) (hu : u < 18446744073709551616) (h : u >>> k &&& 1 = if bb then 1 else 0) : (bits .and .u64 ((u : Int) / 2 ^ k) 1 == 1) = bb := by
  have e := shr_and u k 1 (2 ^ k) hu (by omega) rfl
  have e2 : ((2 ^ k : Nat) : Int) = (2 : Int) ^ k := by push_cast; rfl
  rw [e2] at e
  have e3 : bits .and .u64 ((u : Int) / 2 ^ k) 1 = ((u >>> k &&& 1 : Nat) : Int) := e
  rw [e3, h]
  cases bb <;> rfl
set_option maxRecDepth 100000 in
set_option maxHeartbeats 1000000 in
theorem BlockGet_any (gb : Nat) (l : List Bool) (k : Nat) (w : World) (hb : Bk w gb 236 (blkC l)) (hl : l.length ≤ 128) (hk : k < l.length) :
    Calls Tryz.prog 193 #[.pointer (some ⟨gb, 0, none⟩), .int .i64 (k : Int)] w fun e w' => e = .returned (.tuple #[.bool (l.getD k false), .int .i64 0]) ∧ Below w.heap.size w w' := by
  have Hb := Lib.hid hb
  have hwb := w_bit l k
  obtain ⟨bb, hbb⟩ : ∃ b, l.getD k false = b := ⟨_, rfl⟩
  rw [hbb] at hwb ⊢
  clear hbb
  have b0 := w0_lt l
  have b1 := w1_lt l hl
  have hlt := hb.lt
  clear hb
  go_enter Tryz.func193, Tryz.ntmps193
  go_wp2_with fail
  refine (BlockHas_any gb l k _ Hb.out hk).mono ?_
  rintro e w1' ⟨rfl, hb1⟩
  have hb2 := Hb.out.below hb1 Hb.out.lt
  have c1 : w1'.cell? ⟨gb, 1, none⟩ = some (.int .u64 ((w0 l : Nat) : Int)) := (hb2.cell 1).trans rfl
  have c2 : w1'.cell? ⟨gb, 2, none⟩ = some (.int .u64 ((w1 l : Nat) : Int)) := (hb2.cell 2).trans rfl
  have hlt2 := hb2.lt
  by_cases h64 : k < 64
  · rw [if_pos h64] at hwb
    have e1 : (k : Int).tdiv 64 = 0 := by rw [Int.tdiv_eq_ediv_of_nonneg (by omega)]; omega
    have e2 : (k : Int).tmod 64 = (k : Int) := by rw [Int.tmod_eq_emod_of_nonneg (by omega)]; omega
    have e3 : IntKind.u64.wrap (k : Int) = (k : Int) := by rw [IntKind.wrap_u64]; omega
    generalize w0 l = u at *
    have Hwb := Lib.hid hwb
    have Hb1 := Lib.hid hb1
    clear hb1 hb2 c2 Hb hwb
    go_wp2_with fail
    go_ret2
    exact ⟨by rw [bit_one u k bb b0 Hwb.out]; rfl, Hb1.out⟩
  · rw [if_neg h64] at hwb
    have e1 : (k : Int).tdiv 64 = 1 := by rw [Int.tdiv_eq_ediv_of_nonneg (by omega)]; omega
    have e2 : (k : Int).tmod 64 = ((k - 64 : Nat) : Int) := by rw [Int.tmod_eq_emod_of_nonneg (by omega)]; omega
    have e3 : IntKind.u64.wrap ((k - 64 : Nat) : Int) = ((k - 64 : Nat) : Int) := by rw [IntKind.wrap_u64]; omega
    have hk64 : k - 64 < 64 := by omega
    generalize w1 l = u at *
    generalize k - 64 = k2 at *
    have Hwb := Lib.hid hwb
    have Hb1 := Lib.hid hb1
    clear hb1 hb2 c1 Hb hwb
    go_wp2_with fail
    go_ret2
    exact ⟨by rw [bit_one u k2 bb b1 Hwb.out]; rfl, Hb1.out⟩
set_option maxRecDepth 100000 in
set_option maxHeartbeats 1000000 in
theorem TreeHas_any (gt : Nat) (bs : List Bool) (k : Nat) (w : World) (h : TreeAt w gt bs) (hk : k < bs.length) :
    Calls Tryz.prog 192 #[.pointer (some ⟨gt, 0, none⟩), .int .i64 (k : Int)] w fun e w' => e = .returned (.int .i64 0) ∧ VisK (fun b => b = gt) w w' := by
  have hv0 : ∃ cs, Bk w gt 211 cs ∧ 3 < cs.size := by
    obtain ⟨ga, v, ⟨rfl, vl, h2⟩ | ⟨h1, h2, gl, cl, gb, h3⟩⟩ := h
    · exact ⟨_, h2, by simp⟩
    · exact ⟨_, h3.tree, by simp⟩
  obtain ⟨cs, hcs, hc3⟩ := hv0
  have hv1 := VisK.set_tree hcs 0
  have ht1 := h.vis hv1.1
  have hgl := hcs.lt
  have c3 : w.cell? ⟨gt, 3, none⟩ = some cs[3] := by rw [hcs.cell 3]; simp [hc3]
  have f3 := hcs.frozen 3
  have hkI : ¬ (k : Int) < 0 := by omega
  have HV := Lib.hid hv1
  have Ht := Lib.hid ht1
  obtain ⟨N, hN⟩ : ∃ N, bs.length = N := ⟨_, rfl⟩
  have HN := Lib.hid hN
  have hkJ : ¬ (N ≤ k) := by omega
  clear h hv1 ht1 hcs hN hk
  go_enter Tryz.func192, Tryz.ntmps192
  go_wp2_with fail
  clear c3 f3
  refine (TreeLen_any gt bs _ Ht.out).mono ?_
  rintro e w2 ⟨rfl, hb2⟩
  rw [HN.out]
  have hv2 := HV.out.below hb2
  have HV2 := Lib.hid hv2
  clear hv2 hb2 HV Ht
  go_wp2_with fail
  go_ret
  exact ⟨rfl, HV2.out⟩
set_option maxRecDepth 100000 in
set_option maxHeartbeats 1000000 in
theorem TreeGet_any (gt : Nat) (bs : List Bool) (k : Nat) (w : World) (h : TreeAt w gt bs) (hk : k < bs.length) :
    Calls Tryz.prog 147 #[.pointer (some ⟨gt, 0, none⟩), .int .i64 (k : Int)] w fun e w' => e = .returned (.tuple #[.bool (bs.getD k false), .int .i64 0]) ∧ VisK (fun b => b = gt) w w' := by
  have Hh := Lib.hid h
  obtain ⟨bb, hbb⟩ : ∃ b, bs.getD k false = b := ⟨_, rfl⟩
  rw [hbb]
  have Hbb := Lib.hid hbb
  have Hk := Lib.hid hk
  clear h hbb
  go_enter Tryz.func147, Tryz.ntmps147
  go_wp2_with fail
  refine (TreeHas_any gt bs k w Hh.out hk).mono ?_
  rintro e w2 ⟨rfl, hv2⟩
  have ht2 := Hh.out.vis hv2.1
  have HV2 := Lib.hid hv2
  clear hv2 Hh
  obtain ⟨ga, v, ⟨hbe, _, _⟩ | ⟨hbe, hb2, gl, cl, gb, hl⟩⟩ := ht2
  · rw [hbe] at hk
    simp at hk
  clear hk
  obtain ⟨c0, c1, c2, c3, d0, d1, d2, d3, d4, d5, d6, d7⟩ := hl.cells
  have hl2 := hl.row.lt
  have hgl2 := hl.tree.lt
  have hgt_gl : gt ≠ gl := hl.row.bk_ne hl.tree (by decide)
  have f3 := hl.tree.frozen 3
  have Hl := Lib.hid hl
  have H2 := Lib.hid hb2
  clear hl hb2 hbe
  go_wp2_with fail
  go_loopw [1, 7, 8] (fun x y z wr => x = .int .i64 (k : Int) ∧ y = .int .i64 0 ∧ wr = w2) (fun _ _ _ _ => 0)
  case atStart => exact ⟨rfl, rfl, rfl⟩
  case round =>
    obtain ⟨rfl, rfl, rfl⟩ := hrel
    go_wp2_with fail
    have hgb := Bk.ne Hl.out.blk Hl.out.tree (by decide)
    have hbb := H2.out
    have hv3 := (VisK.set_tree Hl.out.tree (wrap64 (v + 1))).alloc (.cells #[.int .i64 (-1), .int .i64 (-1), .int .i64 0, .int .i64 (bs.length : Int), .int .i64 ((bs.count true : Nat) : Int), .int .i64 0, .int .i64 0, .pointer (some ⟨gb, 0, none⟩)] 221)
    refine (BlockGet_any gb bs k _ ((Hl.out.blk.far hgb _).alloc _) H2.out Hk.out).mono ?_
    rintro e w4 ⟨rfl, hb4⟩
    rw [Hbb.out]
    have hv4 := (HV2.out.trans hv3).below hb4
    have HV4 := Lib.hid hv4
    clear hv3 hb4 hv4 hgb hbb
    go_wp2_with fail
    go_ret2
    exact ⟨rfl, HV4.out⟩
end Go.Proofs.YtnileogagoipiaaGreatDoor
namespace Go.Proofs.YtnileogagoipiaaGreatDoor
open Go.RowKit
set_option linter.unusedVariables false
set_option linter.unusedSimpArgs false
/-- Stands a suffix ahead of another one? -/
noncomputable def ltP (l : List Nat) (p x : Nat) : Bool := @decide (sufLt l x p) (Classical.propDecidable _)
theorem ltP_iff (l : List Nat) (p x : Nat) : ltP l p x = true ↔ sufLt l x p := by
  unfold ltP
  exact @decide_eq_true_iff _ (Classical.propDecidable _)
theorem idx_count {l rs : List Nat} (h : IsSuf l rs) (i : Nat) (hi : i < rs.length) : rs.countP (ltP l rs[i]) = i := by
  have h1 : (rs.take i).countP (ltP l rs[i]) = i := by
    rw [List.countP_eq_length.2 fun x hx => ?_]
    · rw [List.length_take]; omega
    · obtain ⟨k, hk, rfl⟩ := List.mem_iff_getElem.1 hx
      rw [List.length_take] at hk
      rw [List.getElem_take, ltP_iff]
      exact List.pairwise_iff_getElem.1 h.sorted k i (by omega) hi (by omega)
  have h2 : (rs.drop i).countP (ltP l rs[i]) = 0 := List.countP_eq_zero.2 fun x hx hp => by
    obtain ⟨k, hk, rfl⟩ := List.mem_iff_getElem.1 hx
    rw [List.length_drop] at hk
    rw [List.getElem_drop, ltP_iff] at hp
    rcases Nat.eq_zero_or_pos k with h0 | h0
    · subst h0
      exact sufLt.asymm hp hp
    · exact sufLt.asymm hp (List.pairwise_iff_getElem.1 h.sorted i (i + k) hi (by omega) (by omega))
  have e : rs.countP (ltP l rs[i]) = (rs.take i ++ rs.drop i).countP (ltP l rs[i]) := congrArg (List.countP _) (List.take_append_drop i rs).symm
  rw [e, List.countP_append]
  omega
theorem take_countP {l rs : List Nat} (h : IsSuf l rs) (P : Nat → Bool) (hd : ∀ x y, sufLt l x y → P y = true → P x = true) (s : Nat) : ((lastL l rs).take (rs.countP P)).count s = (List.range l.length).countP (fun p => decide (prevL l p = s) && P p) := by
  rw [lastL, ← List.map_take, take_down h.sorted hd, ← h.count, List.count_eq_countP, List.countP_map, List.countP_filter]
  refine List.countP_congr fun p _ => ?_
  simp [Function.comp, and_comm]
/-- The row of the suffix one ahead: as many rows as begin with a lesser symbol, and as many with this one that stand ahead. -/
theorem lf {l rs : List Nat} {m : Nat} (h : IsSuf l rs) (he : EndOk l m) {i j p : Nat} (hi : i < rs.length) (hj : j < rs.length) (hip : rs[i] = p + 1) (hjp : rs[j] = p) : narL (lastL l rs) (l.getD p 0) i = j := by
  have hlen := he.len
  have hpm : p < m := by have := h.lt (List.getElem_mem hi); omega
  have hs := he.pos p hpm
  obtain ⟨s, hsd⟩ : ∃ s, l.getD p 0 = s := ⟨_, rfl⟩
  rw [hsd] at hs ⊢
  have ci := idx_count h i hi
  have cj := idx_count h j hj
  rw [hip] at ci
  rw [hjp] at cj
  have htk := take_countP h (ltP l (p + 1)) (fun x y hxy hy => by rw [ltP_iff] at hy ⊢; exact hxy.trans hy) s
  rw [ci] at htk
  rw [h.count] at cj
  unfold narL
  rw [htk]
  have e1 : (lastL l rs).countP (fun x => decide (x < s)) = (List.range (m + 1)).countP (fun p => decide (l.getD p 0 < s)) := by
    rw [lastL, List.countP_map, h.count, hlen]
    refine count_prev _ _ ?_ fun p hp => ?_
    · show decide (prevL l 0 < s) = _
      rw [prevL_zero (by omega), hlen, Nat.add_sub_cancel]
    · show decide (prevL l (p + 1) < s) = _
      rw [prevL_succ (by omega)]
  have e2 : (List.range l.length).countP (fun x => decide (prevL l x = s) && ltP l (p + 1) x) = (List.range (m + 1)).countP (fun x => decide (l.getD x 0 = s) && ltP l (p + 1) (x + 1)) := by
    rw [hlen]
    refine count_prev _ _ ?_ fun x hx => ?_
    · show (decide (prevL l 0 = s) && _) = (decide (l.getD m 0 = s) && _)
      rw [prevL_zero (by omega), hlen, Nat.add_sub_cancel, he.last]
      have : decide (0 = s) = false := by simp; omega
      rw [this]
      rfl
    · show (decide (prevL l (x + 1) = s) && _) = _
      rw [prevL_succ (by omega)]
  rw [e1, e2, ← countP_or, ← cj, hlen]
  · refine List.countP_congr fun x hx => ?_
    have hx' : x < m + 1 := by simpa using hx
    rw [ltP_iff, sufLt_step, aN_getD (by omega : x < l.length), aN_getD (by omega : p < l.length), hsd]
    simp only [Bool.or_eq_true, Bool.and_eq_true, decide_eq_true_eq, ltP_iff]
    constructor
    · rintro (h1 | ⟨h1, h2⟩)
      · exact .inl (by omega)
      · exact .inr ⟨by omega, h2⟩
    · rintro (h1 | ⟨h1, h2⟩)
      · exact .inl (by omega)
      · exact .inr ⟨by omega, h2⟩
  · intro x _
    simp only [Bool.and_eq_true, decide_eq_true_eq]
    rintro ⟨h1, h2, _⟩
    omega
theorem lastL_at {l rs : List Nat} {m : Nat} (he : EndOk l m) {i p : Nat} (hi : i < rs.length) (hip : rs[i] = p + 1) (hp : p < m) : (lastL l rs)[i]'(by rw [lastL_len]; exact hi) = l.getD p 0 := by
  have hlen := he.len
  unfold lastL
  rw [List.getElem_map, hip, prevL_succ (by omega)]
theorem IsSuf.row {l rs : List Nat} (h : IsSuf l rs) {p : Nat} (hp : p < l.length) : ∃ j, ∃ hj : j < rs.length, rs[j] = p := by
  obtain ⟨j, hj, e⟩ := List.mem_iff_getElem.1 (h.mem hp)
  exact ⟨j, hj, e⟩
/-- Where a symbol lies in its shelf. -/
theorem bits_at (L : List Nat) (k lv : Nat) (hk : k < L.length) : (bitsOf L lv (pathN L[k] lv))[atLv L k L[k] lv]? = some (bitB L[k] lv) := by
  unfold bitsOf atLv
  have e : L = L.take k ++ L[k] :: L.drop (k + 1) := by rw [← List.drop_eq_getElem_cons hk, List.take_append_drop]
  generalize hs : L[k] = s at e ⊢
  generalize L.take k = A at e ⊢
  rw [e, List.filter_append, List.filter_cons, if_pos (by simp), List.map_append, List.countP_eq_length_filter, List.getElem?_append_right (by simp)]
  simp
end Go.Proofs.YtnileogagoipiaaGreatDoor
namespace Go.Proofs.YtnileogagoipiaaGreatDoor
open Go.RowKit
set_option linter.unusedVariables false
set_option linter.unusedSimpArgs false
set_option maxRecDepth 100000 in
theorem Get1_any (gt gk gn : Nat) (lv p : Int) (x : Value) (bs : List Bool) (k : Nat) (w : World) (ht : TreeAt w gt bs) (hk : Bk w gk 3 #[.int .i64 (k : Int)]) (hn : Bk w gn 4 #[x]) (hkl : k < bs.length) :
    Calls Tryz.prog 146 #[.agg #[.pointer (some ⟨gt, 0, none⟩), .int .i64 lv, .int .i64 p], .pointer (some ⟨gk, 0, none⟩), .pointer (some ⟨gn, 0, none⟩)] w fun e w' => e = .returned (.tuple #[]) ∧
      ∃ w1, VisK (fun b => b = gt) w w1 ∧ Bk w1 gn 4 #[x] ∧ w' = w1.setCell ⟨gn, 0, none⟩ (.bool (bs.getD k false)) := by
  have c1 : w.cell? ⟨gk, 0, none⟩ = some (.int .i64 (k : Int)) := (hk.cell 0).trans rfl
  have l1 := hk.lt
  have l3 := hn.lt
  obtain ⟨bb, hbb⟩ : ∃ b, bs.getD k false = b := ⟨_, rfl⟩
  rw [hbb]
  have Hbb := Lib.hid hbb
  have Ht := Lib.hid ht
  have Hn := Lib.hid hn
  have Hkl := Lib.hid hkl
  clear ht hk hn hbb hkl
  go_enter Tryz.func146, Tryz.ntmps146
  go_wp2_with fail
  refine (TreeGet_any gt bs k _ (Ht.out.below ((Below.refl _ _).alloc (Nat.le_refl _) _)) Hkl.out).mono ?_
  rintro e w1 ⟨rfl, hv⟩
  rw [Hbb.out]
  have hv0 : VisK (fun b => b = gt) w w1 := (VisK.of_below ((Below.refl _ _).alloc (Nat.le_refl _) _)).trans hv
  have hn1 := hv0.1.bk Hn.out (by decide) (by decide)
  have c3 : w1.cell? ⟨gn, 0, none⟩ = some x := (hn1.cell 0).trans rfl
  have f3 := hn1.frozen 0
  have HV := Lib.hid hv0
  have Hn1 := Lib.hid hn1
  clear hv hv0 hn1
  go_wp2_with fail
  go_end0
  exact ⟨rfl, w1, HV.out, Hn1.out, rfl⟩
set_option maxRecDepth 100000 in
set_option maxHeartbeats 1000000 in
theorem LookG_any (gv gt gk gn : Nat) (S : Nat → Value) (n v lv p : Int) (x : Value) (bs : List Bool) (k : Nat) (w0 w : World) (hw : Bk w gv 165 (wcells S n v)) (ht0 : TreeAt w0 gt bs) (hv0 : Vis w0 w) (hg0 : w0.heap.size ≤ gn) (hk : Bk w gk 3 #[.int .i64 (k : Int)]) (hn : Bk w gn 4 #[x]) (hkl : k < bs.length) :
    Calls Tryz.prog 145 #[.pointer (some ⟨gv, 0, none⟩), .agg #[.pointer (some ⟨gt, 0, none⟩), .int .i64 lv, .int .i64 p], .func (.func 146) #[] #[.pointer (some ⟨gk, 0, none⟩), .pointer (some ⟨gn, 0, none⟩)]] w fun e w' => e = .returned (.tuple #[]) ∧
      VisF (fun b => b = gn) w w' ∧ Keep (fun b => b = gv ∨ b = gt ∨ b = gn) w w' ∧ Bk w' gn 4 #[.bool (bs.getD k false)] := by
  have ht := ht0.vis hv0
  obtain ⟨bb, hbb⟩ : ∃ b, bs.getD k false = b := ⟨_, rfl⟩
  rw [hbb]
  have Hbb := Lib.hid hbb
  have Ht0 := Lib.hid ht0
  have HV0 := Lib.hid hv0
  clear hbb ht0 hv0
  obtain ⟨o, ho⟩ : ∃ o, Obj.cells #[.pointer (some ⟨gt, 0, none⟩), .int .i64 lv, .int .i64 p] 170 = o := ⟨_, rfl⟩
  have hal := (Below.refl w.heap.size w).alloc (Nat.le_refl _) o
  have hs1 := Bk.new w 170 #[.pointer (some ⟨gt, 0, none⟩), .int .i64 lv, .int .i64 p]
  rw [ho] at hs1
  have l1 := hk.lt
  have l3 := hn.lt
  have l4 := hw.lt
  have n1 := Bk.ne hn hw (by decide)
  have Ht := Lib.hid ht
  have Hn := Lib.hid hn
  have Hk := Lib.hid hk
  have Hw := Lib.hid hw
  have HA := Lib.hid hal
  have Hs := Lib.hid hs1
  have Ho := Lib.hid ho
  clear ht hk hn hw hal hs1 ho
  go_enter Tryz.func145, Tryz.ntmps145
  go_wp2_with fail
  rw [Ho.out]
  refine (Get1_any gt gk gn lv p x bs k _ (Ht.out.below HA.out) (Hk.out.alloc _) (Hn.out.alloc _) hkl).mono ?_
  rintro e w2 ⟨rfl, w1, hv1, hn1, rfl⟩
  rw [Hbb.out]
  obtain ⟨v1, hw1⟩ := ((Vis.of_below HA.out).trans hv1.1).waveC Hw.out
  have hw2 := hw1.far (p := ⟨gn, 0, none⟩) (fun h => n1 h.symm) (.bool bb)
  have ht1 := Ht.out.vis ((Vis.of_below HA.out).trans hv1.1)
  have ht2 : TreeAt (w1.setCell ⟨gn, 0, none⟩ (.bool bb)) gt bs := Ht0.out.vis (((HV0.out.trans (Vis.of_below HA.out)).trans hv1.1).fresh (p := ⟨gn, 0, none⟩) hg0 _)
  obtain ⟨vt, hvt⟩ := ht2.visits
  have hs2 := (hv1.1.bk Hs.out (by decide) (by decide)).far (p := ⟨gn, 0, none⟩) (fun h => absurd (show w.heap.size = gn from h) (by omega)) (.bool bb)
  have hnn := hn1.set 0 (.bool bb)
  have hfin : VisF (fun b => b = gn) w (w1.setCell ⟨gn, 0, none⟩ (.bool bb)) := VisF.put (F := fun b => b = gn) (VisF.of_vis ((Vis.of_below HA.out).trans hv1.1)) (p := ⟨gn, 0, none⟩) (.inl rfl) _
  have hkp : Keep (fun b => b = gv ∨ b = gt ∨ b = gn) w (w1.setCell ⟨gn, 0, none⟩ (.bool bb)) := Keep.setCell (F := fun b => b = gv ∨ b = gt ∨ b = gn) ((Keep.of_below HA.out).trans (hv1.2.mono fun b _ e => .inr (.inl e))) (p := ⟨gn, 0, none⟩) (.inl (.inr (.inr rfl))) _
  obtain ⟨W, hW⟩ : ∃ W, w1.setCell ⟨gn, 0, none⟩ (.bool bb) = W := ⟨_, rfl⟩
  rw [hW] at hw2 ht2 hvt hs2 hnn hfin hkp ⊢
  have s0 : W.cell? ⟨w.heap.size, 0, none⟩ = some (.pointer (some ⟨gt, 0, none⟩)) := (hs2.cell 0).trans rfl
  have Hw2 := Lib.hid hw2
  have Hs2 := Lib.hid hs2
  have HN := Lib.hid hnn
  have HF := Lib.hid hfin
  have HK := Lib.hid hkp
  have Ht2 := Lib.hid ht2
  have Hvt := Lib.hid hvt
  have htlt := ht2.lt
  have hslt := hs2.lt
  have hgs := Bk.ne hw2 hs2 (by decide)
  have hgn := Bk.ne hw2 hnn (by decide)
  have hgvt : gt ≠ gv := by
    rintro rfl
    obtain ⟨ga, v, ⟨_, _, h2⟩ | ⟨_, _, _, _, _, h3⟩⟩ := Ht2.out
    · exact absurd (bk_inj h2 Hw2.out).1 (by decide)
    · exact absurd (bk_inj h3.tree Hw2.out).1 (by decide)
  clear hw2 hs2 hnn hfin hkp ht2 hvt hW hw1 ht1 hn1 hv1 HA Ht Hn Hk Hw Hs s0
  go_wp2_with fail
  refine wp_region_any (by kernel_rfl) ?_
  refine wpAny_keep [9, 10, 11, 12, 13, 14, 15, 16, 17, 18] (fun b => b = gv) 10 [3, 10] (fun w2 => Bk w2 gv 165 (wcells S n v1)) (fun _ w2 => Bk w2 gv 165 (wcells S n (IntKind.i64.wrap (v1 + vt)))) [is (.pointer (some ⟨gv, 0, none⟩)), is (.pointer (some ⟨gv, 0, none⟩)), is (.pointer (some ⟨gv, 10, none⟩)), is (.int .i64 v1), is (.pointer (some ⟨w.heap.size, 0, none⟩)), is (.pointer (some ⟨gt, 0, none⟩)), is (.int .i64 vt), is (.int .i64 (IntKind.i64.wrap (v1 + vt))), is (.pointer (some ⟨gv, 0, none⟩)), is (.pointer (some ⟨gv, 10, none⟩)), anyV] _ _ rfl (by kernel_rfl) (by kernel_rfl) (Hw2.out) (fun w2 w3 h _ hg => Bk.below h hg h.lt) (fun _ _ _ h k => Bk.below h k h.lt) (by repeat' (first | exact stbk_is _ _ | exact stbk_any _ | (refine List.forall_mem_cons.2 ⟨?_, ?_⟩) | (intro p hp; cases hp))) ?_ ?_
  · refine steps_of ?_
    refine steps_cons ?_ ?_
    · refine step_on3 rfl rfl ?_
      intro ev w5 hS hU hc hf hold hval a K ha hK
      replace hS : Keep (fun b => b = gv) W w5 := ⟨hS.os, hS.tape, hS.output, hS.size, hS.block⟩
      clear hU
      have e0 : ev (.tmp 0) = .pointer (some ⟨gv, 0, none⟩) := hold 0 (by kernel_rfl)
      go_simp
      exact hK _ _ (kstep_grow (Below.refl _ _)) rfl
    refine steps_cons ?_ ?_
    · refine step_on3 rfl rfl ?_
      intro ev w5 hS hU hc hf hold hval a K ha hK
      replace hS : Keep (fun b => b = gv) W w5 := ⟨hS.os, hS.tape, hS.output, hS.size, hS.block⟩
      clear hU
      have e9 : ev (.tmp 9) = .pointer (some ⟨gv, 0, none⟩) := hval 0 9 (by kernel_rfl) rfl
      go_simp
      exact hK _ _ (kstep_grow (Below.refl _ _)) rfl
    refine steps_cons ?_ ?_
    · refine step_on3 rfl rfl ?_
      intro ev w5 hS hU hc hf hold hval a K ha hK
      replace hS : Keep (fun b => b = gv) W w5 := ⟨hS.os, hS.tape, hS.output, hS.size, hS.block⟩
      clear hU
      have e10 : ev (.tmp 10) = .pointer (some ⟨gv, 0, none⟩) := hval 1 10 (by kernel_rfl) rfl
      go_simp
      exact hK _ _ (kstep_grow (Below.refl _ _)) rfl
    refine steps_cons ?_ ?_
    · refine step_on3 rfl rfl ?_
      intro ev w5 hS hU hc hf hold hval a K ha hK
      replace hS : Keep (fun b => b = gv) W w5 := ⟨hS.os, hS.tape, hS.output, hS.size, hS.block⟩
      have hpre := hU rfl
      clear hU
      have e11 : ev (.tmp 11) = .pointer (some ⟨gv, 10, none⟩) := hval 2 11 (by kernel_rfl) rfl
      have c12 : w5.cell? ⟨gv, 10, none⟩ = some (.int .i64 v1) := (hpre.cell 10).trans (wcells_get _ _ _).2.2.2.2.2.2.2.2.2.2
      go_simp
      exact hK _ _ (kstep_grow (Below.refl _ _)) rfl
    refine steps_cons ?_ ?_
    · refine step_on3 rfl rfl ?_
      intro ev w5 hS hU hc hf hold hval a K ha hK
      replace hS : Keep (fun b => b = gv) W w5 := ⟨hS.os, hS.tape, hS.output, hS.size, hS.block⟩
      clear hU
      have e4 : ev (.tmp 4) = .pointer (some ⟨w.heap.size, 0, none⟩) := hold 4 (by kernel_rfl)
      go_simp
      exact hK _ _ (kstep_grow (Below.refl _ _)) rfl
    refine steps_cons ?_ ?_
    · refine step_on3 rfl rfl ?_
      intro ev w5 hS hU hc hf hold hval a K ha hK
      replace hS : Keep (fun b => b = gv) W w5 := ⟨hS.os, hS.tape, hS.output, hS.size, hS.block⟩
      clear hU
      have e13 : ev (.tmp 13) = .pointer (some ⟨w.heap.size, 0, none⟩) := hval 4 13 (by kernel_rfl) rfl
      have c14 : w5.cell? ⟨w.heap.size, 0, none⟩ = some (.pointer (some ⟨gt, 0, none⟩)) := ((hS.bk Hs2.out (fun h => hgs (show w.heap.size = gv from h).symm)).cell 0).trans rfl
      go_simp
      exact hK _ _ (kstep_grow (Below.refl _ _)) rfl
    refine steps_cons ?_ ?_
    · refine step_on3 rfl rfl ?_
      intro ev w5 hS hU hc hf hold hval a K ha hK
      replace hS : Keep (fun b => b = gv) W w5 := ⟨hS.os, hS.tape, hS.output, hS.size, hS.block⟩
      clear hU
      have e14 : ev (.tmp 14) = .pointer (some ⟨gt, 0, none⟩) := hval 5 14 (by kernel_rfl) rfl
      go_simp
      refine (TreeVisits_any gt vt w5 ((hS.cell htlt hgvt).trans Hvt.out)).mono ?_
      rintro e w8 ⟨rfl, hb8⟩
      exact hK _ _ (kstep_grow hb8) rfl
    refine steps_cons ?_ ?_
    · refine step_on3 rfl rfl ?_
      intro ev w5 hS hU hc hf hold hval a K ha hK
      replace hS : Keep (fun b => b = gv) W w5 := ⟨hS.os, hS.tape, hS.output, hS.size, hS.block⟩
      clear hU
      have e12 : ev (.tmp 12) = .int .i64 v1 := hval 3 12 (by kernel_rfl) rfl
      have e15 : ev (.tmp 15) = .int .i64 vt := hval 6 15 (by kernel_rfl) rfl
      go_simp
      exact hK _ _ (kstep_grow (Below.refl _ _)) rfl
    refine steps_cons ?_ ?_
    · refine step_on3 rfl rfl ?_
      intro ev w5 hS hU hc hf hold hval a K ha hK
      replace hS : Keep (fun b => b = gv) W w5 := ⟨hS.os, hS.tape, hS.output, hS.size, hS.block⟩
      clear hU
      have e9 : ev (.tmp 9) = .pointer (some ⟨gv, 0, none⟩) := hval 0 9 (by kernel_rfl) rfl
      go_simp
      exact hK _ _ (kstep_grow (Below.refl _ _)) rfl
    refine steps_cons ?_ ?_
    · refine step_on3 rfl rfl ?_
      intro ev w5 hS hU hc hf hold hval a K ha hK
      replace hS : Keep (fun b => b = gv) W w5 := ⟨hS.os, hS.tape, hS.output, hS.size, hS.block⟩
      clear hU
      have e17 : ev (.tmp 17) = .pointer (some ⟨gv, 0, none⟩) := hval 8 17 (by kernel_rfl) rfl
      go_simp
      exact hK _ _ (kstep_grow (Below.refl _ _)) rfl
    refine steps_cons ?_ ?_
    · refine step_on3 rfl rfl ?_
      intro ev w5 hS hU hc hf hold hval a K ha hK
      replace hS : Keep (fun b => b = gv) W w5 := ⟨hS.os, hS.tape, hS.output, hS.size, hS.block⟩
      have hpre := hU rfl
      clear hU
      have e18 : ev (.tmp 18) = .pointer (some ⟨gv, 10, none⟩) := hval 9 18 (by kernel_rfl) rfl
      have e16 : ev (.tmp 16) = .int .i64 (IntKind.i64.wrap (v1 + vt)) := hval 7 16 (by kernel_rfl) rfl
      have c18 : w5.cell? ⟨gv, 10, none⟩ = some (.int .i64 v1) := (hpre.cell 10).trans (wcells_get _ _ _).2.2.2.2.2.2.2.2.2.2
      have f18 := hpre.frozen 10
      go_simp
      refine hK (.bool true) _ (kstep_keep (Keep.setCell (F := fun b => b = gv) (Keep.refl _ _) (p := ⟨gv, 10, none⟩) (.inl rfl) _)) ?_
      rw [← wcells_visits S n v1]
      exact hpre.set 10 _
    exact steps_nil
  · intro ev w6 hS hval hall
    replace hS : Keep (fun b => b = gv) W w6 := ⟨hS.os, hS.tape, hS.output, hS.size, hS.block⟩
    obtain ⟨vJ, pJ⟩ : ∃ vJ0, (fun _ w2 => Bk w2 gv 165 (wcells S n (IntKind.i64.wrap (v1 + vt)))) vJ0 w6 := hall 10 (by decide)
    simp only [putsOf, List.foldl_cons, List.foldl_nil, Act.put, List.setIfInBounds_toArray, List.set_cons_zero, List.set_cons_succ]
    clear hval hall
    have hv6 := Vis.of_wave hS Hw2.out pJ
    have h1 := VisF.trans HF.out (VisF.of_vis hv6)
    have h2 := HK.out.trans (hS.mono fun b _ e => .inl e)
    have h3 := hS.bk HN.out (fun e => hgn (show gn = gv from e).symm)
    have H1 := Lib.hid h1
    have H2 := Lib.hid h2
    have H3 := Lib.hid h3
    clear hv6 h1 h2 h3 pJ hS
    go_wp2_with fail
    go_end0
    exact ⟨rfl, H1.out, H2.out, H3.out⟩
end Go.Proofs.YtnileogagoipiaaGreatDoor
namespace Go.Proofs.YtnileogagoipiaaGreatDoor
open Go.RowKit
set_option linter.unusedVariables false
set_option linter.unusedSimpArgs false
set_option maxRecDepth 100000 in
theorem Next_any (gt lv p : Nat) (b : Bool) (w : World) (hp : p ≤ 1000) :
    Calls Tryz.prog 149 #[.agg #[.pointer (some ⟨gt, 0, none⟩), .int .i64 (lv : Int), .int .i64 (p : Int)], .bool b] w fun e w' => e = .returned (.int .i64 ((2 * p + (if b then 1 else 0) : Nat) : Int)) ∧ Below w.heap.size w w' := by
  have e1 : IntKind.i64.wrap (2 * (p : Int)) = 2 * (p : Int) := by rw [IntKind.wrap_i64]; omega
  have e2 : IntKind.i64.wrap (2 * (p : Int) + 1) = 2 * (p : Int) + 1 := by rw [IntKind.wrap_i64]; omega
  go_enter Tryz.func149, Tryz.ntmps149
  cases b with
  | true =>
    go_wp2_with fail
    go_ret
    exact ⟨ret_i64 (by simp), (Below.refl _ _).alloc (Nat.le_refl _) _⟩
  | false =>
    go_wp2_with fail
    go_ret
    exact ⟨ret_i64 (by simp), (Below.refl _ _).alloc (Nat.le_refl _) _⟩
set_option maxRecDepth 100000 in
set_option maxHeartbeats 4000000 in
theorem WaveGet_any (B gv : Nat) (L : List Nat) (k s : Nat) (w : World) (h : WaveAt w B gv L) (hk : k < L.length) (hks : L[k] = s) (hL : ∀ x ∈ L, x < 257) (hn : L.length ≤ 1000) :
    Calls Tryz.prog 89 #[.pointer (some ⟨gv, 0, none⟩), .int .i64 (k : Int)] w fun e w' => e = .returned (.tuple #[.int .i64 (s : Int), .int .i64 0]) ∧ VB B w w' := by
  have hs : s < 257 := by rw [← hks]; exact hL _ (List.getElem_mem hk)
  have h90 := atLv_zero L k s (Nat.le_of_lt hk) hL hs
  have p0 := path_zero s hs
  have p9 := path_nine s
  have hat : ∀ lv, (bitsOf L lv (pathN s lv))[atLv L k s lv]? = some (bitB s lv) := fun lv => by
    have := bits_at L k lv hk
    rw [hks] at this
    exact this
  obtain ⟨hBg, S, v, hb, hrows⟩ := h
  have hlt := hb.lt
  have hB : B ≤ w.heap.size := by omega
  have hset := (hb.set 10 (.int .i64 0)).alloc (.cells #[.int .i64 (k : Int)] 3)
  rw [wcells_visits] at hset
  have hv1 := VisK.alloc (VB.set_wave hb hBg 0) (.cells #[.int .i64 (k : Int)] 3)
  have hgk := Bk.new (w.setCell ⟨gv, 10, none⟩ (.int .i64 0)) 3 #[.int .i64 (k : Int)]
  rw [show (w.setCell ⟨gv, 10, none⟩ (.int .i64 0)).heap.size = w.heap.size by simp [World.setCell]] at hgk
  obtain ⟨n, hnn⟩ : ∃ n, L.length = n := ⟨_, rfl⟩
  rw [hnn] at hb hset hk hn
  have f10 := hb.frozen 10
  have x10 : w.cell? ⟨gv, 10, none⟩ = some (.int .i64 v) := (hb.cell 10).trans (wcells_get S n v).2.2.2.2.2.2.2.2.2.2
  obtain ⟨W, hW⟩ : ∃ W, (w.setCell ⟨gv, 10, none⟩ (.int .i64 0)).alloc (.cells #[.int .i64 (k : Int)] 3) = W := ⟨_, rfl⟩
  rw [hW] at hset hv1 hgk
  obtain ⟨d0, d1, d2, d3, d4, d5, d6, d7, d8, d9, d10⟩ := wcells_get S (n : Int) 0
  have c0 : ∀ q, (W.drewN q).cell? ⟨gv, 0, none⟩ = some (S 0) := fun q => (hset.cell 0).trans d0
  have c1 : ∀ q, (W.drewN q).cell? ⟨gv, 1, none⟩ = some (S 1) := fun q => (hset.cell 1).trans d1
  have c2 : ∀ q, (W.drewN q).cell? ⟨gv, 2, none⟩ = some (S 2) := fun q => (hset.cell 2).trans d2
  have c3 : ∀ q, (W.drewN q).cell? ⟨gv, 3, none⟩ = some (S 3) := fun q => (hset.cell 3).trans d3
  have c4 : ∀ q, (W.drewN q).cell? ⟨gv, 4, none⟩ = some (S 4) := fun q => (hset.cell 4).trans d4
  have c5 : ∀ q, (W.drewN q).cell? ⟨gv, 5, none⟩ = some (S 5) := fun q => (hset.cell 5).trans d5
  have c6 : ∀ q, (W.drewN q).cell? ⟨gv, 6, none⟩ = some (S 6) := fun q => (hset.cell 6).trans d6
  have c7 : ∀ q, (W.drewN q).cell? ⟨gv, 7, none⟩ = some (S 7) := fun q => (hset.cell 7).trans d7
  have c8 : ∀ q, (W.drewN q).cell? ⟨gv, 8, none⟩ = some (S 8) := fun q => (hset.cell 8).trans d8
  have c9 : W.cell? ⟨gv, 9, none⟩ = some (.int .i64 (n : Int)) := (hset.cell 9).trans d9
  have ck : W.cell? ⟨w.heap.size, 0, none⟩ = some (.int .i64 (k : Int)) := (hgk.cell 0).trans rfl
  have c9q : ∀ q, (W.drewN q).cell? ⟨gv, 9, none⟩ = some (.int .i64 (n : Int)) := fun q => c9
  have ckq : ∀ q, (W.drewN q).cell? ⟨w.heap.size, 0, none⟩ = some (.int .i64 (k : Int)) := fun q => ck
  have hk0 : decide ((k : Int) < 0) = false := by simp
  have hkn : ¬ n ≤ k := by omega
  have Hv1 := Lib.hid hv1
  have Hset := Lib.hid hset
  have Hgk := Lib.hid hgk
  have Hrows := Lib.hid hrows
  have H0 := Lib.hid h90
  have P0 := Lib.hid p0
  have P9 := Lib.hid p9
  have Hat := Lib.hid hat
  have HL := Lib.hid hL
  have HN := Lib.hid hnn
  have HW := Lib.hid hW
  have Hks := Lib.hid hks
  have Hb0 := Lib.hid hb
  have Hk := Lib.hid hk
  clear d0 d1 d2 d3 d4 d5 d6 d7 d8 d9 d10 hv1 hset hgk hrows h90 p0 p9 hat hL hnn hW hb hks hk
  go_enter Tryz.func89, Tryz.ntmps89
  go_wp2_with fail
  rw [HW.out]
  clear x10 f10
  go_quiet (fail)
  clear c9 ck hk0
  go_wp2_with fail
  go_loopw [6, 30] (fun x i wr => ∃ lv : Nat, lv ≤ 9 ∧ i = .int .i64 lv ∧ x = .int .i64 ((pathN s lv : Nat) : Int) ∧ VB B w wr ∧ Bk wr w.heap.size 3 #[.int .i64 ((atLv L k s lv : Nat) : Int)] ∧ w.heap.size < wr.heap.size) (fun _ i _ => 9 - (intOf i).toNat)
  case atStart => exact ⟨0, by omega, rfl, by rw [P0.out]; rfl, Hv1.out.below (below_drewN (Below.refl _ _) _), by rw [H0.out]; exact Hgk.out.drewN _, Hgk.out.lt⟩
  case round =>
    obtain ⟨lv, hlv, rfl, rfl, hv, hgk, hgl0⟩ := hrel
    by_cases hl9 : lv < 9
    · have hix := ix9 S lv hl9
      obtain ⟨G, hown, htr⟩ := Hrows.out lv hl9
      obtain ⟨m, hm⟩ : ∃ m, 2 ^ lv = m := ⟨_, rfl⟩
      obtain ⟨p, hp⟩ : ∃ p, pathN s lv = p := ⟨_, rfl⟩
      have hpm : p < m := by rw [← hm, ← hp]; exact path_lt s lv hs (by omega)
      rw [hm] at hown htr
      obtain ⟨g, cap, hSl, hnc, hgl⟩ := World.ownsRow.form hown (by omega)
      rw [hSl] at hix hown
      obtain ⟨x, hx⟩ : ∃ x, atLv L k s lv = x := ⟨_, rfl⟩
      obtain ⟨y, hy⟩ : ∃ y, atLv L k s (lv + 1) = y := ⟨_, rfl⟩
      obtain ⟨b, hbb⟩ : ∃ b, bitB s lv = b := ⟨_, rfl⟩
      have hxy := atLv_step L k s lv hl9
      have hxa := Hat.out lv
      rw [hp, hx, hbb, hy] at hxy
      rw [hp, hx, hbb] at hxa
      have hxl : x < (bitsOf L lv p).length := (List.getElem?_eq_some_iff.1 hxa).1
      have hxd : (bitsOf L lv p).getD x false = b := by rw [List.getD_eq_getElem?_getD, hxa]; rfl
      have hps := path_step s lv hl9
      rw [hp, hbb] at hps
      rw [hp]
      rw [hx] at hgk
      have hpI : (p : Int) < (m : Int) := by omega
      have hrow5 := hv.1.own hown (by decide) (by decide)
      obtain ⟨q0, q1, q2⟩ := shelfL_get G lv m p hpm
      have a0 : wr.cell? ⟨g, p * 3, none⟩ = _ := (World.ownsRow.cellAt hrow5 (p * 3) (by omega)).trans q0
      have a1 : wr.cell? ⟨g, p * 3 + 1, none⟩ = _ := (World.ownsRow.cellAt hrow5 (p * 3 + 1) (by omega)).trans q1
      have a2 : wr.cell? ⟨g, p * 3 + 2, none⟩ = _ := (World.ownsRow.cellAt hrow5 (p * 3 + 2) (by omega)).trans q2
      have Hgk2 := Lib.hid hgk
      have Hxy := Lib.hid hxy
      have Hxl := Lib.hid hxl
      have Hxd := Lib.hid hxd
      have Hps := Lib.hid hps
      have Htr := Lib.hid (htr p hpm)
      have Hp := Lib.hid hp
      have Hb := Lib.hid hbb
      have Hy := Lib.hid hy
      have Hv := Lib.hid hv
      clear hown htr hSl hm hp hx hy hbb hxy hxa hxl hxd hps hv hgk hrow5 q0 q1 q2
      go_wp2_with fail
      obtain ⟨W2, hW2⟩ : ∃ W2, (wr.alloc (.cells #[.pointer (some ⟨G p, 0, none⟩), .int .i64 (lv : Int), .int .i64 (p : Int)] 170)).alloc (.cells #[.bool false] 4) = W2 := ⟨_, rfl⟩
      have hb2 : Below wr.heap.size wr W2 := by rw [← hW2]; exact ((Below.refl _ _).alloc (Nat.le_refl _) _).alloc (by simp) _
      have hsh : Bk W2 wr.heap.size 170 #[.pointer (some ⟨G p, 0, none⟩), .int .i64 (lv : Int), .int .i64 (p : Int)] := by rw [← hW2]; exact (Bk.new wr _ _).alloc _
      have hbt : Bk W2 (wr.heap.size + 1) 4 #[.bool false] := by
        rw [← hW2]
        have h := Bk.new (wr.alloc (.cells #[.pointer (some ⟨G p, 0, none⟩), .int .i64 (lv : Int), .int .i64 (p : Int)] 170)) 4 #[.bool false]
        rw [World.size_alloc] at h
        exact h
      rw [hW2]
      have hv2 : VB B w W2 := Hv.out.below hb2
      obtain ⟨v2, hw2⟩ := hv2.1.waveC Hb0.out
      have ht0 := Htr.out.2.vis Hv.out.1
      have hgk2 := Hgk2.out.below hb2 Hgk2.out.lt
      refine (LookG_any gv (G p) w.heap.size (wr.heap.size + 1) S n v2 lv p _ (bitsOf L lv p) x wr W2 hw2 ht0 (Vis.of_below hb2) (by omega) hgk2 hbt Hxl.out).mono ?_
      rintro e W3 ⟨rfl, hf3, hk3, hbt3⟩
      rw [Hxd.out] at hbt3
      have hgk3 := hf3.bk hgk2 (by decide) (by decide) (fun h => absurd (show w.heap.size = wr.heap.size + 1 from h) (by omega))
      have hsh3 := hf3.bk hsh (by decide) (by decide) (fun h => absurd (show wr.heap.size = wr.heap.size + 1 from h) (by omega))
      have hv3 : VB B wr W3 := ⟨VisF.to_vis (VisF.trans (VisF.of_vis (Vis.of_below hb2)) hf3) (fun b hb e => by have : b = wr.heap.size + 1 := e; omega), (Keep.of_below hb2).trans (hk3.mono fun b _ e => by
        rcases e with rfl | rfl | rfl
        · exact hBg
        · exact Htr.out.1
        · omega)⟩
      have hvw3 := Hv.out.trans hv3
      have Hgk3 := Lib.hid hgk3
      have Hsh3 := Lib.hid hsh3
      have Hbt3 := Lib.hid hbt3
      have Hv3 := Lib.hid hvw3
      have hgs3 := hgk3.lt
      have hss3 := hsh3.lt
      have hbs3 := hbt3.lt
      obtain ⟨r, hr⟩ : ∃ r, pathN s (lv + 1) = r := ⟨_, rfl⟩
      have hps2 := Hps.out
      rw [hr] at hps2
      have Hr := Lib.hid hr
      have Hps2 := Lib.hid hps2
      have hp512 : p ≤ 1000 := by
        have h1 := path_lt s lv hs (by omega)
        have h2 : 2 ^ lv ≤ 2 ^ 9 := Nat.pow_le_pow_right (by decide) (by omega)
        rw [Hp.out] at h1
        omega
      clear hW2 hb2 hsh hbt hv2 hw2 ht0 hgk2 hf3 hk3 hbt3 hgk3 hsh3 hv3 hvw3 hr hps2 a0 a1 a2
      go_wp2_with fail
      refine wp_region_any (by kernel_rfl) ?_
      refine wpAny_vis_tail B 8 [41, 42, 43, 44, 45, 46, 47, 48] (fun _ => False) 7 [] (fun _ => True) (is (.int .i64 (r : Int))) [is (.pointer (some ⟨gv, 0, none⟩)), is (.agg #[.pointer (some ⟨G p, 0, none⟩), .int .i64 (lv : Int), .int .i64 (p : Int)]), is (.int .i64 (x : Int)), is (.bool b), is (.int .i64 (y : Int)), is (.agg #[.pointer (some ⟨G p, 0, none⟩), .int .i64 (lv : Int), .int .i64 (p : Int)]), is (.bool b), anyV] _ _ rfl (by decide) (by kernel_rfl) (by kernel_rfl) (by kernel_rfl) (trivial) (fun _ _ _ _ _ => trivial) (stbs_is _ _) (by repeat' (first | exact stbs_is _ _ | exact stbs_any _ | (refine List.forall_mem_cons.2 ⟨?_, ?_⟩) | (intro p hp; cases hp))) ?_ ?_
      · refine steps_of_n ?_
        refine steps_cons ?_ ?_
        · refine step_on3 rfl rfl ?_
          intro ev w5 hS hU hc hf hold hval a K ha hK
          replace hS : VFB B (fun _ => False) W3 w5 := ⟨⟨hS.1.os, hS.1.tape, hS.1.output, hS.1.size, hS.1.block⟩, ⟨hS.2.os, hS.2.tape, hS.2.output, hS.2.size, hS.2.block⟩⟩
          clear hU
          have e0 : ev (.tmp 0) = .pointer (some ⟨gv, 0, none⟩) := hold 0 (by kernel_rfl)
          go_simp
          exact hK _ _ (vstep_vis (VisK.refl _ _)) rfl
        refine steps_cons ?_ ?_
        · refine step_on3 rfl rfl ?_
          intro ev w5 hS hU hc hf hold hval a K ha hK
          replace hS : VFB B (fun _ => False) W3 w5 := ⟨⟨hS.1.os, hS.1.tape, hS.1.output, hS.1.size, hS.1.block⟩, ⟨hS.2.os, hS.2.tape, hS.2.output, hS.2.size, hS.2.block⟩⟩
          clear hU
          have e9 : ev (.tmp 9) = .pointer (some ⟨wr.heap.size, 0, none⟩) := hold 9 (by kernel_rfl)
          have hs5 := hS.1.bk Hsh3.out (by decide) (by decide) (fun h => h)
          have s0 : w5.cell? ⟨wr.heap.size, 0, none⟩ = some (.pointer (some ⟨G p, 0, none⟩)) := (hs5.cell 0).trans rfl
          have s1 : w5.cell? ⟨wr.heap.size, 1, none⟩ = some (.int .i64 (lv : Int)) := (hs5.cell 1).trans rfl
          have s2 : w5.cell? ⟨wr.heap.size, 2, none⟩ = some (.int .i64 (p : Int)) := (hs5.cell 2).trans rfl
          go_simp
          exact hK _ _ (vstep_vis (VisK.refl _ _)) rfl
        refine steps_cons ?_ ?_
        · refine step_on3 rfl rfl ?_
          intro ev w5 hS hU hc hf hold hval a K ha hK
          replace hS : VFB B (fun _ => False) W3 w5 := ⟨⟨hS.1.os, hS.1.tape, hS.1.output, hS.1.size, hS.1.block⟩, ⟨hS.2.os, hS.2.tape, hS.2.output, hS.2.size, hS.2.block⟩⟩
          clear hU
          have e3 : ev (.tmp 3) = .pointer (some ⟨w.heap.size, 0, none⟩) := hold 3 (by kernel_rfl)
          have k5 : w5.cell? ⟨w.heap.size, 0, none⟩ = some (.int .i64 (x : Int)) := ((hS.1.bk Hgk3.out (by decide) (by decide) (fun h => h)).cell 0).trans rfl
          go_simp
          exact hK _ _ (vstep_vis (VisK.refl _ _)) rfl
        refine steps_cons ?_ ?_
        · refine step_on3 rfl rfl ?_
          intro ev w5 hS hU hc hf hold hval a K ha hK
          replace hS : VFB B (fun _ => False) W3 w5 := ⟨⟨hS.1.os, hS.1.tape, hS.1.output, hS.1.size, hS.1.block⟩, ⟨hS.2.os, hS.2.tape, hS.2.output, hS.2.size, hS.2.block⟩⟩
          clear hU
          have e10 : ev (.tmp 10) = .pointer (some ⟨wr.heap.size + 1, 0, none⟩) := hold 10 (by kernel_rfl)
          have b5 : w5.cell? ⟨wr.heap.size + 1, 0, none⟩ = some (.bool b) := ((hS.1.bk Hbt3.out (by decide) (by decide) (fun h => h)).cell 0).trans rfl
          go_simp
          exact hK _ _ (vstep_vis (VisK.refl _ _)) rfl
        refine steps_cons ?_ ?_
        · refine step_on3 rfl rfl ?_
          intro ev w5 hS hU hc hf hold hval a K ha hK
          replace hS : VFB B (fun _ => False) W3 w5 := ⟨⟨hS.1.os, hS.1.tape, hS.1.output, hS.1.size, hS.1.block⟩, ⟨hS.2.os, hS.2.tape, hS.2.output, hS.2.size, hS.2.block⟩⟩
          clear hU
          have e41 : ev (.tmp 41) = .pointer (some ⟨gv, 0, none⟩) := hval 0 41 (by kernel_rfl) rfl
          have e42 : ev (.tmp 42) = .agg #[.pointer (some ⟨G p, 0, none⟩), .int .i64 (lv : Int), .int .i64 (p : Int)] := hval 1 42 (by kernel_rfl) rfl
          have e43 : ev (.tmp 43) = .int .i64 (x : Int) := hval 2 43 (by kernel_rfl) rfl
          have e44 : ev (.tmp 44) = .bool b := hval 3 44 (by kernel_rfl) rfl
          go_simp
          have hvs := VFB.to_vb hS (fun b _ h => h)
          have hvw := Hv3.out.trans hvs
          obtain ⟨v5, hw5⟩ := hvw.1.waveC Hb0.out
          have ht5 := Htr.out.2.vis hvw.1
          refine (WRank1_any gv (G p) S n v5 lv p (bitsOf L lv p) x b w5 hw5 ht5 (Nat.le_of_lt Hxl.out)).mono ?_
          rintro e w8 ⟨rfl, hv8⟩
          rw [Hxy.out]
          exact hK _ _ (vstep_vis (hv8.mono fun b hb => by rcases hb with rfl | rfl; exact hBg; exact Htr.out.1)) rfl
        refine steps_cons ?_ ?_
        · refine step_on3 rfl rfl ?_
          intro ev w5 hS hU hc hf hold hval a K ha hK
          replace hS : VFB B (fun _ => False) W3 w5 := ⟨⟨hS.1.os, hS.1.tape, hS.1.output, hS.1.size, hS.1.block⟩, ⟨hS.2.os, hS.2.tape, hS.2.output, hS.2.size, hS.2.block⟩⟩
          clear hU
          have e9 : ev (.tmp 9) = .pointer (some ⟨wr.heap.size, 0, none⟩) := hold 9 (by kernel_rfl)
          have hs5 := hS.1.bk Hsh3.out (by decide) (by decide) (fun h => h)
          have s0 : w5.cell? ⟨wr.heap.size, 0, none⟩ = some (.pointer (some ⟨G p, 0, none⟩)) := (hs5.cell 0).trans rfl
          have s1 : w5.cell? ⟨wr.heap.size, 1, none⟩ = some (.int .i64 (lv : Int)) := (hs5.cell 1).trans rfl
          have s2 : w5.cell? ⟨wr.heap.size, 2, none⟩ = some (.int .i64 (p : Int)) := (hs5.cell 2).trans rfl
          go_simp
          exact hK _ _ (vstep_vis (VisK.refl _ _)) rfl
        refine steps_cons ?_ ?_
        · refine step_on3 rfl rfl ?_
          intro ev w5 hS hU hc hf hold hval a K ha hK
          replace hS : VFB B (fun _ => False) W3 w5 := ⟨⟨hS.1.os, hS.1.tape, hS.1.output, hS.1.size, hS.1.block⟩, ⟨hS.2.os, hS.2.tape, hS.2.output, hS.2.size, hS.2.block⟩⟩
          clear hU
          have e10 : ev (.tmp 10) = .pointer (some ⟨wr.heap.size + 1, 0, none⟩) := hold 10 (by kernel_rfl)
          have b5 : w5.cell? ⟨wr.heap.size + 1, 0, none⟩ = some (.bool b) := ((hS.1.bk Hbt3.out (by decide) (by decide) (fun h => h)).cell 0).trans rfl
          go_simp
          exact hK _ _ (vstep_vis (VisK.refl _ _)) rfl
        refine steps_cons ?_ ?_
        · refine step_on3 rfl rfl ?_
          intro ev w5 hS hU hc hf hold hval a K ha hK
          replace hS : VFB B (fun _ => False) W3 w5 := ⟨⟨hS.1.os, hS.1.tape, hS.1.output, hS.1.size, hS.1.block⟩, ⟨hS.2.os, hS.2.tape, hS.2.output, hS.2.size, hS.2.block⟩⟩
          clear hU
          have e46 : ev (.tmp 46) = .agg #[.pointer (some ⟨G p, 0, none⟩), .int .i64 (lv : Int), .int .i64 (p : Int)] := hval 5 46 (by kernel_rfl) rfl
          have e47 : ev (.tmp 47) = .bool b := hval 6 47 (by kernel_rfl) rfl
          go_simp
          refine (Next_any (G p) lv p b w5 hp512).mono ?_
          rintro e w8 ⟨rfl, hb8⟩
          rw [← Hps2.out]
          exact hK _ _ (vstep_vis (VisK.of_below hb8)) rfl
        exact steps_nil
      · intro ev w6 f hS hval hall
        replace hS : VFB B (fun _ => False) W3 w6 := ⟨⟨hS.1.os, hS.1.tape, hS.1.output, hS.1.size, hS.1.block⟩, ⟨hS.2.os, hS.2.tape, hS.2.output, hS.2.size, hS.2.block⟩⟩
        have e45 : ev (.tmp 45) = .int .i64 (y : Int) := hval 4 45 (by decide) rfl
        have e48 : ev (.tmp 48) = .int .i64 (r : Int) := hval 7 48 (by decide) rfl
        obtain ⟨vJ, pJ0⟩ := hall 7 (by decide)
        have pJ : (is (.int .i64 (r : Int))) vJ w6 := pJ0
        clear pJ0 hall
        simp only [putsOf, List.foldl_cons, List.foldl_nil, Act.put, List.setIfInBounds_toArray, List.set_cons_zero, List.set_cons_succ]
        rw [e45]
        rw [e48]
        clear hval
        have hvs := VFB.to_vb hS (fun b _ h => h)
        have hgk6 := hvs.1.bk Hgk3.out (by decide) (by decide)
        have c6k := hgk6.cell 0
        have f6k := hgk6.frozen 0
        have hs6 := hvs.1.size
        have Hvs := Lib.hid hvs
        have Hgk6 := Lib.hid hgk6
        clear hvs hgk6 hS pJ
        change wpAny Tryz.prog Region.Mode.any _ _ (2 + f) (firstN 8 10) _ w6
        rw [show 2 + f = f + 1 + 1 by omega]
        refine wpAny_one (f := f + 1) (i := 8) (by kernel_rfl) ?_
        refine wpOp_run rfl rfl ?_
        generalize hK : wpAny Tryz.prog _ _ _ (f + 1) _ = K5
        go_simp
        subst hK
        refine wpAny_one (f := f) (i := 9) (by kernel_rfl) ?_
        refine wpOp_run rfl rfl ?_
        generalize hK : wpAny Tryz.prog _ _ _ f _ = K5
        go_simp
        subst hK
        refine wpAny_all (by kernel_rfl) ?_
        have hgk7 := Hgk6.out.set 0 (.int .i64 (y : Int))
        have hv7 := Hv3.out.trans Hvs.out
        have hv8 : VB B w (w6.setCell ⟨w.heap.size, 0, none⟩ (.int .i64 (y : Int))) := ⟨Vis.fresh hv7.1 (p := ⟨w.heap.size, 0, none⟩) (Nat.le_refl _) _, Keep.setCell (F := fun b => B ≤ b) hv7.2 (p := ⟨w.heap.size, 0, none⟩) (.inl hB) _⟩
        have Hv8 := Lib.hid hv8
        have Hgk7 := Lib.hid hgk7
        clear hv7 hv8 hgk7
        go_wp2_with fail
        go_roundw
        case rel => exact ⟨lv + 1, by omega, by go_num, by rw [Hr.out], Hv8.out, by rw [Hy.out]; exact Hgk7.out, Hgk7.out.lt⟩
        case measure => simp [intOf]; omega
    · obtain rfl : lv = 9 := by omega
      rw [P9.out]
      go_wp2_with fail
      go_ret2
      exact ⟨rfl, hv⟩
end Go.Proofs.YtnileogagoipiaaGreatDoor
namespace Go.Proofs.YtnileogagoipiaaGreatDoor
open Go.RowKit
set_option linter.unusedVariables false
set_option linter.unusedSimpArgs false
set_option maxRecDepth 100000 in
theorem WalkIs_any (B gk : Nat) (L : List Nat) (i : Nat) (w : World) (h : WalkAt w B gk L) (hi : i < L.length) :
    Calls Tryz.prog 109 #[.pointer (some ⟨gk, 0, none⟩), .int .i64 (i : Int)] w fun e w' => e = .returned (.bool true) ∧ w = w' := by
  obtain ⟨n, hn⟩ : ∃ n, L.length = n := ⟨_, rfl⟩
  rw [hn] at hi
  have hiI : (i : Int) < (n : Int) := by omega
  have Hn := Lib.hid hn
  have H := Lib.hid h
  clear hn h
  go_enter Tryz.func109, Tryz.ntmps109
  go_wp2_with fail
  refine (WalkLen_any B gk L w H.out).mono ?_
  rintro e w' ⟨rfl, rfl⟩
  rw [Hn.out]
  go_wp2_with fail
  go_ret
  exact ⟨rfl, rfl⟩
set_option maxRecDepth 100000 in
set_option maxHeartbeats 2000000 in
theorem WalkBack_any (B gk : Nat) (L : List Nat) (i s : Nat) (w : World) (h : WalkAt w B gk L) (his : L[i]? = some s) (hL : ∀ x ∈ L, x < 257) (hl : L.length ≤ 1000) :
    Calls Tryz.prog 107 #[.pointer (some ⟨gk, 0, none⟩), .int .i64 (i : Int)] w fun e w' => e = .returned (.int .i64 ((narL L s i : Nat) : Int)) ∧ VB B w w' := by
  have hi := (List.getElem?_eq_some_iff.1 his).1
  have hs : s < 257 := hL _ (List.mem_of_getElem? his)
  have hH := h
  obtain ⟨gv, gt, h1, h2, h3⟩ := h
  have c0 := h1.cell 0
  have hlt := h1.lt
  obtain ⟨j, hj⟩ : ∃ j, narL L s i = j := ⟨_, rfl⟩
  obtain ⟨q1, hq1⟩ : ∃ q, L.countP (fun x => decide (x < s)) = q := ⟨_, rfl⟩
  obtain ⟨q2, hq2⟩ : ∃ q, (L.take i).count s = q := ⟨_, rfl⟩
  have hj2 : q1 + q2 = j := by rw [← hq1, ← hq2, ← hj]; rfl
  have hb1 : q1 ≤ 1000 := by rw [← hq1]; exact Nat.le_trans List.countP_le_length hl
  have hb2 : q2 ≤ 1000 := by rw [← hq2]; exact Nat.le_trans List.count_le_length (by rw [List.length_take]; omega)
  rw [hj]
  have H := Lib.hid hH
  have H1 := Lib.hid h1
  have H2 := Lib.hid h2
  have Hi := Lib.hid hi
  have His := Lib.hid his
  have HL := Lib.hid hL
  have Hl := Lib.hid hl
  have Hq1 := Lib.hid hq1
  have Hq2 := Lib.hid hq2
  have Hj := Lib.hid hj2
  clear hH h1 h2 h3 hi his hL hl hq1 hq2 hj hj2
  go_enter Tryz.func107, Tryz.ntmps107
  go_wp2_with fail
  refine (WalkIs_any B gk L i w H.out Hi.out).mono ?_
  rintro e w1 ⟨rfl, rfl⟩
  go_wp2_with fail
  refine (WaveGet_any B gv L i s w H2.out Hi.out (List.getElem?_eq_some_iff.1 His.out).2 HL.out Hl.out).mono ?_
  rintro e W ⟨rfl, hv⟩
  have hW := H.out.vis hv.1
  have h1W := hv.1.bk H1.out (by decide) (by decide)
  have h2W := H2.out.vis hv.1
  have HW := Lib.hid hW
  have H1W := Lib.hid h1W
  have H2W := Lib.hid h2W
  have Hv := Lib.hid hv
  clear hW h1W h2W hv c0
  go_wp2_with fail
  refine wp_region_any (by kernel_rfl) ?_
  refine wpAny_loose2 [20, 21, 22, 23, 24, 25, 26, 27, 28, 29, 30, 4] (VB B) (Vs [is (.pointer (some ⟨gk, 0, none⟩)), is (.int .i64 (s : Int)), is (.int .i64 (q1 : Int)), is (.pointer (some ⟨gk, 0, none⟩)), is (.pointer (some ⟨gk, 0, none⟩)), is (.pointer (some ⟨gk, 0, none⟩)), is (.pointer (some ⟨gv, 0, none⟩)), is (.int .i64 (i : Int)), is (.int .i64 (s : Int)), is (.int .i64 (q2 : Int)), is (.int .i64 (j : Int)), is (.int .i64 (j : Int))]) _ _ rfl (by kernel_rfl) (VisK.refl _ _) (fun _ _ => VisK.trans) (stbs_all (by repeat' (first | exact stbs_is _ _ | exact stbs_any _ | (refine List.forall_mem_cons.2 ⟨?_, ?_⟩) | (intro p hp; cases hp)))) ?_ ?_
  · refine steps_of ?_
    refine steps_cons ?_ ?_
    · refine step_on rfl rfl ?_
      intro ev w5 hS hc hf hold hval a K ha hK
      have e0 : ev (.tmp 0) = .pointer (some ⟨gk, 0, none⟩) := hold 0 (by kernel_rfl)
      replace hS : (VB B) W w5 := ⟨⟨hS.1.os, hS.1.tape, hS.1.output, hS.1.size, hS.1.block⟩, ⟨hS.2.os, hS.2.tape, hS.2.output, hS.2.size, hS.2.block⟩⟩
      go_simp
      exact hK _ _ ((VisK.refl _ _)) rfl
    refine steps_cons ?_ ?_
    · refine step_on rfl rfl ?_
      intro ev w5 hS hc hf hold hval a K ha hK
      have e5 : ev (.tmp 5) = .int .i64 (s : Int) := hold 5 (by kernel_rfl)
      replace hS : (VB B) W w5 := ⟨⟨hS.1.os, hS.1.tape, hS.1.output, hS.1.size, hS.1.block⟩, ⟨hS.2.os, hS.2.tape, hS.2.output, hS.2.size, hS.2.block⟩⟩
      go_simp
      exact hK _ _ ((VisK.refl _ _)) rfl
    refine steps_cons ?_ ?_
    · refine step_on rfl rfl ?_
      intro ev w5 hS hc hf hold hval a K ha hK
      have e20 : ev (.tmp 20) = .pointer (some ⟨gk, 0, none⟩) := hval 0 20 (by kernel_rfl) rfl
      have e21 : ev (.tmp 21) = .int .i64 (s : Int) := hval 1 21 (by kernel_rfl) rfl
      replace hS : (VB B) W w5 := ⟨⟨hS.1.os, hS.1.tape, hS.1.output, hS.1.size, hS.1.block⟩, ⟨hS.2.os, hS.2.tape, hS.2.output, hS.2.size, hS.2.block⟩⟩
      go_simp
      refine (WalkBelow_any B gk L s w5 (HW.out.vis hS.1) hs Hl.out).mono ?_
      rintro e w8 ⟨rfl, hb8⟩
      rw [Hq1.out]
      exact hK _ _ (VisK.of_below hb8) rfl
    refine steps_cons ?_ ?_
    · refine step_on rfl rfl ?_
      intro ev w5 hS hc hf hold hval a K ha hK
      have e0 : ev (.tmp 0) = .pointer (some ⟨gk, 0, none⟩) := hold 0 (by kernel_rfl)
      replace hS : (VB B) W w5 := ⟨⟨hS.1.os, hS.1.tape, hS.1.output, hS.1.size, hS.1.block⟩, ⟨hS.2.os, hS.2.tape, hS.2.output, hS.2.size, hS.2.block⟩⟩
      go_simp
      exact hK _ _ ((VisK.refl _ _)) rfl
    refine steps_cons ?_ ?_
    · refine step_on rfl rfl ?_
      intro ev w5 hS hc hf hold hval a K ha hK
      have e23 : ev (.tmp 23) = .pointer (some ⟨gk, 0, none⟩) := hval 3 23 (by kernel_rfl) rfl
      replace hS : (VB B) W w5 := ⟨⟨hS.1.os, hS.1.tape, hS.1.output, hS.1.size, hS.1.block⟩, ⟨hS.2.os, hS.2.tape, hS.2.output, hS.2.size, hS.2.block⟩⟩
      go_simp
      exact hK _ _ ((VisK.refl _ _)) rfl
    refine steps_cons ?_ ?_
    · refine step_on rfl rfl ?_
      intro ev w5 hS hc hf hold hval a K ha hK
      have e24 : ev (.tmp 24) = .pointer (some ⟨gk, 0, none⟩) := hval 4 24 (by kernel_rfl) rfl
      replace hS : (VB B) W w5 := ⟨⟨hS.1.os, hS.1.tape, hS.1.output, hS.1.size, hS.1.block⟩, ⟨hS.2.os, hS.2.tape, hS.2.output, hS.2.size, hS.2.block⟩⟩
      go_simp
      exact hK _ _ ((VisK.refl _ _)) rfl
    refine steps_cons ?_ ?_
    · refine step_on rfl rfl ?_
      intro ev w5 hS hc hf hold hval a K ha hK
      have e25 : ev (.tmp 25) = .pointer (some ⟨gk, 0, none⟩) := hval 5 25 (by kernel_rfl) rfl
      replace hS : (VB B) W w5 := ⟨⟨hS.1.os, hS.1.tape, hS.1.output, hS.1.size, hS.1.block⟩, ⟨hS.2.os, hS.2.tape, hS.2.output, hS.2.size, hS.2.block⟩⟩
      have c26 : w5.cell? ⟨gk, 0, none⟩ = some (.pointer (some ⟨gv, 0, none⟩)) := ((hS.1.bk H1W.out (by decide) (by decide)).cell 0).trans rfl
      go_simp
      exact hK _ _ ((VisK.refl _ _)) rfl
    refine steps_cons ?_ ?_
    · refine step_on rfl rfl ?_
      intro ev w5 hS hc hf hold hval a K ha hK
      have e1 : ev (.tmp 1) = .int .i64 (i : Int) := hold 1 (by kernel_rfl)
      replace hS : (VB B) W w5 := ⟨⟨hS.1.os, hS.1.tape, hS.1.output, hS.1.size, hS.1.block⟩, ⟨hS.2.os, hS.2.tape, hS.2.output, hS.2.size, hS.2.block⟩⟩
      go_simp
      exact hK _ _ ((VisK.refl _ _)) rfl
    refine steps_cons ?_ ?_
    · refine step_on rfl rfl ?_
      intro ev w5 hS hc hf hold hval a K ha hK
      have e5 : ev (.tmp 5) = .int .i64 (s : Int) := hold 5 (by kernel_rfl)
      replace hS : (VB B) W w5 := ⟨⟨hS.1.os, hS.1.tape, hS.1.output, hS.1.size, hS.1.block⟩, ⟨hS.2.os, hS.2.tape, hS.2.output, hS.2.size, hS.2.block⟩⟩
      go_simp
      exact hK _ _ ((VisK.refl _ _)) rfl
    refine steps_cons ?_ ?_
    · refine step_on rfl rfl ?_
      intro ev w5 hS hc hf hold hval a K ha hK
      have e26 : ev (.tmp 26) = .pointer (some ⟨gv, 0, none⟩) := hval 6 26 (by kernel_rfl) rfl
      have e27 : ev (.tmp 27) = .int .i64 (i : Int) := hval 7 27 (by kernel_rfl) rfl
      have e28 : ev (.tmp 28) = .int .i64 (s : Int) := hval 8 28 (by kernel_rfl) rfl
      replace hS : (VB B) W w5 := ⟨⟨hS.1.os, hS.1.tape, hS.1.output, hS.1.size, hS.1.block⟩, ⟨hS.2.os, hS.2.tape, hS.2.output, hS.2.size, hS.2.block⟩⟩
      go_simp
      refine (WaveRank_any B gv L i s w5 (H2W.out.vis hS.1) hs (Nat.le_of_lt Hi.out) HL.out Hl.out).mono ?_
      rintro e w8 ⟨rfl, hv8⟩
      rw [Hq2.out]
      exact hK _ _ hv8 rfl
    refine steps_cons ?_ ?_
    · refine step_on rfl rfl ?_
      intro ev w5 hS hc hf hold hval a K ha hK
      have e22 : ev (.tmp 22) = .int .i64 (q1 : Int) := hval 2 22 (by kernel_rfl) rfl
      have e29 : ev (.tmp 29) = .int .i64 (q2 : Int) := hval 9 29 (by kernel_rfl) rfl
      replace hS : (VB B) W w5 := ⟨⟨hS.1.os, hS.1.tape, hS.1.output, hS.1.size, hS.1.block⟩, ⟨hS.2.os, hS.2.tape, hS.2.output, hS.2.size, hS.2.block⟩⟩
      have hx1 : IntKind.i64.wrap ((q1 : Int) + (q2 : Int)) = (j : Int) := by rw [IntKind.wrap_i64]; have := Hj.out; omega
      go_simp
      exact hK _ _ ((VisK.refl _ _)) rfl
    refine steps_cons ?_ ?_
    · refine step_on rfl rfl ?_
      intro ev w5 hS hc hf hold hval a K ha hK
      have e30 : ev (.tmp 30) = .int .i64 (j : Int) := hval 10 30 (by kernel_rfl) rfl
      replace hS : (VB B) W w5 := ⟨⟨hS.1.os, hS.1.tape, hS.1.output, hS.1.size, hS.1.block⟩, ⟨hS.2.os, hS.2.tape, hS.2.output, hS.2.size, hS.2.block⟩⟩
      go_simp
      exact hK _ _ ((VisK.refl _ _)) rfl
    exact steps_nil
  · intro ev w6 hS hval
    replace hS : (VB B) W w6 := ⟨⟨hS.1.os, hS.1.tape, hS.1.output, hS.1.size, hS.1.block⟩, ⟨hS.2.os, hS.2.tape, hS.2.output, hS.2.size, hS.2.block⟩⟩
    have e4 : ev (.tmp 4) = .int .i64 (j : Int) := hval 11 4 rfl
    simp only [putsOf, List.foldl_cons, List.foldl_nil, Act.put, List.setIfInBounds_toArray, List.set_cons_zero, List.set_cons_succ]
    rw [e4]
    clear hval
    have hv6 := Hv.out.trans hS
    go_wp2_with fail
    go_ret
    exact ⟨rfl, hv6⟩
end Go.Proofs.YtnileogagoipiaaGreatDoor
