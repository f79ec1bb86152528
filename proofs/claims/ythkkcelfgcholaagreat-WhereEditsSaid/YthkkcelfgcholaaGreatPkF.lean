/- The walks of the tally's Of, Below, Add (of one) and New. Conditions: symbols below 257, at most 1000. The walks of the wave's rank of one tree: the closure, look, rank. No conditions. Plain laws of the wave: paths, bits, ranks; what a wave is (WaveAt). No conditions. -/
import Derived.Test.YthkkcelfgcholaaGreatPkD
import Derived.Test.YthkkcelfgcholaaGreatPkB
import Derived.Test.YthkkcelfgcholaaGreatPkE
namespace Go.Proofs.YthkkcelfgcholaaGreat
open Go.RowKit
set_option linter.unusedVariables false
set_option linter.unusedSimpArgs false
/-- A tally's cells: how often each symbol stands in L, and how many there are. -/
@[irreducible] def tcells (L : List Nat) : Array Value := Array.ofFn (n := 258) fun i => .int .i64 (((if i.val < 257 then L.count i.val else L.length) : Nat) : Int)
theorem tcells_of (L : List Nat) {s : Nat} (h : s < 257) : (tcells L)[s]? = some (.int .i64 ((L.count s : Nat) : Int)) := by
  unfold tcells
  rw [Array.getElem?_ofFn, dif_pos (by omega), if_pos h]
theorem tcells_all (L : List Nat) : (tcells L)[257]? = some (.int .i64 ((L.length : Nat) : Int)) := by
  unfold tcells
  rw [Array.getElem?_ofFn, dif_pos (by omega)]
  rfl
theorem tcells_size (L : List Nat) : (tcells L).size = 258 := by unfold tcells; simp
theorem tcells_ext (cs : Array Value) (L : List Nat) (h0 : cs.size = 258) (h1 : ∀ s, s < 257 → cs[s]? = some (.int .i64 ((L.count s : Nat) : Int))) (h2 : cs[257]? = some (.int .i64 ((L.length : Nat) : Int))) : cs = tcells L := by
  apply Array.ext_getElem?
  intro i
  rcases Nat.lt_or_ge i 257 with h | h
  · rw [h1 i h, tcells_of L h]
  · rcases Nat.eq_or_lt_of_le h with h | h
    · rw [← h, h2, tcells_all]
    · rw [Array.getElem?_eq_none (by omega), Array.getElem?_eq_none (by rw [tcells_size]; omega)]
theorem tcells_add (L : List Nat) (s : Nat) (hs : s < 257) : ((tcells L).setIfInBounds s (.int .i64 (((L.count s + 1 : Nat)) : Int))).setIfInBounds 257 (.int .i64 ((L.length + 1 : Nat) : Int)) = tcells (L ++ [s]) := by
  apply tcells_ext
  · simp [tcells_size]
  · intro i hi
    rw [Array.getElem?_setIfInBounds_ne (by omega)]
    by_cases e : s = i
    · subst e
      rw [Array.getElem?_setIfInBounds_self_of_lt (by rw [tcells_size]; omega)]
      simp
    · rw [Array.getElem?_setIfInBounds_ne e, tcells_of L hi]
      have : [s].count i = 0 := by simp [e]
      rw [List.count_append, this]
      rfl
  · rw [Array.getElem?_setIfInBounds_self_of_lt (by simp [tcells_size])]
    simp
set_option maxRecDepth 100000 in
theorem TallyOf_any (gt : Nat) (L : List Nat) (s : Nat) (w : World) (h : Bk w gt 125 (tcells L)) (hs : s < 257) :
    Calls Tryz.prog 146 #[.pointer (some ⟨gt, 0, none⟩), .int .i64 (s : Int)] w fun e w' => e = .returned (.int .i64 ((L.count s : Nat) : Int)) ∧ Below w.heap.size w w' := by
  have H := Lib.hid h
  clear h
  go_enter Tryz.func146, Tryz.ntmps146
  go_wp2_with fail
  refine (SymIs_any s _ hs).mono ?_
  rintro e w1 ⟨rfl, hb⟩
  have c0 : w1.cell? ⟨gt, s, none⟩ = some (.int .i64 ((L.count s : Nat) : Int)) := ((H.out.below hb H.out.lt).cell s).trans (tcells_of L hs)
  have h0 : ¬ ((s : Int) < 0) := by omega
  have h1 : ((s : Int) < 257) := by omega
  clear H
  go_wp2_with fail
  go_ret
  exact ⟨rfl, hb⟩
theorem countP_step (L : List Nat) (k : Nat) : L.countP (fun x => decide (x < k + 1)) = L.countP (fun x => decide (x < k)) + L.count k := by
  induction L with
  | nil => rfl
  | cons x l ih =>
    rw [List.countP_cons, List.countP_cons, List.count_cons, ih]
    by_cases h1 : x < k
    · have h2 : x < k + 1 := by omega
      have h3 : x ≠ k := by omega
      simp [h1, h2, h3]
      omega
    · by_cases h2 : x = k
      · subst h2
        simp
        omega
      · have h3 : ¬ x < k + 1 := by omega
        simp [h1, h2, h3]
set_option maxRecDepth 100000 in
theorem TallyBelow_any (gt : Nat) (L : List Nat) (s : Nat) (w : World) (h : Bk w gt 125 (tcells L)) (hs : s < 257) (hl : L.length ≤ 1000) :
    Calls Tryz.prog 126 #[.pointer (some ⟨gt, 0, none⟩), .int .i64 (s : Int)] w fun e w' => e = .returned (.int .i64 ((L.countP (fun x => decide (x < s)) : Nat) : Int)) ∧ Below w.heap.size w w' := by
  have H := Lib.hid h
  clear h
  have m1 : max (s : Int) 0 = (s : Int) := by omega
  have m2 : min (s : Int) 257 = (s : Int) := by omega
  go_enter Tryz.func126, Tryz.ntmps126
  go_wp2_with fail
  go_loopw [5, 10] (fun v i wr => ∃ k : Nat, k ≤ s ∧ i = .int .i64 k ∧ v = .int .i64 ((L.countP (fun x => decide (x < k)) : Nat) : Int) ∧ Below w.heap.size w wr) (fun _ i _ => s - (intOf i).toNat)
  case atStart => exact ⟨0, by omega, rfl, by simp, Below.refl _ _⟩
  case round =>
    obtain ⟨k, hk, rfl, rfl, hb⟩ := hrel
    have hsz := hb.size
    by_cases hlt : k < s
    · go_wp2_with fail
      refine (TallyOf_any gt L k wr (H.out.below hb H.out.lt) (by omega)).mono ?_
      rintro e w1 ⟨rfl, hb1⟩
      have hb2 := hb.trans (hb1.mono hsz)
      have hst := countP_step L k
      have hbd : L.countP (fun x => decide (x < k + 1)) ≤ 1000 := Nat.le_trans List.countP_le_length hl
      obtain ⟨p, hp⟩ : ∃ p, L.countP (fun x => decide (x < k)) = p := ⟨_, rfl⟩
      obtain ⟨q, hq⟩ : ∃ q, L.count k = q := ⟨_, rfl⟩
      rw [hst] at hbd
      rw [hp, hq] at hst hbd
      rw [hq]
      try rw [hp]
      have HS := Lib.hid hst
      clear hst hp hq
      go_wp2_with fail
      go_roundw
      case rel => exact ⟨k + 1, by omega, by go_num, by rw [HS.out]; exact i64_eq (by omega), hb2⟩
      case measure => simp [intOf]; omega
    · have hks : k = s := by omega
      subst hks
      go_wp2_with fail
      go_ret
      exact ⟨rfl, hb⟩
set_option maxRecDepth 100000 in
set_option maxHeartbeats 1000000 in
theorem TallyAdd_any (gt : Nat) (L : List Nat) (s : Nat) (w : World) (h : Bk w gt 125 (tcells L)) (hs : s < 257) (hl : L.length ≤ 1000) :
    Calls Tryz.prog 61 #[.pointer (some ⟨gt, 0, none⟩), .int .i64 (s : Int), .int .i64 1] w fun e w' => e = .returned (.int .i64 0) ∧ Bk w' gt 125 (tcells (L ++ [s])) ∧ Keep (fun b => b = gt) w w' := by
  have H := Lib.hid h
  clear h
  have h0 : ¬ ((s : Int) < 0) := by omega
  have h1 : ((s : Int) < 257) := by omega
  obtain ⟨q, hq⟩ : ∃ q, L.count s = q := ⟨_, rfl⟩
  obtain ⟨n, hn⟩ : ∃ n, L.length = n := ⟨_, rfl⟩
  have hql : q ≤ 1000 := by rw [← hq]; exact Nat.le_trans List.count_le_length hl
  rw [hn] at hl
  have hadd := tcells_add L s hs
  rw [hq, hn] at hadd
  have HA := Lib.hid hadd
  have HQ := Lib.hid hq
  have HN := Lib.hid hn
  clear hadd hq hn
  go_enter Tryz.func61, Tryz.ntmps61
  go_wp2_with fail
  refine (SymIs_any s _ hs).mono ?_
  rintro e w1 ⟨rfl, hb⟩
  have hbk := H.out.below hb H.out.lt
  have c0 : w1.cell? ⟨gt, s, none⟩ = some (.int .i64 (q : Int)) := by rw [← HQ.out]; exact (hbk.cell s).trans (tcells_of L hs)
  have c1 : w1.cell? ⟨gt, 257, none⟩ = some (.int .i64 (n : Int)) := by rw [← HN.out]; exact (hbk.cell 257).trans (tcells_all L)
  have n1 : ¬ ((1 : Int) < -(q : Int)) := by omega
  have n2 : ¬ ((1 : Int) > 2147483648 - (n : Int)) := by omega
  have HB := Lib.hid hb
  have Hbk := Lib.hid hbk
  clear hb hbk H
  go_wp2_with fail
  refine wp_region_any (by kernel_rfl) ?_
  refine wpAny_keep [33, 34, 35, 36, 37, 38, 39, 40, 41, 42, 43] (fun b => b = gt) 11 [5, 11] (fun w2 => Bk w2 gt 125 (tcells L)) (fun _ w2 => Bk w2 gt 125 ((tcells L).setIfInBounds s (.int .i64 ((q + 1 : Nat) : Int)))) [is (.pointer (some ⟨gt, 0, none⟩)), is (.int .i64 (s : Int)), is (.pointer (some ⟨gt, 0, none⟩)), is (.pointer (some ⟨gt, 0, none⟩)), is (.pointer (some ⟨gt, s, none⟩)), is (.int .i64 (q : Int)), is (.int .i64 1), is (.int .i64 ((q + 1 : Nat) : Int)), is (.pointer (some ⟨gt, 0, none⟩)), is (.pointer (some ⟨gt, 0, none⟩)), is (.pointer (some ⟨gt, s, none⟩)), anyV] _ _ rfl (by kernel_rfl) (by kernel_rfl) (Hbk.out) (fun w2 w3 h _ hg => Bk.below h hg h.lt) (fun _ _ _ h k => Bk.below h k h.lt) (by repeat' (first | exact stbk_is _ _ | exact stbk_any _ | (refine List.forall_mem_cons.2 ⟨?_, ?_⟩) | (intro p hp; cases hp))) ?_ ?_
  · refine steps_of ?_
    refine steps_cons ?_ ?_
    · refine step_on3 rfl rfl ?_
      intro ev w5 hS hU hc hf hold hval a K ha hK
      replace hS : Keep (fun b => b = gt) w1 w5 := ⟨hS.os, hS.tape, hS.output, hS.size, hS.block⟩
      clear hU
      have e0 : ev (.tmp 0) = .pointer (some ⟨gt, 0, none⟩) := hold 0 (by kernel_rfl)
      go_simp
      exact hK _ _ (kstep_grow (Below.refl _ _)) rfl
    refine steps_cons ?_ ?_
    · refine step_on3 rfl rfl ?_
      intro ev w5 hS hU hc hf hold hval a K ha hK
      replace hS : Keep (fun b => b = gt) w1 w5 := ⟨hS.os, hS.tape, hS.output, hS.size, hS.block⟩
      clear hU
      have e1 : ev (.tmp 1) = .int .i64 (s : Int) := hold 1 (by kernel_rfl)
      go_simp
      exact hK _ _ (kstep_grow (Below.refl _ _)) rfl
    refine steps_cons ?_ ?_
    · refine step_on3 rfl rfl ?_
      intro ev w5 hS hU hc hf hold hval a K ha hK
      replace hS : Keep (fun b => b = gt) w1 w5 := ⟨hS.os, hS.tape, hS.output, hS.size, hS.block⟩
      clear hU
      have e33 : ev (.tmp 33) = .pointer (some ⟨gt, 0, none⟩) := hval 0 33 (by kernel_rfl) rfl
      go_simp
      exact hK _ _ (kstep_grow (Below.refl _ _)) rfl
    refine steps_cons ?_ ?_
    · refine step_on3 rfl rfl ?_
      intro ev w5 hS hU hc hf hold hval a K ha hK
      replace hS : Keep (fun b => b = gt) w1 w5 := ⟨hS.os, hS.tape, hS.output, hS.size, hS.block⟩
      clear hU
      have e35 : ev (.tmp 35) = .pointer (some ⟨gt, 0, none⟩) := hval 2 35 (by kernel_rfl) rfl
      go_simp
      exact hK _ _ (kstep_grow (Below.refl _ _)) rfl
    refine steps_cons ?_ ?_
    · refine step_on3 rfl rfl ?_
      intro ev w5 hS hU hc hf hold hval a K ha hK
      replace hS : Keep (fun b => b = gt) w1 w5 := ⟨hS.os, hS.tape, hS.output, hS.size, hS.block⟩
      clear hU
      have e36 : ev (.tmp 36) = .pointer (some ⟨gt, 0, none⟩) := hval 3 36 (by kernel_rfl) rfl
      have e34 : ev (.tmp 34) = .int .i64 (s : Int) := hval 1 34 (by kernel_rfl) rfl
      go_simp
      exact hK _ _ (kstep_grow (Below.refl _ _)) rfl
    refine steps_cons ?_ ?_
    · refine step_on3 rfl rfl ?_
      intro ev w5 hS hU hc hf hold hval a K ha hK
      replace hS : Keep (fun b => b = gt) w1 w5 := ⟨hS.os, hS.tape, hS.output, hS.size, hS.block⟩
      have hpre := hU rfl
      clear hU
      have e37 : ev (.tmp 37) = .pointer (some ⟨gt, s, none⟩) := hval 4 37 (by kernel_rfl) rfl
      have c38 : w5.cell? ⟨gt, s, none⟩ = some (.int .i64 (q : Int)) := by rw [← HQ.out]; exact (hpre.cell s).trans (tcells_of L hs)
      go_simp
      exact hK _ _ (kstep_grow (Below.refl _ _)) rfl
    refine steps_cons ?_ ?_
    · refine step_on3 rfl rfl ?_
      intro ev w5 hS hU hc hf hold hval a K ha hK
      replace hS : Keep (fun b => b = gt) w1 w5 := ⟨hS.os, hS.tape, hS.output, hS.size, hS.block⟩
      clear hU
      have e2 : ev (.tmp 2) = .int .i64 1 := hold 2 (by kernel_rfl)
      go_simp
      exact hK _ _ (kstep_grow (Below.refl _ _)) rfl
    refine steps_cons ?_ ?_
    · refine step_on3 rfl rfl ?_
      intro ev w5 hS hU hc hf hold hval a K ha hK
      replace hS : Keep (fun b => b = gt) w1 w5 := ⟨hS.os, hS.tape, hS.output, hS.size, hS.block⟩
      clear hU
      have e38 : ev (.tmp 38) = .int .i64 (q : Int) := hval 5 38 (by kernel_rfl) rfl
      have e39 : ev (.tmp 39) = .int .i64 1 := hval 6 39 (by kernel_rfl) rfl
      go_simp
      exact hK _ _ (kstep_grow (Below.refl _ _)) (i64_eq (by rw [IntKind.wrap_i64]; omega))
    refine steps_cons ?_ ?_
    · refine step_on3 rfl rfl ?_
      intro ev w5 hS hU hc hf hold hval a K ha hK
      replace hS : Keep (fun b => b = gt) w1 w5 := ⟨hS.os, hS.tape, hS.output, hS.size, hS.block⟩
      clear hU
      have e33 : ev (.tmp 33) = .pointer (some ⟨gt, 0, none⟩) := hval 0 33 (by kernel_rfl) rfl
      go_simp
      exact hK _ _ (kstep_grow (Below.refl _ _)) rfl
    refine steps_cons ?_ ?_
    · refine step_on3 rfl rfl ?_
      intro ev w5 hS hU hc hf hold hval a K ha hK
      replace hS : Keep (fun b => b = gt) w1 w5 := ⟨hS.os, hS.tape, hS.output, hS.size, hS.block⟩
      clear hU
      have e41 : ev (.tmp 41) = .pointer (some ⟨gt, 0, none⟩) := hval 8 41 (by kernel_rfl) rfl
      go_simp
      exact hK _ _ (kstep_grow (Below.refl _ _)) rfl
    refine steps_cons ?_ ?_
    · refine step_on3 rfl rfl ?_
      intro ev w5 hS hU hc hf hold hval a K ha hK
      replace hS : Keep (fun b => b = gt) w1 w5 := ⟨hS.os, hS.tape, hS.output, hS.size, hS.block⟩
      clear hU
      have e42 : ev (.tmp 42) = .pointer (some ⟨gt, 0, none⟩) := hval 9 42 (by kernel_rfl) rfl
      have e34 : ev (.tmp 34) = .int .i64 (s : Int) := hval 1 34 (by kernel_rfl) rfl
      go_simp
      exact hK _ _ (kstep_grow (Below.refl _ _)) rfl
    refine steps_cons ?_ ?_
    · refine step_on3 rfl rfl ?_
      intro ev w5 hS hU hc hf hold hval a K ha hK
      replace hS : Keep (fun b => b = gt) w1 w5 := ⟨hS.os, hS.tape, hS.output, hS.size, hS.block⟩
      have hpre := hU rfl
      clear hU
      have e43 : ev (.tmp 43) = .pointer (some ⟨gt, s, none⟩) := hval 10 43 (by kernel_rfl) rfl
      have e40 : ev (.tmp 40) = .int .i64 ((q + 1 : Nat) : Int) := hval 7 40 (by kernel_rfl) rfl
      have c43 : w5.cell? ⟨gt, s, none⟩ = some (.int .i64 (q : Int)) := by rw [← HQ.out]; exact (hpre.cell s).trans (tcells_of L hs)
      have f43 := hpre.frozen s
      go_simp
      exact hK (.bool true) _ (kstep_keep (Keep.setCell (F := fun b => b = gt) (Keep.refl _ _) (p := ⟨gt, s, none⟩) (.inl rfl) _)) (hpre.set s _)
    exact steps_nil
  · intro ev w6 hS hval hall
    replace hS : Keep (fun b => b = gt) w1 w6 := ⟨hS.os, hS.tape, hS.output, hS.size, hS.block⟩
    obtain ⟨vJ, pJ⟩ : ∃ vJ0, (fun _ w2 => Bk w2 gt 125 ((tcells L).setIfInBounds s (.int .i64 ((q + 1 : Nat) : Int)))) vJ0 w6 := hall 11 (by decide)
    simp only [putsOf, List.foldl_cons, List.foldl_nil, Act.put, List.setIfInBounds_toArray, List.set_cons_zero, List.set_cons_succ]
    clear hval hall
    have c257 : w6.cell? ⟨gt, 257, none⟩ = some (.int .i64 (n : Int)) := by
      refine (pJ.cell 257).trans ?_
      rw [Array.getElem?_setIfInBounds_ne (by omega), ← HN.out]
      exact tcells_all L
    have f257 := pJ.frozen 257
    have PJ := Lib.hid pJ
    have HS := Lib.hid hS
    have hglt := pJ.lt
    clear pJ hS
    go_wp2_with fail
    go_ret
    refine ⟨rfl, ?_, ?_⟩
    · rw [← HA.out]
      exact PJ.out.set 257 _
    · exact ((Keep.of_below HB.out).trans HS.out).setCell (.inl rfl) _
theorem tcells_nil : tcells [] = Tryz.zeroCells125 := by kernel_rfl
set_option maxRecDepth 100000 in
set_option maxHeartbeats 1000000 in
theorem TallyNew_any (A : Option Addr) (m c B : Nat) (L : List Nat) (w : World) (hr : Rd w B 1 A m (L.map sv)) (hB : B ≤ w.heap.size) (hm : m ≤ 1000) (hL : ∀ s ∈ L, s < 257) :
    Calls Tryz.prog 75 #[.slice A m c] w fun e w' => ∃ gt, e = .returned (.tuple #[.pointer (some ⟨gt, 0, none⟩), .int .i64 0]) ∧ w.heap.size ≤ gt ∧ Bk w' gt 125 (tcells L) ∧ Below w.heap.size w w' := by
  have hll : L.length = m := by simpa using hr.1
  have Hr := Lib.hid hr
  have HL := Lib.hid hL
  have Hll := Lib.hid hll
  have HB := Lib.hid hB
  clear hr hL hll
  go_enter Tryz.func75, Tryz.ntmps75
  go_wp2_with fail
  obtain ⟨gt, hgt⟩ : ∃ gt, w.heap.size = gt := ⟨_, rfl⟩
  have hbk0 : Bk (w.alloc (.cells Tryz.zeroCells125 125)) gt 125 (tcells (L.take 0)) := by
    rw [List.take_zero, tcells_nil, ← hgt]
    exact Bk.new _ _ _
  have hb0 := (Below.refl w.heap.size w).alloc (Nat.le_refl _) (.cells Tryz.zeroCells125 125)
  try rw [hgt]
  go_loopw [12] (fun i wr => ∃ k : Nat, k ≤ m ∧ i = .int .i64 k ∧ Bk wr gt 125 (tcells (L.take k)) ∧ Below w.heap.size w wr) (fun i _ => m - (intOf i).toNat)
  case atStart => exact ⟨0, by omega, rfl, hbk0, hb0⟩
  case round =>
    obtain ⟨k, hk, rfl, hbk, hb⟩ := hrel
    have hsz := hb.size
    by_cases hlt : k < m
    · have hkl : k < L.length := by rw [Hll.out]; exact hlt
      obtain ⟨s, hs⟩ : ∃ s, L[k]? = some s := ⟨L[k], List.getElem?_eq_getElem hkl⟩
      obtain ⟨b, off, u, rfl, hbl, hu, hc⟩ := ((Hr.out.mono HB.out).below hb).get hlt
      rw [List.getElem?_map, hs] at hu
      simp at hu
      subst hu
      have hs257 : s < 257 := HL.out s (List.mem_of_getElem? hs)
      have htk : L.take (k + 1) = L.take k ++ [s] := by rw [List.take_add_one, hs]; rfl
      have htl : (L.take k).length ≤ 1000 := by rw [List.length_take]; omega
      unfold sv at hc
      have HTK := Lib.hid htk
      have Hbk := Lib.hid hbk
      clear htk hbk hs
      go_wp2_with fail
      refine (TallyAdd_any gt (L.take k) s _ Hbk.out hs257 htl).mono ?_
      rintro e w1 ⟨rfl, hb1, hk1⟩
      have hb2 : Below w.heap.size w w1 := hb.trans (hk1.to_below hsz (fun b hb e => by omega))
      rw [← HTK.out] at hb1
      have Hb1 := Lib.hid hb1
      clear hb1 hk1
      go_wp2_with fail
      go_roundw
      case rel => exact ⟨k + 1, by omega, by go_num, Hb1.out, hb2⟩
      case measure => simp [intOf]; omega
    · have hkm : k = m := by omega
      subst hkm
      rw [List.take_of_length_le (by rw [Hll.out]; omega)] at hbk
      have Hbk := Lib.hid hbk
      clear hbk
      go_wp2_with fail
      go_ret2
      exact ⟨gt, rfl, by omega, Hbk.out, hb⟩
end Go.Proofs.YthkkcelfgcholaaGreat
namespace Go.Proofs.YthkkcelfgcholaaGreat
open Go.RowKit
set_option linter.unusedVariables false
set_option linter.unusedSimpArgs false
/-- A wave's cells: nine rows of shelves, how many symbols, the visits. -/
@[irreducible] def wcells (S : Nat → Value) (n v : Int) : Array Value := #[S 0, S 1, S 2, S 3, S 4, S 5, S 6, S 7, S 8, .int .i64 n, .int .i64 v]
theorem wcells_get (S : Nat → Value) (n v : Int) : (wcells S n v)[0]? = some (S 0) ∧ (wcells S n v)[1]? = some (S 1) ∧ (wcells S n v)[2]? = some (S 2) ∧ (wcells S n v)[3]? = some (S 3) ∧ (wcells S n v)[4]? = some (S 4) ∧ (wcells S n v)[5]? = some (S 5) ∧ (wcells S n v)[6]? = some (S 6) ∧ (wcells S n v)[7]? = some (S 7) ∧ (wcells S n v)[8]? = some (S 8) ∧ (wcells S n v)[9]? = some (.int .i64 n) ∧ (wcells S n v)[10]? = some (.int .i64 v) := by
  unfold wcells
  exact ⟨rfl, rfl, rfl, rfl, rfl, rfl, rfl, rfl, rfl, rfl, rfl⟩
theorem wcells_visits (S : Nat → Value) (n v v' : Int) : (wcells S n v).setIfInBounds 10 (.int .i64 v') = wcells S n v' := by
  unfold wcells
  rfl
theorem wcells_at (S : Nat → Value) (n v : Int) (i : Nat) (hi : i < 9) : (wcells S n v)[i]? = some (S i) := by
  obtain ⟨h0, h1, h2, h3, h4, h5, h6, h7, h8, _⟩ := wcells_get S n v
  rcases i with _ | _ | _ | _ | _ | _ | _ | _ | _ | i
  all_goals first | assumption | omega
theorem wcells_set (S : Nat → Value) (n v : Int) (i : Nat) (hi : i < 9) (u : Value) : (wcells S n v).setIfInBounds i u = wcells (fun j => if j = i then u else S j) n v := by
  unfold wcells
  rcases i with _ | _ | _ | _ | _ | _ | _ | _ | _ | i
  all_goals first | rfl | omega
theorem Vis.waveC {w w' : World} {g : Nat} {S : Nat → Value} {n v : Int} (h : Vis w w') (hb : Bk w g 82 (wcells S n v)) : ∃ v', Bk w' g 82 (wcells S n v') := by
  rcases h.wave hb with h1 | ⟨v', h1⟩
  · exact ⟨v, h1⟩
  · rw [wcells_visits] at h1
    exact ⟨v', h1⟩
set_option maxRecDepth 100000 in
theorem Rank1_any (gt gk gb gn : Nat) (lv p : Int) (x : Value) (bs : List Bool) (k : Nat) (b : Bool) (w : World) (ht : TreeAt w gt bs) (hk : Bk w gk 3 #[.int .i64 (k : Int)]) (hb : Bk w gb 4 #[.bool b]) (hn : Bk w gn 3 #[x]) (hkl : k ≤ bs.length) :
    Calls Tryz.prog 93 #[.agg #[.pointer (some ⟨gt, 0, none⟩), .int .i64 lv, .int .i64 p], .pointer (some ⟨gk, 0, none⟩), .pointer (some ⟨gb, 0, none⟩), .pointer (some ⟨gn, 0, none⟩)] w fun e w' => e = .returned (.tuple #[]) ∧
      ∃ w1, VisK (fun b => b = gt) w w1 ∧ Bk w1 gn 3 #[x] ∧ w' = w1.setCell ⟨gn, 0, none⟩ (.int .i64 (((bs.take k).count b : Nat) : Int)) := by
  have c1 : w.cell? ⟨gk, 0, none⟩ = some (.int .i64 (k : Int)) := (hk.cell 0).trans rfl
  have c2 : w.cell? ⟨gb, 0, none⟩ = some (.bool b) := (hb.cell 0).trans rfl
  have l1 := hk.lt
  have l2 := hb.lt
  have l3 := hn.lt
  have Ht := Lib.hid ht
  have Hn := Lib.hid hn
  clear ht hk hb hn
  go_enter Tryz.func93, Tryz.ntmps93
  go_wp2_with fail
  refine (TreeRank_any gt bs k b _ (Ht.out.below ((Below.refl _ _).alloc (Nat.le_refl _) _)) hkl).mono ?_
  rintro e w1 ⟨rfl, hv⟩
  have hv0 : VisK (fun b => b = gt) w w1 := (VisK.of_below ((Below.refl _ _).alloc (Nat.le_refl _) _)).trans hv
  have hn1 := hv0.1.bk Hn.out (by decide) (by decide)
  have c3 : w1.cell? ⟨gn, 0, none⟩ = some x := (hn1.cell 0).trans rfl
  have f3 := hn1.frozen 0
  have HV := Lib.hid hv0
  have Hn1 := Lib.hid hn1
  clear hv hv0 hn1
  go_wp2_with fail
  go_end0
  exact ⟨rfl, w1, HV.out, Hn1.out, rfl⟩
theorem Vis.of_wave {w w' : World} {gv : Nat} {S : Nat → Value} {n v v' : Int} (k : Keep (fun b => b = gv) w w') (h : Bk w gv 82 (wcells S n v)) (h' : Bk w' gv 82 (wcells S n v')) : Vis w w' := by
  refine ⟨k.os, k.tape, k.output, k.size, fun b hb _ => ?_⟩
  by_cases e : b = gv
  · subst e
    exact .inr (.inr ⟨_, v', h, by rw [wcells_visits]; exact h'⟩)
  · exact .inl (k.block b hb e)
set_option maxRecDepth 100000 in
set_option maxHeartbeats 1000000 in
theorem Look1_any (gv gt gk gb gn : Nat) (S : Nat → Value) (n v lv p : Int) (x : Value) (bs : List Bool) (k : Nat) (b : Bool) (w : World) (hw : Bk w gv 82 (wcells S n v)) (ht : TreeAt w gt bs) (hk : Bk w gk 3 #[.int .i64 (k : Int)]) (hb : Bk w gb 4 #[.bool b]) (hn : Bk w gn 3 #[x]) (hkl : k ≤ bs.length) :
    Calls Tryz.prog 54 #[.pointer (some ⟨gv, 0, none⟩), .agg #[.pointer (some ⟨gt, 0, none⟩), .int .i64 lv, .int .i64 p], .func (.func 93) #[] #[.pointer (some ⟨gk, 0, none⟩), .pointer (some ⟨gb, 0, none⟩), .pointer (some ⟨gn, 0, none⟩)]] w fun e w' => e = .returned (.tuple #[]) ∧
      VisF (fun b => b = gn) w w' ∧ Keep (fun b => b = gv ∨ b = gt ∨ b = gn) w w' ∧ Bk w' gn 3 #[.int .i64 (((bs.take k).count b : Nat) : Int)] := by
  obtain ⟨o, ho⟩ : ∃ o, Obj.cells #[.pointer (some ⟨gt, 0, none⟩), .int .i64 lv, .int .i64 p] 85 = o := ⟨_, rfl⟩
  have hal := (Below.refl w.heap.size w).alloc (Nat.le_refl _) o
  have hs1 := Bk.new w 85 #[.pointer (some ⟨gt, 0, none⟩), .int .i64 lv, .int .i64 p]
  rw [ho] at hs1
  have l1 := hk.lt
  have l2 := hb.lt
  have l3 := hn.lt
  have l4 := hw.lt
  have n1 := Bk.ne hn hw (by decide)
  have Ht := Lib.hid ht
  have Hn := Lib.hid hn
  have Hk := Lib.hid hk
  have Hb := Lib.hid hb
  have Hw := Lib.hid hw
  have HA := Lib.hid hal
  have Hs := Lib.hid hs1
  have Ho := Lib.hid ho
  clear ht hk hb hn hw hal hs1 ho
  go_enter Tryz.func54, Tryz.ntmps54
  go_wp2_with fail
  rw [Ho.out]
  refine (Rank1_any gt gk gb gn lv p x bs k b _ (Ht.out.below HA.out) (Hk.out.alloc _) (Hb.out.alloc _) (Hn.out.alloc _) hkl).mono ?_
  rintro e w2 ⟨rfl, w1, hv1, hn1, rfl⟩
  obtain ⟨v1, hw1⟩ := ((Vis.of_below HA.out).trans hv1.1).waveC Hw.out
  have hw2 := hw1.far (p := ⟨gn, 0, none⟩) (fun h => n1 h.symm) (.int .i64 (((bs.take k).count b : Nat) : Int))
  have ht1 := Ht.out.vis ((Vis.of_below HA.out).trans hv1.1)
  have ht2 : TreeAt (w1.setCell ⟨gn, 0, none⟩ (.int .i64 (((bs.take k).count b : Nat) : Int))) gt bs := ht1.same fun c t cs hin h => h.far (fun e => by
    have e' : c = gn := e
    subst e'
    rw [← (bk_inj hn1 h).1] at hin
    exact absurd hin (by decide)) _
  obtain ⟨vt, hvt⟩ := ht2.visits
  have hs2 := (hv1.1.bk Hs.out (by decide) (by decide)).far (p := ⟨gn, 0, none⟩) (fun h => absurd (show w.heap.size = gn from h) (by omega)) (.int .i64 (((bs.take k).count b : Nat) : Int))
  have hnn := hn1.set 0 (.int .i64 (((bs.take k).count b : Nat) : Int))
  have hfin : VisF (fun b => b = gn) w (w1.setCell ⟨gn, 0, none⟩ (.int .i64 (((bs.take k).count b : Nat) : Int))) := VisF.put (F := fun b => b = gn) (VisF.of_vis ((Vis.of_below HA.out).trans hv1.1)) (p := ⟨gn, 0, none⟩) (.inl rfl) _
  have hkp : Keep (fun b => b = gv ∨ b = gt ∨ b = gn) w (w1.setCell ⟨gn, 0, none⟩ (.int .i64 (((bs.take k).count b : Nat) : Int))) := Keep.setCell (F := fun b => b = gv ∨ b = gt ∨ b = gn) ((Keep.of_below HA.out).trans (hv1.2.mono fun b _ e => .inr (.inl e))) (p := ⟨gn, 0, none⟩) (.inl (.inr (.inr rfl))) _
  obtain ⟨W, hW⟩ : ∃ W, w1.setCell ⟨gn, 0, none⟩ (.int .i64 (((bs.take k).count b : Nat) : Int)) = W := ⟨_, rfl⟩
  rw [hW] at hw2 ht2 hvt hs2 hnn hfin hkp ⊢
  have s0 : W.cell? ⟨w.heap.size, 0, none⟩ = some (.pointer (some ⟨gt, 0, none⟩)) := (hs2.cell 0).trans rfl
  have Hw2 := Lib.hid hw2
  have Hs2 := Lib.hid hs2
  have HN := Lib.hid hnn
  have HF := Lib.hid hfin
  have HK := Lib.hid hkp
  have Ht2 := Lib.hid ht2
  have Hvt := Lib.hid hvt
  have htlt := ht2.lt
  have hslt := hs2.lt
  have hgs := Bk.ne hw2 hs2 (by decide)
  have hgn := Bk.ne hw2 hnn (by decide)
  have hgvt : gt ≠ gv := by
    rintro rfl
    obtain ⟨ga, v, ⟨_, _, h2⟩ | ⟨_, _, _, _, _, h3⟩⟩ := Ht2.out
    · exact absurd (bk_inj h2 Hw2.out).1 (by decide)
    · exact absurd (bk_inj h3.tree Hw2.out).1 (by decide)
  clear hw2 hs2 hnn hfin hkp ht2 hvt hW hw1 ht1 hn1 hv1 HA Ht Hn Hk Hb Hw Hs s0
  go_wp2_with fail
  refine wp_region_any (by kernel_rfl) ?_
  refine wpAny_keep [9, 10, 11, 12, 13, 14, 15, 16, 17, 18] (fun b => b = gv) 10 [3, 10] (fun w2 => Bk w2 gv 82 (wcells S n v1)) (fun _ w2 => Bk w2 gv 82 (wcells S n (IntKind.i64.wrap (v1 + vt)))) [is (.pointer (some ⟨gv, 0, none⟩)), is (.pointer (some ⟨gv, 0, none⟩)), is (.pointer (some ⟨gv, 10, none⟩)), is (.int .i64 v1), is (.pointer (some ⟨w.heap.size, 0, none⟩)), is (.pointer (some ⟨gt, 0, none⟩)), is (.int .i64 vt), is (.int .i64 (IntKind.i64.wrap (v1 + vt))), is (.pointer (some ⟨gv, 0, none⟩)), is (.pointer (some ⟨gv, 10, none⟩)), anyV] _ _ rfl (by kernel_rfl) (by kernel_rfl) (Hw2.out) (fun w2 w3 h _ hg => Bk.below h hg h.lt) (fun _ _ _ h k => Bk.below h k h.lt) (by repeat' (first | exact stbk_is _ _ | exact stbk_any _ | (refine List.forall_mem_cons.2 ⟨?_, ?_⟩) | (intro p hp; cases hp))) ?_ ?_
  · refine steps_of ?_
    refine steps_cons ?_ ?_
    · refine step_on3 rfl rfl ?_
      intro ev w5 hS hU hc hf hold hval a K ha hK
      replace hS : Keep (fun b => b = gv) W w5 := ⟨hS.os, hS.tape, hS.output, hS.size, hS.block⟩
      clear hU
      have e0 : ev (.tmp 0) = .pointer (some ⟨gv, 0, none⟩) := hold 0 (by kernel_rfl)
      go_simp
      exact hK _ _ (kstep_grow (Below.refl _ _)) rfl
    refine steps_cons ?_ ?_
    · refine step_on3 rfl rfl ?_
      intro ev w5 hS hU hc hf hold hval a K ha hK
      replace hS : Keep (fun b => b = gv) W w5 := ⟨hS.os, hS.tape, hS.output, hS.size, hS.block⟩
      clear hU
      have e9 : ev (.tmp 9) = .pointer (some ⟨gv, 0, none⟩) := hval 0 9 (by kernel_rfl) rfl
      go_simp
      exact hK _ _ (kstep_grow (Below.refl _ _)) rfl
    refine steps_cons ?_ ?_
    · refine step_on3 rfl rfl ?_
      intro ev w5 hS hU hc hf hold hval a K ha hK
      replace hS : Keep (fun b => b = gv) W w5 := ⟨hS.os, hS.tape, hS.output, hS.size, hS.block⟩
      clear hU
      have e10 : ev (.tmp 10) = .pointer (some ⟨gv, 0, none⟩) := hval 1 10 (by kernel_rfl) rfl
      go_simp
      exact hK _ _ (kstep_grow (Below.refl _ _)) rfl
    refine steps_cons ?_ ?_
    · refine step_on3 rfl rfl ?_
      intro ev w5 hS hU hc hf hold hval a K ha hK
      replace hS : Keep (fun b => b = gv) W w5 := ⟨hS.os, hS.tape, hS.output, hS.size, hS.block⟩
      have hpre := hU rfl
      clear hU
      have e11 : ev (.tmp 11) = .pointer (some ⟨gv, 10, none⟩) := hval 2 11 (by kernel_rfl) rfl
      have c12 : w5.cell? ⟨gv, 10, none⟩ = some (.int .i64 v1) := (hpre.cell 10).trans (wcells_get _ _ _).2.2.2.2.2.2.2.2.2.2
      go_simp
      exact hK _ _ (kstep_grow (Below.refl _ _)) rfl
    refine steps_cons ?_ ?_
    · refine step_on3 rfl rfl ?_
      intro ev w5 hS hU hc hf hold hval a K ha hK
      replace hS : Keep (fun b => b = gv) W w5 := ⟨hS.os, hS.tape, hS.output, hS.size, hS.block⟩
      clear hU
      have e4 : ev (.tmp 4) = .pointer (some ⟨w.heap.size, 0, none⟩) := hold 4 (by kernel_rfl)
      go_simp
      exact hK _ _ (kstep_grow (Below.refl _ _)) rfl
    refine steps_cons ?_ ?_
    · refine step_on3 rfl rfl ?_
      intro ev w5 hS hU hc hf hold hval a K ha hK
      replace hS : Keep (fun b => b = gv) W w5 := ⟨hS.os, hS.tape, hS.output, hS.size, hS.block⟩
      clear hU
      have e13 : ev (.tmp 13) = .pointer (some ⟨w.heap.size, 0, none⟩) := hval 4 13 (by kernel_rfl) rfl
      have c14 : w5.cell? ⟨w.heap.size, 0, none⟩ = some (.pointer (some ⟨gt, 0, none⟩)) := ((hS.bk Hs2.out (fun h => hgs (show w.heap.size = gv from h).symm)).cell 0).trans rfl
      go_simp
      exact hK _ _ (kstep_grow (Below.refl _ _)) rfl
    refine steps_cons ?_ ?_
    · refine step_on3 rfl rfl ?_
      intro ev w5 hS hU hc hf hold hval a K ha hK
      replace hS : Keep (fun b => b = gv) W w5 := ⟨hS.os, hS.tape, hS.output, hS.size, hS.block⟩
      clear hU
      have e14 : ev (.tmp 14) = .pointer (some ⟨gt, 0, none⟩) := hval 5 14 (by kernel_rfl) rfl
      go_simp
      refine (TreeVisits_any gt vt w5 ((hS.cell htlt hgvt).trans Hvt.out)).mono ?_
      rintro e w8 ⟨rfl, hb8⟩
      exact hK _ _ (kstep_grow hb8) rfl
    refine steps_cons ?_ ?_
    · refine step_on3 rfl rfl ?_
      intro ev w5 hS hU hc hf hold hval a K ha hK
      replace hS : Keep (fun b => b = gv) W w5 := ⟨hS.os, hS.tape, hS.output, hS.size, hS.block⟩
      clear hU
      have e12 : ev (.tmp 12) = .int .i64 v1 := hval 3 12 (by kernel_rfl) rfl
      have e15 : ev (.tmp 15) = .int .i64 vt := hval 6 15 (by kernel_rfl) rfl
      go_simp
      exact hK _ _ (kstep_grow (Below.refl _ _)) rfl
    refine steps_cons ?_ ?_
    · refine step_on3 rfl rfl ?_
      intro ev w5 hS hU hc hf hold hval a K ha hK
      replace hS : Keep (fun b => b = gv) W w5 := ⟨hS.os, hS.tape, hS.output, hS.size, hS.block⟩
      clear hU
      have e9 : ev (.tmp 9) = .pointer (some ⟨gv, 0, none⟩) := hval 0 9 (by kernel_rfl) rfl
      go_simp
      exact hK _ _ (kstep_grow (Below.refl _ _)) rfl
    refine steps_cons ?_ ?_
    · refine step_on3 rfl rfl ?_
      intro ev w5 hS hU hc hf hold hval a K ha hK
      replace hS : Keep (fun b => b = gv) W w5 := ⟨hS.os, hS.tape, hS.output, hS.size, hS.block⟩
      clear hU
      have e17 : ev (.tmp 17) = .pointer (some ⟨gv, 0, none⟩) := hval 8 17 (by kernel_rfl) rfl
      go_simp
      exact hK _ _ (kstep_grow (Below.refl _ _)) rfl
    refine steps_cons ?_ ?_
    · refine step_on3 rfl rfl ?_
      intro ev w5 hS hU hc hf hold hval a K ha hK
      replace hS : Keep (fun b => b = gv) W w5 := ⟨hS.os, hS.tape, hS.output, hS.size, hS.block⟩
      have hpre := hU rfl
      clear hU
      have e18 : ev (.tmp 18) = .pointer (some ⟨gv, 10, none⟩) := hval 9 18 (by kernel_rfl) rfl
      have e16 : ev (.tmp 16) = .int .i64 (IntKind.i64.wrap (v1 + vt)) := hval 7 16 (by kernel_rfl) rfl
      have c18 : w5.cell? ⟨gv, 10, none⟩ = some (.int .i64 v1) := (hpre.cell 10).trans (wcells_get _ _ _).2.2.2.2.2.2.2.2.2.2
      have f18 := hpre.frozen 10
      go_simp
      refine hK (.bool true) _ (kstep_keep (Keep.setCell (F := fun b => b = gv) (Keep.refl _ _) (p := ⟨gv, 10, none⟩) (.inl rfl) _)) ?_
      rw [← wcells_visits S n v1]
      exact hpre.set 10 _
    exact steps_nil
  · intro ev w6 hS hval hall
    replace hS : Keep (fun b => b = gv) W w6 := ⟨hS.os, hS.tape, hS.output, hS.size, hS.block⟩
    obtain ⟨vJ, pJ⟩ : ∃ vJ0, (fun _ w2 => Bk w2 gv 82 (wcells S n (IntKind.i64.wrap (v1 + vt)))) vJ0 w6 := hall 10 (by decide)
    simp only [putsOf, List.foldl_cons, List.foldl_nil, Act.put, List.setIfInBounds_toArray, List.set_cons_zero, List.set_cons_succ]
    clear hval hall
    have hv6 := Vis.of_wave hS Hw2.out pJ
    have h1 := VisF.trans HF.out (VisF.of_vis hv6)
    have h2 := HK.out.trans (hS.mono fun b _ e => .inl e)
    have h3 := hS.bk HN.out (fun e => hgn (show gn = gv from e).symm)
    have H1 := Lib.hid h1
    have H2 := Lib.hid h2
    have H3 := Lib.hid h3
    clear hv6 h1 h2 h3 pJ hS
    go_wp2_with fail
    go_end0
    exact ⟨rfl, H1.out, H2.out, H3.out⟩
set_option maxRecDepth 100000 in
set_option maxHeartbeats 1000000 in
theorem WRank1_any (gv gt : Nat) (S : Nat → Value) (n v lv p : Int) (bs : List Bool) (k : Nat) (b : Bool) (w : World) (hw : Bk w gv 82 (wcells S n v)) (ht : TreeAt w gt bs) (hkl : k ≤ bs.length) :
    Calls Tryz.prog 57 #[.pointer (some ⟨gv, 0, none⟩), .agg #[.pointer (some ⟨gt, 0, none⟩), .int .i64 lv, .int .i64 p], .int .i64 (k : Int), .bool b] w fun e w' => e = .returned (.int .i64 (((bs.take k).count b : Nat) : Int)) ∧ VisK (fun b => b = gv ∨ b = gt) w w' := by
  have hmf : ∀ (fn : Fn) (first cap : Array Value) (w : World), (Instr.makeFunc fn first cap).run Tryz.prog w = .ok (.func fn first cap) w := fun _ _ _ _ => rfl
  obtain ⟨W, hW⟩ : ∃ W, (((w.alloc (.cells #[.pointer (some ⟨gt, 0, none⟩), .int .i64 lv, .int .i64 p] 85)).alloc (.cells #[.int .i64 (k : Int)] 3)).alloc (.cells #[.bool b] 4)).alloc (.cells #[.int .i64 0] 3) = W := ⟨_, rfl⟩
  have hB : Below w.heap.size w W := by
    rw [← hW]
    exact ((((Below.refl _ _).alloc (Nat.le_refl _) _).alloc (by simp) _).alloc (by simp; omega) _).alloc (by simp; omega) _
  have h1 : Bk W (w.heap.size + 1) 3 #[.int .i64 (k : Int)] := by
    rw [← hW]
    have h := Bk.new (w.alloc (.cells #[.pointer (some ⟨gt, 0, none⟩), .int .i64 lv, .int .i64 p] 85)) 3 #[.int .i64 (k : Int)]
    rw [show (w.alloc (.cells #[.pointer (some ⟨gt, 0, none⟩), .int .i64 lv, .int .i64 p] 85)).heap.size = w.heap.size + 1 from by simp] at h
    exact (h.alloc _).alloc _
  have h2 : Bk W (w.heap.size + 1 + 1) 4 #[.bool b] := by
    rw [← hW]
    have h := Bk.new ((w.alloc (.cells #[.pointer (some ⟨gt, 0, none⟩), .int .i64 lv, .int .i64 p] 85)).alloc (.cells #[.int .i64 (k : Int)] 3)) 4 #[.bool b]
    rw [show ((w.alloc (.cells #[.pointer (some ⟨gt, 0, none⟩), .int .i64 lv, .int .i64 p] 85)).alloc (.cells #[.int .i64 (k : Int)] 3)).heap.size = w.heap.size + 1 + 1 from by simp] at h
    exact h.alloc _
  have h3 : Bk W (w.heap.size + 1 + 1 + 1) 3 #[.int .i64 0] := by
    rw [← hW]
    have h := Bk.new (((w.alloc (.cells #[.pointer (some ⟨gt, 0, none⟩), .int .i64 lv, .int .i64 p] 85)).alloc (.cells #[.int .i64 (k : Int)] 3)).alloc (.cells #[.bool b] 4)) 3 #[.int .i64 0]
    rw [show (((w.alloc (.cells #[.pointer (some ⟨gt, 0, none⟩), .int .i64 lv, .int .i64 p] 85)).alloc (.cells #[.int .i64 (k : Int)] 3)).alloc (.cells #[.bool b] 4)).heap.size = w.heap.size + 1 + 1 + 1 from by simp] at h
    exact h
  have hw1 := hw.below hB hw.lt
  have ht1 := ht.below hB
  have Hw1 := Lib.hid hw1
  have Ht1 := Lib.hid ht1
  have H1 := Lib.hid h1
  have H2 := Lib.hid h2
  have H3 := Lib.hid h3
  have HW := Lib.hid hW
  have HB := Lib.hid hB
  clear hw ht hw1 ht1 h1 h2 h3 hW hB
  go_enter Tryz.func57, Tryz.ntmps57
  go_wp2_with fail
  rw [HW.out]
  refine (Look1_any gv gt _ _ _ S n v lv p _ bs k b W Hw1.out Ht1.out H1.out H2.out H3.out hkl).mono ?_
  rintro e w1 ⟨rfl, hvf, hkp, hn⟩
  have hfin : Vis w w1 := VisF.to_vis (VisF.trans (VisF.of_vis (Vis.of_below HB.out)) hvf) (fun b hb e => by omega)
  have hkf : Keep (fun b => b = gv ∨ b = gt) w w1 := (Keep.of_below HB.out).trans' hkp (fun b hb e => by
    rcases e with e | e | e
    · exact .inl e
    · exact .inr e
    · omega)
  have c9 : w1.cell? ⟨w.heap.size + 1 + 1 + 1, 0, none⟩ = some (.int .i64 (((bs.take k).count b : Nat) : Int)) := (hn.cell 0).trans rfl
  have HF := Lib.hid hfin
  have HK := Lib.hid hkf
  clear hvf hkp hn hfin hkf
  go_wp2_with fail
  go_ret
  exact ⟨rfl, HF.out, HK.out⟩
end Go.Proofs.YthkkcelfgcholaaGreat
namespace Go.Proofs.YthkkcelfgcholaaGreat
open Go.RowKit
set_option linter.unusedVariables false
set_option linter.unusedSimpArgs false
/-- The bits of the level lv, of the symbols whose path there is p. -/
def bitsOf (L : List Nat) (lv p : Nat) : List Bool := (L.filter fun s => pathN s lv == p).map (bitB · lv)
theorem path_step (s lv : Nat) (h : lv < 9) : pathN s (lv + 1) = 2 * pathN s lv + (if bitB s lv then 1 else 0) := by
  unfold pathN bitB
  have e1 : 9 - (lv + 1) = 8 - lv := by omega
  have e2 : 9 - lv = (8 - lv) + 1 := by omega
  rw [e1, e2, Nat.pow_succ, ← Nat.div_div_eq_div_mul]
  generalize s / 2 ^ (8 - lv) = q
  by_cases hq : q % 2 = 1
  · simp [hq]; omega
  · simp [hq]; omega
theorem path_zero (s : Nat) (h : s < 257) : pathN s 0 = 0 := by
  unfold pathN
  exact Nat.div_eq_of_lt (by omega)
theorem path_nine (s : Nat) : pathN s 9 = s := by
  unfold pathN
  simp
theorem path_lt (s lv : Nat) (h : s < 257) (hl : lv ≤ 9) : pathN s lv < 2 ^ lv := by
  unfold pathN
  rw [Nat.div_lt_iff_lt_mul (Nat.pos_of_ne_zero (by simp)), ← Nat.pow_add, show lv + (9 - lv) = 9 by omega]
  omega
theorem bits_count (L : List Nat) (lv s0 : Nat) (h : lv < 9) : (bitsOf L lv (pathN s0 lv)).count (bitB s0 lv) = L.countP (fun s => pathN s (lv + 1) == pathN s0 (lv + 1)) := by
  induction L with
  | nil => rfl
  | cons x l ih =>
    have h1 := path_step x lv h
    have h2 := path_step s0 lv h
    unfold bitsOf at ih ⊢
    rw [List.countP_cons, ← ih, List.filter_cons]
    by_cases hp : pathN x lv = pathN s0 lv
    · rw [if_pos (by simp [hp]), List.map_cons, List.count_cons]
      by_cases hb : bitB x lv = bitB s0 lv
      · have : pathN x (lv + 1) = pathN s0 (lv + 1) := by rw [h1, h2, hp, hb]
        simp [hb, this]
      · have : pathN x (lv + 1) ≠ pathN s0 (lv + 1) := by
          rw [h1, h2, hp]
          cases hx : bitB x lv <;> cases hy : bitB s0 lv <;> simp_all
        simp [hb, this]
    · rw [if_neg (by simp [hp])]
      have : pathN x (lv + 1) ≠ pathN s0 (lv + 1) := by
        rw [h1, h2]
        cases bitB x lv <;> cases bitB s0 lv <;> simp <;> omega
      simp [this]
theorem bits_take (L : List Nat) (lv p k : Nat) : (bitsOf L lv p).take ((L.take k).countP fun s => pathN s lv == p) = bitsOf (L.take k) lv p := by
  induction L generalizing k with
  | nil => simp [bitsOf]
  | cons x l ih =>
    rcases k with _ | k
    · simp [bitsOf]
    · have := ih k
      unfold bitsOf at this ⊢
      rw [List.take_succ_cons, List.countP_cons, List.filter_cons, List.filter_cons]
      by_cases hp : pathN x lv = p
      · simp only [hp, beq_self_eq_true, if_true, List.map_cons, List.take_succ_cons, this]
      · have h0 : (pathN x lv == p) = false := by simp [hp]
        simp only [h0, Bool.false_eq_true, if_false, Nat.add_zero, this]
theorem bits_len (L : List Nat) (lv p : Nat) : (bitsOf L lv p).length = L.countP fun s => pathN s lv == p := by
  unfold bitsOf
  rw [List.length_map, List.countP_eq_length_filter]
/-- How many of the first k symbols have s0's path at the level lv. -/
def atLv (L : List Nat) (k s0 lv : Nat) : Nat := (L.take k).countP fun s => pathN s lv == pathN s0 lv
theorem atLv_zero (L : List Nat) (k s0 : Nat) (hk : k ≤ L.length) (hL : ∀ s ∈ L, s < 257) (hs : s0 < 257) : atLv L k s0 0 = k := by
  unfold atLv
  rw [List.countP_eq_length.2 (fun s hs' => by
    have := hL s (List.mem_of_mem_take hs')
    simp [path_zero _ this, path_zero _ hs]), List.length_take]
  omega
theorem atLv_step (L : List Nat) (k s0 lv : Nat) (h : lv < 9) : ((bitsOf L lv (pathN s0 lv)).take (atLv L k s0 lv)).count (bitB s0 lv) = atLv L k s0 (lv + 1) := by
  unfold atLv
  rw [bits_take, bits_count _ _ _ h]
theorem atLv_le (L : List Nat) (k s0 lv : Nat) : atLv L k s0 lv ≤ (bitsOf L lv (pathN s0 lv)).length := by
  unfold atLv
  rw [bits_len]
  exact (List.take_sublist k L).countP_le
theorem atLv_nine (L : List Nat) (k s0 : Nat) : atLv L k s0 9 = (L.take k).count s0 := by
  unfold atLv
  rw [List.count_eq_countP]
  congr 1
  funext s
  rw [path_nine, path_nine]
/-- A row of m shelves, of the trees G, at the level lv. -/
def shelfL (G : Nat → Nat) (lv m : Nat) : List Value := (List.range m).flatMap fun p => [.pointer (some ⟨G p, 0, none⟩), .int .i64 (lv : Int), .int .i64 (p : Int)]
theorem shelfL_succ (G : Nat → Nat) (lv m : Nat) : shelfL G lv (m + 1) = shelfL G lv m ++ [.pointer (some ⟨G m, 0, none⟩), .int .i64 (lv : Int), .int .i64 (m : Int)] := by
  unfold shelfL
  rw [List.range_succ, List.flatMap_append]
  simp
theorem shelfL_len (G : Nat → Nat) (lv m : Nat) : (shelfL G lv m).length = m * 3 := by
  induction m with
  | zero => rfl
  | succ m ih => rw [shelfL_succ, List.length_append, ih]; simp; omega
theorem shelfL_get (G : Nat → Nat) (lv m p : Nat) (h : p < m) : (shelfL G lv m)[p * 3]? = some (.pointer (some ⟨G p, 0, none⟩)) ∧ (shelfL G lv m)[p * 3 + 1]? = some (.int .i64 (lv : Int)) ∧ (shelfL G lv m)[p * 3 + 2]? = some (.int .i64 (p : Int)) := by
  induction m with
  | zero => omega
  | succ m ih =>
    rw [shelfL_succ]
    by_cases e : p = m
    · subst e
      have hl := shelfL_len G lv p
      refine ⟨?_, ?_, ?_⟩
      · rw [List.getElem?_append_right (by omega), hl, Nat.sub_self]; rfl
      · rw [List.getElem?_append_right (by omega), hl, show p * 3 + 1 - p * 3 = 1 by omega]; rfl
      · rw [List.getElem?_append_right (by omega), hl, show p * 3 + 2 - p * 3 = 2 by omega]; rfl
    · have hl := shelfL_len G lv m
      obtain ⟨h1, h2, h3⟩ := ih (by omega)
      refine ⟨?_, ?_, ?_⟩
      · rw [List.getElem?_append_left (by omega)]; exact h1
      · rw [List.getElem?_append_left (by omega)]; exact h2
      · rw [List.getElem?_append_left (by omega)]; exact h3
theorem shelfL_congr (G G' : Nat → Nat) (lv m : Nat) (h : ∀ p, p < m → G p = G' p) : shelfL G lv m = shelfL G' lv m := by
  induction m with
  | zero => rfl
  | succ m ih => rw [shelfL_succ, shelfL_succ, ih (fun p hp => h p (by omega)), h m (by omega)]
/-- The value v is a row of m shelves at the level lv, the first m paths' trees of L. -/
def ShelfRow (w : World) (B : Nat) (v : Value) (L : List Nat) (lv m : Nat) : Prop :=
  ∃ (G : Nat → Nat), w.ownsRow B 85 3 v m (shelfL G lv m) ∧ ∀ p, p < m → B ≤ G p ∧ TreeAt w (G p) (bitsOf L lv p)
theorem ShelfRow.vis {w w' : World} {B : Nat} {v : Value} {L : List Nat} {lv m : Nat} (h : ShelfRow w B v L lv m) (k : Vis w w') : ShelfRow w' B v L lv m := by
  obtain ⟨G, h1, h2⟩ := h
  exact ⟨G, k.own h1 (by decide) (by decide), fun p hp => ⟨(h2 p hp).1, (h2 p hp).2.vis k⟩⟩
theorem ShelfRow.below {w w' : World} {B : Nat} {v : Value} {L : List Nat} {lv m : Nat} (h : ShelfRow w B v L lv m) (k : Below w.heap.size w w') : ShelfRow w' B v L lv m := h.vis (Vis.of_below k)
/-- gv is a wave of the symbols L; it and its trees were made since B. -/
def WaveAt (w : World) (B gv : Nat) (L : List Nat) : Prop :=
  B ≤ gv ∧ ∃ (S : Nat → Value) (v : Int), Bk w gv 82 (wcells S (L.length : Int) v) ∧ ∀ lv, lv < 9 → ShelfRow w B (S lv) L lv (2 ^ lv)
theorem WaveAt.vis {w w' : World} {B gv : Nat} {L : List Nat} (h : WaveAt w B gv L) (k : Vis w w') : WaveAt w' B gv L := by
  obtain ⟨h0, S, v, h1, h2⟩ := h
  obtain ⟨v', h3⟩ := k.waveC h1
  exact ⟨h0, S, v', h3, fun lv hl => (h2 lv hl).vis k⟩
theorem WaveAt.below {w w' : World} {B gv : Nat} {L : List Nat} (h : WaveAt w B gv L) (k : Below w.heap.size w w') : WaveAt w' B gv L := h.vis (Vis.of_below k)
/-- What a lookup leaves alone, where all that it writes was made since B. -/
abbrev VB (B : Nat) : World → World → Prop := VisK (fun b => B ≤ b)
theorem VB.to_below {B : Nat} {w w' : World} (h : VB B w w') (hB : B ≤ w.heap.size) : Below B w w' := h.2.to_below hB (fun b hb f => by have := f; omega)
theorem VB.set_wave {w : World} {B g : Nat} {cs : Array Value} (h : Bk w g 82 cs) (hB : B ≤ g) (v : Int) : VB B w (w.setCell ⟨g, 10, none⟩ (.int .i64 v)) := ⟨Vis.set_wave h v, Keep.setCell (F := fun b => B ≤ b) (Keep.refl _ _) (p := ⟨g, 10, none⟩) (.inl hB) _⟩
end Go.Proofs.YthkkcelfgcholaaGreat
