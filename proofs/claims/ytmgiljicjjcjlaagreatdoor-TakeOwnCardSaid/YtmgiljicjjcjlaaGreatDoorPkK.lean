/- The walk of the pairs' Pos. Conditions: the pairs stand by rising rows. The walk of a text's Pos: where a row's suffix begins. Conditions: a text of at most 127 bytes, as New makes it. -/
import Derived.Test.YtmgiljicjjcjlaaGreatDoorPkH
import Derived.BigQuiet
import Derived.Test.YtmgiljicjjcjlaaGreatDoorPkI
import Derived.Test.YtmgiljicjjcjlaaGreatDoorPkJ
namespace Go.Proofs.YtmgiljicjjcjlaaGreatDoor
open Go.RowKit
set_option linter.unusedVariables false
set_option linter.unusedSimpArgs false
set_option maxRecDepth 100000 in
set_option maxHeartbeats 1000000 in
theorem PermPos_none (B gp ga : Nat) (vl vo vt vf : Value) (R P : Nat) (ks : List Nat) (C : List (Nat × Nat)) (tk : List Bool) (fr : List Nat) (row : Nat) (w : World) (h : PermAt w B gp ga vl vo vt vf R P ks C tk fr) (hs : ks.Pairwise (fun a b => rowK C a < rowK C b)) (hk : ks.length ≤ 1099511627776) (hno : ∀ k ∈ ks, rowK C k ≠ row) :
    Calls Tryz.prog 26 #[.pointer (some ⟨gp, 0, none⟩), .int .i64 (row : Int)] w fun e w' => e = .returned (.int .i64 (-1)) ∧ Below w.heap.size w w' := by
  have hat := PermAt_any B gp ga vl vo vt vf R P ks C tk fr row w h hs hk
  have hd : decide (∃ k ∈ ks, rowK C k = row) = false := by
    simp only [decide_eq_false_iff_not]
    rintro ⟨k, h1, h2⟩
    exact hno k h1 h2
  rw [hd] at hat
  clear h hs hno hd
  go_enter Tryz.func26, Tryz.ntmps26
  go_wp2_with fail
  refine hat.mono ?_
  rintro e w1 ⟨rfl, hb1⟩
  have Hb1 := Lib.hid hb1
  clear hat hb1
  go_wp2_with fail
  go_ret
  exact ⟨rfl, Hb1.out⟩
set_option maxRecDepth 100000 in
set_option maxHeartbeats 2000000 in
theorem PermPos_some (B gp ga : Nat) (vl vo vt vf : Value) (R P : Nat) (ks : List Nat) (C : List (Nat × Nat)) (tk : List Bool) (fr : List Nat) (row j : Nat) (w : World) (h : PermAt w B gp ga vl vo vt vf R P ks C tk fr) (hs : ks.Pairwise (fun a b => rowK C a < rowK C b)) (hk : ks.length ≤ 1099511627776) (hC : C.length ≤ 1099511627776) (hj : j ∈ ks) (hjr : rowK C j = row) :
    Calls Tryz.prog 26 #[.pointer (some ⟨gp, 0, none⟩), .int .i64 (row : Int)] w fun e w' => e = .returned (.int .i64 ((posK C j : Nat) : Int)) ∧ Below w.heap.size w w' := by
  have hat := PermAt_any B gp ga vl vo vt vf R P ks C tk fr row w h hs hk
  have hd : decide (∃ k ∈ ks, rowK C k = row) = true := decide_eq_true ⟨j, hj, hjr⟩
  rw [hd] at hat
  obtain ⟨x, hx1, hx2⟩ := (cnt_found hs row).2 ⟨j, hj, hjr⟩
  obtain ⟨q, hq⟩ : ∃ q, (ks.countP fun k => decide (rowK C k < row)) = q := ⟨_, rfl⟩
  rw [hq] at hx1 hat
  have hxj : x = j := by
    obtain ⟨a, ha, ea⟩ := List.mem_iff_getElem.1 hj
    obtain ⟨b, eb⟩ := List.getElem?_eq_some_iff.1 hx1
    rcases Nat.lt_trichotomy a q with h1 | h1 | h1
    · have := List.pairwise_iff_getElem.1 hs a q ha b h1
      rw [ea, eb] at this
      omega
    · subst h1
      rw [← ea, ← eb]
    · have := List.pairwise_iff_getElem.1 hs q a b ha h1
      rw [ea, eb] at this
      omega
  subst hxj
  have hqn : q < ks.length := (List.getElem?_eq_some_iff.1 hx1).1
  have hxC : x < C.length := h.lt x hj
  obtain ⟨g, cap, hvo, hnc, hgl⟩ := World.ownsRow.form h.orow (by omega)
  obtain ⟨g2, cap2, hvl, hnc2, hgl2⟩ := World.ownsRow.form h.lrow (by omega)
  subst hvo
  subst hvl
  have hpair := (pairsL_get C x hxC).2
  have H := Lib.hid h
  have Hx1 := Lib.hid hx1
  have Hpair := Lib.hid hpair
  have hqI : (q : Int) < (ks.length : Int) := by omega
  have hxI : (x : Int) < (C.length : Int) := by omega
  clear h hs hd hx2 hq hx1 hpair hj hjr
  go_enter Tryz.func26, Tryz.ntmps26
  go_wp2_with fail
  refine hat.mono ?_
  rintro e w1 ⟨rfl, hb1⟩
  have h1 := H.out.below hb1
  have c1 : ∀ d, (w1.drewN d).cell? ⟨gp, 1, none⟩ = some (.slice (some ⟨g2, 0, none⟩) C.length cap2) := fun d => (h1.blk.cell 1).trans rfl
  have c2 : ∀ d, (w1.drewN d).cell? ⟨gp, 2, none⟩ = some (.slice (some ⟨g, 0, none⟩) ks.length cap) := fun d => (h1.blk.cell 2).trans rfl
  have hgp := h1.blk.lt
  have c3 : ∀ d, (w1.drewN d).cell? ⟨g, q, none⟩ = some (.int .i64 (x : Int)) := fun d => (World.ownsRow.cellAt h1.orow q (by omega)).trans (by rw [List.getElem?_map, Hx1.out]; rfl)
  have c4 : ∀ d, (w1.drewN d).cell? ⟨g2, x * 2 + 1, none⟩ = some (.int .i64 ((posK C x : Nat) : Int)) := fun d => (World.ownsRow.cellAt h1.lrow (x * 2 + 1) (by omega)).trans Hpair.out
  have Hb1 := Lib.hid hb1
  have hgl1 := Nat.lt_of_lt_of_le hgl hb1.size
  have hgl21 := Nat.lt_of_lt_of_le hgl2 hb1.size
  obtain ⟨pp, hpp⟩ : ∃ pp, posK C x = pp := ⟨_, rfl⟩
  rw [hpp] at c4
  have Hpp := Lib.hid hpp
  clear hat hb1 h1 hpp
  go_wp2_with fail
  go_quiet (fail)
  go_wp2_with fail
  go_ret
  exact ⟨by rw [Hpp.out]; rfl, below_drewN Hb1.out _⟩
end Go.Proofs.YtmgiljicjjcjlaaGreatDoor
namespace Go.Proofs.YtmgiljicjjcjlaaGreatDoor
open Go.RowKit
set_option linter.unusedVariables false
set_option linter.unusedSimpArgs false
theorem PermAt.vis {w w' : World} {B gp ga : Nat} {vl vo vt vf : Value} {R P : Nat} {ks : List Nat} {C : List (Nat × Nat)} {tk : List Bool} {fr : List Nat} (h : PermAt w B gp ga vl vo vt vf R P ks C tk fr) (k : Vis w w') : PermAt w' B gp ga vl vo vt vf R P ks C tk fr :=
  ⟨k.bk h.blk (by decide) (by decide), k.own h.lrow (by decide) (by decide), k.own h.orow (by decide) (by decide), k.bk h.ar (by decide) (by decide), k.own h.trow (by decide) (by decide), k.own h.frow (by decide) (by decide), h.apart, h.lt, h.lo⟩
theorem LiveAt.vis {w w' : World} {Bw gl gk gp ga : Nat} {vl vo vt : Value} {B n rate : Nat} {L : List Nat} {C : List (Nat × Nat)} {tk : List Bool} (h : LiveAt w Bw gl gk gp ga vl vo vt B n rate L C tk) (k : Vis w w') : LiveAt w' Bw gl gk gp ga vl vo vt B n rate L C tk :=
  ⟨k.bk h.blk (by decide) (by decide), h.walk.vis k, h.perm.vis k⟩
theorem sampM (rs : List Nat) (rate n i p : Nat) : (i, p) ∈ sampC rs rate n ↔ i < n ∧ rs.getD i 0 = p ∧ p % rate = 0 := by
  unfold sampC
  rw [List.mem_map]
  constructor
  · rintro ⟨a, ha, e⟩
    rw [List.mem_filter, List.mem_range] at ha
    cases e
    exact ⟨ha.1, rfl, by simpa using ha.2⟩
  · rintro ⟨h1, rfl, h2⟩
    exact ⟨i, List.mem_filter.2 ⟨List.mem_range.2 h1, by simpa using h2⟩, rfl⟩
theorem sampS (rs : List Nat) (rate n : Nat) : (sampC rs rate n).Pairwise (fun a b => a.1 < b.1) := by
  unfold sampC
  rw [List.pairwise_map]
  exact (List.pairwise_lt_range.filter _)
theorem range_sorted (C : List (Nat × Nat)) (h : C.Pairwise (fun a b => a.1 < b.1)) : (List.range C.length).Pairwise (fun a b => rowK C a < rowK C b) := by
  rw [List.pairwise_iff_getElem]
  intro i j hi hj hij
  rw [List.length_range] at hi hj
  rw [List.getElem_range, List.getElem_range]
  have := List.pairwise_iff_getElem.1 h i j hi hj hij
  unfold rowK
  rw [List.getD_eq_getElem?_getD, List.getD_eq_getElem?_getD, List.getElem?_eq_getElem hi, List.getElem?_eq_getElem hj]
  exact this
theorem sampC_le (rs : List Nat) (rate n : Nat) : (sampC rs rate n).length ≤ n := by
  unfold sampC
  rw [List.length_map]
  exact Nat.le_trans (List.length_filter_le _ _) (by simp)
set_option maxRecDepth 100000 in
set_option maxHeartbeats 4000000 in
theorem LivePos_any (Bw gl gk gp ga : Nat) (vl vo vt : Value) (B rate : Nat) (t : List UInt8) (rs : List Nat) (tk : List Bool) (i p : Nat) (w : World) (h : LiveAt w Bw gl gk gp ga vl vo vt B (t.length + 1) rate (lastL (symL t) rs) (sampC rs rate (t.length + 1)) tk) (hs : IsSuf (symL t) rs) (hn : t.length ≤ 127) (hip : rs[i]? = some p) :
    Calls Tryz.prog 13 #[.pointer (some ⟨gl, 0, none⟩), .int .i64 (i : Int)] w fun e w' => e = .returned (.int .i64 (p : Int)) ∧ VB Bw w w' := by
  have hl : rs.length = t.length + 1 := by rw [hs.len, symL_len]
  have hi := (List.getElem?_eq_some_iff.1 hip).1
  have hL : (lastL (symL t) rs).length = t.length + 1 := by rw [lastL_len, hl]
  have hpN : p < t.length + 1 := by
    have := hs.lt (List.mem_of_getElem? hip)
    rwa [symL_len] at this
  obtain ⟨N, hN⟩ : ∃ N, t.length = N := ⟨_, rfl⟩
  obtain ⟨C, hC⟩ : ∃ C, sampC rs rate (t.length + 1) = C := ⟨_, rfl⟩
  have hsort : (List.range C.length).Pairwise (fun a b => rowK C a < rowK C b) := by rw [← hC]; exact range_sorted _ (sampS _ _ _)
  have hCl : C.length ≤ 1000 := by rw [← hC]; exact Nat.le_trans (sampC_le _ _ _) (by omega)
  have hsome : ∀ a b : Nat, rs[a]? = some b → b % rate = 0 → ∃ k, k < C.length ∧ rowK C k = a ∧ posK C k = b := fun a b hab hb => by
    have hm : (a, b) ∈ C := by
      rw [← hC, sampM]
      have := (List.getElem?_eq_some_iff.1 hab).1
      exact ⟨by omega, by rw [List.getD_eq_getElem?_getD, hab]; rfl, hb⟩
    obtain ⟨k, hk, e⟩ := List.mem_iff_getElem.1 hm
    exact ⟨k, hk, by unfold rowK; rw [List.getD_eq_getElem?_getD, List.getElem?_eq_getElem hk, e]; rfl, by unfold posK; rw [List.getD_eq_getElem?_getD, List.getElem?_eq_getElem hk, e]; rfl⟩
  have hnone : ∀ a b : Nat, rs[a]? = some b → ¬ b % rate = 0 → ∀ k ∈ List.range C.length, rowK C k ≠ a := fun a b hab hb k hk e => by
    rw [List.mem_range] at hk
    have hm : C[k] ∈ C := List.getElem_mem hk
    have e1 : C[k].1 = a := by rw [← e]; unfold rowK; rw [List.getD_eq_getElem?_getD, List.getElem?_eq_getElem hk]; rfl
    obtain ⟨⟨x, y⟩, hxy⟩ : ∃ z, C[k] = z := ⟨_, rfl⟩
    rw [hxy] at hm e1
    have e2 : x = a := e1
    subst e2
    rw [← hC, sampM] at hm
    rw [List.getD_eq_getElem?_getD, hab] at hm
    have e3 : b = y := hm.2.1
    subst e3
    exact hb hm.2.2
  have hstep : ∀ a b : Nat, rs[a]? = some (b + 1) → ∃ s a', (lastL (symL t) rs)[a]? = some s ∧ narL (lastL (symL t) rs) s a = a' ∧ rs[a']? = some b := fun a b hab => by
    obtain ⟨ha, ea⟩ := List.getElem?_eq_some_iff.1 hab
    have hbm : b + 1 < (symL t).length := hs.lt (List.mem_of_getElem? hab)
    obtain ⟨a', ha', ea'⟩ := hs.row (p := b) (by omega)
    have he := symL_end t
    have hla := lastL_at he ha ea (by rw [symL_len] at hbm; omega)
    exact ⟨(symL t).getD b 0, a', List.getElem?_eq_some_iff.2 ⟨_, hla⟩, lf hs he ha ha' ea ea', List.getElem?_eq_some_iff.2 ⟨ha', ea'⟩⟩
  rw [hC, hN] at h
  rw [hN] at hL hpN hn hl
  have hiI : ¬ (N : Int) < (i : Int) := by omega
  have hi0 : decide ((i : Int) < 0) = false := by simp
  have hi2 : decide ((i : Int) > (N : Int)) = false := by simp; omega
  have hi3 : decide (N < i) = false := by simp; omega
  have H := Lib.hid h
  have Hsort := Lib.hid hsort
  have Hsome := Lib.hid hsome
  have Hnone := Lib.hid hnone
  have Hstep := Lib.hid hstep
  have HL := Lib.hid hL
  have HLt := Lib.hid (lastL_lt (symL_lt t) (rs := rs))
  have Hip := Lib.hid hip
  have c0 := h.blk.cell 0
  have c1 := h.blk.cell 1
  have hlt := h.blk.lt
  clear h hsort hsome hnone hstep hL hs hip hi hC hN hl
  go_enter Tryz.func13, Tryz.ntmps13
  go_wp2_with fail
  refine (LiveLen_any Bw gl _ N w H.out.lvw HL.out (by omega)).mono ?_
  rintro e w1 ⟨rfl, rfl⟩
  go_wp2_with fail
  clear c0 c1 hiI hi0 hi2 hi3
  go_loopw [1, 5] (fun x y wr => ∃ a b m : Nat, rs[a]? = some b ∧ b + m = p ∧ x = .int .i64 (a : Int) ∧ y = .int .i64 (m : Int) ∧ VB Bw w wr) (fun _ y _ => p + 1 - (intOf y).toNat)
  case atStart => exact ⟨i, p, 0, Hip.out, rfl, rfl, rfl, VisK.refl _ _⟩
  case round =>
    obtain ⟨a, b, m, hab, hbm, rfl, rfl, hv⟩ := hrel
    have h1 := H.out.vis hv.1
    have c0 := h1.blk.cell 0
    have c1 := h1.blk.cell 1
    have hlt1 := h1.blk.lt
    have Hv := Lib.hid hv
    have H1 := Lib.hid h1
    have Hab := Lib.hid hab
    clear h1 hv hab
    by_cases hb0 : b % rate = 0
    · obtain ⟨k, hk1, hk2, hk3⟩ := Hsome.out a b Hab.out hb0
      have Hk2 := Lib.hid hk2
      have Hk3 := Lib.hid hk3
      have hkm : k ∈ List.range C.length := List.mem_range.2 hk1
      have Hkm := Lib.hid hkm
      have hbI : ¬ (b : Int) < 0 := by omega
      have hsum : IntKind.i64.wrap ((b : Int) + (m : Int)) = (p : Int) := by rw [IntKind.wrap_i64]; omega
      clear hk2 hk3 hkm hb0 hbm
      go_wp2_with fail
      refine (PermPos_some B gp ga vl vo vt _ (N + 1) (N + 1) _ C tk [] a k wr H1.out.perm Hsort.out (by simp; omega) (by omega) Hkm.out Hk2.out).mono ?_
      rintro e w2 ⟨rfl, hb2⟩
      rw [Hk3.out]
      have h2 := H1.out.vis (Vis.of_below hb2)
      have c20 := h2.blk.cell 0
      have c21 := h2.blk.cell 1
      have hlt2 := h2.blk.lt
      have hv2 := Hv.out.below hb2
      have Hv2 := Lib.hid hv2
      have H2 := Lib.hid h2
      clear c0 c1 h2 hv2 hb2
      go_wp2_with fail
      refine (PermPos_some B gp ga vl vo vt _ (N + 1) (N + 1) _ C tk [] a k w2 H2.out.perm Hsort.out (by simp; omega) (by omega) Hkm.out Hk2.out).mono ?_
      rintro e w3 ⟨rfl, hb3⟩
      rw [Hk3.out]
      have hv3 := Hv2.out.below hb3
      have Hv3 := Lib.hid hv3
      clear c20 c21 hv3 hb3
      go_wp2_with fail
      go_ret
      exact ⟨rfl, Hv3.out⟩
    · have hno := Hnone.out a b Hab.out hb0
      have Hno := Lib.hid hno
      obtain ⟨b', rfl⟩ : ∃ b', b = b' + 1 := ⟨b - 1, by
        rcases Nat.eq_zero_or_pos b with h0 | h0
        · subst h0
          exact absurd (Nat.zero_mod _) hb0
        · omega⟩
      obtain ⟨s, a', hs1, hs2, hs3⟩ := Hstep.out a b' Hab.out
      have Hs1 := Lib.hid hs1
      have Hs2 := Lib.hid hs2
      have Hs3 := Lib.hid hs3
      clear hno hb0 hs1 hs2 hs3
      go_wp2_with fail
      refine (PermPos_none B gp ga vl vo vt _ (N + 1) (N + 1) _ C tk [] a wr H1.out.perm Hsort.out (by simp; omega) Hno.out).mono ?_
      rintro e w2 ⟨rfl, hb2⟩
      have h2 := H1.out.vis (Vis.of_below hb2)
      have c20 := h2.blk.cell 0
      have c21 := h2.blk.cell 1
      have hlt2 := h2.blk.lt
      have hv2 := Hv.out.below hb2
      have Hv2 := Lib.hid hv2
      have H2 := Lib.hid h2
      clear c0 c1 h2 hv2 hb2
      go_wp2_with fail
      refine (WalkBack_any Bw gk _ a s w2 H2.out.walk Hs1.out HLt.out (by rw [HL.out]; omega)).mono ?_
      rintro e w3 ⟨rfl, hv3⟩
      rw [Hs2.out]
      have hv4 := Hv2.out.trans hv3
      have Hv4 := Lib.hid hv4
      clear c20 c21 hv3 hv4
      go_wp2_with fail
      go_roundw
      case rel => exact ⟨a', b', m + 1, Hs3.out, by omega, rfl, by go_num, Hv4.out⟩
      case measure => simp [intOf]; omega
end Go.Proofs.YtmgiljicjjcjlaaGreatDoor
