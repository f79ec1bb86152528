/- The walks of perm's All, Next and Row. Conditions: at most 1000 pairs, in the order in which they were made. A text and its pairs under lookups; the sampled pairs. No conditions. Pairs in any order of their numbers (PermR): the walks of perm's All, Next (the least one), Row. Conditions: at most 1000 pairs, by rising rows. The walk of live's Row: the row of the suffix from a place on. Conditions: a text of at most 127 bytes, as New makes it; a place that is there. A text by any right pairs (LiveG): the walk of live's Row. Conditions: a text of at most 127 bytes. The walk of the pairs' Pos. Conditions: the pairs stand by rising rows. The walk of a text's Pos: where a row's suffix begins. Conditions: a text of at most 127 bytes, as New makes it. A text by any right pairs: the walks of perm's Pos and live's Pos. Conditions: a text of at most 127 bytes. -/
import Derived.Test.YthkkcelfgcholaaGreatPkH
import Derived.BigQuiet
import Derived.Test.YthkkcelfgcholaaGreatPkI
import Derived.Test.YthkkcelfgcholaaGreatQFnBack
namespace Go.Proofs.YthkkcelfgcholaaGreat
open Go.RowKit Go.Shelf
set_option linter.unusedVariables false
set_option linter.unusedSimpArgs false
def PAllPost (w : World) (C : List (Nat × Nat)) (e : Ending) (w' : World) : Prop :=
  ∃ A c, e = .returned (.slice A C.length c) ∧ Made w' w.heap.size 71 2 A C.length c (pairsL C) ∧ Below w.heap.size w w'
end Go.Proofs.YthkkcelfgcholaaGreat
namespace Go.Proofs.YthkkcelfgcholaaGreat
open Go.RowKit
set_option linter.unusedVariables false
set_option linter.unusedSimpArgs false
theorem PermAt.vis {w w' : World} {B gp ga : Nat} {vl vo vt vf : Value} {R P : Nat} {ks : List Nat} {C : List (Nat × Nat)} {tk : List Bool} {fr : List Nat} (h : PermAt w B gp ga vl vo vt vf R P ks C tk fr) (k : Vis w w') : PermAt w' B gp ga vl vo vt vf R P ks C tk fr :=
  ⟨k.bk h.blk (by decide) (by decide), k.own h.lrow (by decide) (by decide), k.own h.orow (by decide) (by decide), k.bk h.ar (by decide) (by decide), k.own h.trow (by decide) (by decide), k.own h.frow (by decide) (by decide), h.apart, h.lt, h.lo⟩
theorem LiveAt.vis {w w' : World} {Bw gl gk gp ga : Nat} {vl vo vt : Value} {B n rate : Nat} {L : List Nat} {C : List (Nat × Nat)} {tk : List Bool} (h : LiveAt w Bw gl gk gp ga vl vo vt B n rate L C tk) (k : Vis w w') : LiveAt w' Bw gl gk gp ga vl vo vt B n rate L C tk :=
  ⟨k.bk h.blk (by decide) (by decide), h.walk.vis k, h.perm.vis k⟩
theorem sampM (rs : List Nat) (rate n i p : Nat) : (i, p) ∈ sampC rs rate n ↔ i < n ∧ rs.getD i 0 = p ∧ p % rate = 0 := by
  unfold sampC
  rw [List.mem_map]
  constructor
  · rintro ⟨a, ha, e⟩
    rw [List.mem_filter, List.mem_range] at ha
    cases e
    exact ⟨ha.1, rfl, by simpa using ha.2⟩
  · rintro ⟨h1, rfl, h2⟩
    exact ⟨i, List.mem_filter.2 ⟨List.mem_range.2 h1, by simpa using h2⟩, rfl⟩
theorem range_sorted (C : List (Nat × Nat)) (h : C.Pairwise (fun a b => a.1 < b.1)) : (List.range C.length).Pairwise (fun a b => rowK C a < rowK C b) := by
  rw [List.pairwise_iff_getElem]
  intro i j hi hj hij
  rw [List.length_range] at hi hj
  rw [List.getElem_range, List.getElem_range]
  have := List.pairwise_iff_getElem.1 h i j hi hj hij
  unfold rowK
  rw [List.getD_eq_getElem?_getD, List.getD_eq_getElem?_getD, List.getElem?_eq_getElem hi, List.getElem?_eq_getElem hj]
  exact this
theorem sampC_le (rs : List Nat) (rate n : Nat) : (sampC rs rate n).length ≤ n := by
  unfold sampC
  rw [List.length_map]
  exact Nat.le_trans (List.length_filter_le _ _) (by simp)
end Go.Proofs.YthkkcelfgcholaaGreat
namespace Go.Proofs.YthkkcelfgcholaaGreat
open Go.RowKit Go.Shelf
set_option linter.unusedVariables false
set_option linter.unusedSimpArgs false
/-- gp is a Perm of R rows and P places, with the pairs pr. -/
def PermR (w : World) (gp R P : Nat) (pr : List (Nat × Nat)) : Prop :=
  ∃ B ga vl vo vt vf ks C tk fr, PermAt w B gp ga vl vo vt vf R P ks C tk fr ∧ ks.Pairwise (fun a b => rowK C a < rowK C b) ∧ C.length ≤ 1000 ∧ ks.length ≤ 1000 ∧ pr = ks.map fun k => (rowK C k, posK C k)
theorem PermR.le {w : World} {gp R P : Nat} {pr : List (Nat × Nat)} (h : PermR w gp R P pr) : pr.length ≤ 1000 := by
  obtain ⟨B, ga, vl, vo, vt, vf, ks, C, tk, fr, h1, h2, h3, h4, rfl⟩ := h
  rw [List.length_map]
  exact h4
theorem PermR.vis {w w' : World} {gp R P : Nat} {pr : List (Nat × Nat)} (h : PermR w gp R P pr) (k : Vis w w') : PermR w' gp R P pr := by
  obtain ⟨B, ga, vl, vo, vt, vf, ks, C, tk, fr, h1, h2⟩ := h
  exact ⟨B, ga, vl, vo, vt, vf, ks, C, tk, fr, h1.vis k, h2⟩
theorem PermR.lt {w : World} {gp R P : Nat} {pr : List (Nat × Nat)} (h : PermR w gp R P pr) : gp < w.heap.size := by
  obtain ⟨B, ga, vl, vo, vt, vf, ks, C, tk, fr, h1, h2⟩ := h
  exact h1.blk.lt
set_option maxRecDepth 100000 in
set_option maxHeartbeats 2000000 in
theorem PermAllG_any (B gp ga : Nat) (vl vo vt vf : Value) (R P : Nat) (ks : List Nat) (C : List (Nat × Nat)) (tk : List Bool) (fr : List Nat) (w : World) (h : PermAt w B gp ga vl vo vt vf R P ks C tk fr) (hC : C.length ≤ 1000) (hK : ks.length ≤ 1000) :
    Calls Tryz.prog 86 #[.pointer (some ⟨gp, 0, none⟩)] w (PAllPost w (ks.map fun k => (rowK C k, posK C k))) := by
  obtain ⟨i0, hi0, hz0, hz1, hz2⟩ := info_parts pair_info
  have ho := h.orow
  obtain ⟨A2, c2, rfl, _, _⟩ := own_shape ho
  obtain ⟨A1, c1, rfl, _, _⟩ := own_shape h.lrow
  have c1' : w.cell? ⟨gp, 1, none⟩ = some (.slice A1 C.length c1) := (h.blk.cell 1).trans rfl
  have c2' : w.cell? ⟨gp, 2, none⟩ = some (.slice A2 ks.length c2) := (h.blk.cell 2).trans rfl
  have hgp := h.blk.lt
  obtain ⟨N, hN⟩ : ∃ n, C.length = n := ⟨_, rfl⟩
  obtain ⟨n, hn⟩ : ∃ n, ks.length = n := ⟨_, rfl⟩
  obtain ⟨pr, hpr⟩ : ∃ pr, (ks.map fun k => (rowK C k, posK C k)) = pr := ⟨_, rfl⟩
  have hprl : pr.length = n := by rw [← hpr, List.length_map, hn]
  rw [hpr]
  have H := Lib.hid h
  have Hn := Lib.hid hn
  have HN := Lib.hid hN
  have Hpr := Lib.hid hpr
  have Hprl := Lib.hid hprl
  rw [hN] at c1' hC
  rw [hn] at c2' hK
  clear h ho hn hN hpr hprl
  unfold PAllPost
  go_enter Tryz.func86, Tryz.ntmps86
  go_wp2_with fail
  go_loopw [3, 13] (fun v i wr => ∃ k : Nat, k ≤ n ∧ i = .int .i64 (k : Int) ∧ wr.ownsRow w.heap.size 71 2 v k (pairsL (pr.take k)) ∧ Below w.heap.size w wr) (fun _ i _ => n - (intOf i).toNat)
  case atStart => exact ⟨0, Nat.zero_le _, rfl, World.ownsRow_nil _ _ _ _, Below.refl _ _⟩
  case round =>
    obtain ⟨k, hk, rfl, hown, hb⟩ := hrel
    have hsz := hb.size
    by_cases hlt : k < n
    · have hkn : k < ks.length := by rw [Hn.out]; exact hlt
      obtain ⟨j, hj⟩ : ∃ j, ks[k]? = some j := ⟨_, List.getElem?_eq_getElem hkn⟩
      have hjC : j < C.length := H.out.lt j (List.mem_of_getElem? hj)
      have hjN : j < N := by rw [← HN.out]; exact hjC
      have hp := H.out.below hb
      have ho2 := hp.orow
      obtain ⟨g2, k2, e2, _, hg2⟩ := World.ownsRow.form ho2 (by omega)
      obtain ⟨g1, k1, e1, _, hg1⟩ := World.ownsRow.form hp.lrow (by omega)
      injection e2 with e2a _ _
      injection e1 with e1a _ _
      subst e2a
      subst e1a
      have d2 : wr.cell? ⟨g2, k, none⟩ = some (.int .i64 (j : Int)) := (World.ownsRow.cellAt ho2 k (by omega)).trans (by rw [List.getElem?_map, hj]; rfl)
      obtain ⟨p0, p1⟩ := pairsL_get C j hjC
      have d0 : wr.cell? ⟨g1, j * 2, none⟩ = _ := (World.ownsRow.cellAt hp.lrow (j * 2) (by omega)).trans p0
      have d1 : wr.cell? ⟨g1, j * 2 + 1, none⟩ = _ := (World.ownsRow.cellAt hp.lrow (j * 2 + 1) (by omega)).trans p1
      have d3 : wr.cell? ⟨gp, 1, none⟩ = some (.slice (some ⟨g1, 0, none⟩) N c1) := (hb.cell (p := ⟨gp, 1, none⟩) hgp).trans c1'
      obtain ⟨a1, ha1⟩ : ∃ x, rowK C j = x := ⟨_, rfl⟩
      obtain ⟨a2, ha2⟩ : ∃ x, posK C j = x := ⟨_, rfl⟩
      have hnext : pairsL (pr.take (k + 1)) = pairsL (pr.take k) ++ [.int .i64 (a1 : Int), .int .i64 (a2 : Int)] := by
        have hc : pr[k]? = some (a1, a2) := by rw [← Hpr.out, List.getElem?_map, hj, ← ha1, ← ha2]; rfl
        rw [List.take_add_one, hc]
        show pairsL (pr.take k ++ [(a1, a2)]) = _
        rw [pairsL_snoc]
        rfl
      rw [ha1] at d0
      rw [ha2] at d1
      have Hown := Lib.hid hown
      have Hb := Lib.hid hb
      have Hnext := Lib.hid hnext
      clear hown hb hnext hp ho2 p0 p1 c1' c2' ha1 ha2 hj hjC hkn
      go_wp2_with (at_builtin; refine wpList_push _ rfl (.tmp 17) (.tmp 25) _ rfl w.heap.size 71 i0 (.agg #[.int .i64 0, .int .i64 0]) 2 16 Tryz.underlying65 hi0 hz0 hz1 hz2 rfl (by decide) _ k _ rfl Hown.out rfl rfl (by simp [Value.oneCell']) (by unfold maxLen; omega) (by omega) hsz ?_; intro v5 w5 hown5 hg5 hs5 hat5)
      have hb5 := below_grown Hb.out Hown.out hg5 hsz
      have Hb5 := Lib.hid hb5
      clear hb5 hg5 hat5
      exact ⟨⟨v5, _, _, ⟨k + 1, by omega, by go_num, by rw [Hnext.out]; exact hown5, Hb5.out⟩, rfl, rfl, rfl⟩, by simp [intOf]; omega⟩
    · obtain rfl : k = n := by omega
      have htk : pr.take k = pr := List.take_of_length_le (by rw [Hprl.out]; exact Nat.le_refl _)
      rw [htk] at hown
      obtain ⟨A9, c9, rfl, hm9⟩ := made_of_own hown
      have Hm9 := Lib.hid hm9
      have Hb := Lib.hid hb
      clear hown hm9 hb
      go_wp2_with fail
      go_ret
      exact ⟨A9, c9, by rw [Hprl.out]; rfl, by rw [Hprl.out]; exact Hm9.out, Hb.out⟩
theorem PermAllR_any (gp R P : Nat) (pr : List (Nat × Nat)) (w : World) (h : PermR w gp R P pr) :
    Calls Tryz.prog 86 #[.pointer (some ⟨gp, 0, none⟩)] w (PAllPost w pr) := by
  obtain ⟨B, ga, vl, vo, vt, vf, ks, C, tk, fr, h1, h2, h3, h4, rfl⟩ := h
  exact PermAllG_any B gp ga vl vo vt vf R P ks C tk fr w h1 h3 h4
/-- The least place from pos on that has a pair; none: -1. -/
def LeastOk (pr : List (Nat × Nat)) (pos : Nat) (z : Int) : Prop := (z = -1 ∧ ∀ x ∈ pr, x.2 < pos) ∨ ∃ x ∈ pr, z = ((x.2 : Nat) : Int) ∧ pos ≤ x.2 ∧ ∀ y ∈ pr, pos ≤ y.2 → x.2 ≤ y.2
theorem least_snoc {l : List (Nat × Nat)} {pos : Nat} {z : Int} (h : LeastOk l pos z) (a1 a2 : Nat) : LeastOk (l ++ (some (a1, a2)).toList) pos (if pos ≤ a2 ∧ (z < 0 ∨ (a2 : Int) < z) then (a2 : Int) else z) := by
  have hmem : ∀ y : Nat × Nat, y ∈ l ++ (some (a1, a2)).toList ↔ y ∈ l ∨ y = (a1, a2) := fun y => by simp
  rcases h with ⟨rfl, h1⟩ | ⟨x, hx, rfl, h1, h2⟩
  · by_cases c : pos ≤ a2
    · rw [if_pos ⟨c, .inl (by omega)⟩]
      refine .inr ⟨(a1, a2), (hmem _).2 (.inr rfl), rfl, c, fun y hy hp => ?_⟩
      rcases (hmem y).1 hy with hy | rfl
      · have := h1 y hy
        omega
      · exact Nat.le_refl _
    · rw [if_neg (fun e => c e.1)]
      refine .inl ⟨rfl, fun y hy => ?_⟩
      rcases (hmem y).1 hy with hy | rfl
      · exact h1 y hy
      · show a2 < pos
        omega
  · by_cases c : pos ≤ a2 ∧ ((x.2 : Int) < 0 ∨ (a2 : Int) < (x.2 : Int))
    · rw [if_pos c]
      have c2 : a2 < x.2 := by omega
      refine .inr ⟨(a1, a2), (hmem _).2 (.inr rfl), rfl, c.1, fun y hy hp => ?_⟩
      rcases (hmem y).1 hy with hy | rfl
      · have := h2 y hy hp
        show a2 ≤ _
        omega
      · exact Nat.le_refl _
    · rw [if_neg c]
      refine .inr ⟨x, (hmem _).2 (.inl hx), rfl, h1, fun y hy hp => ?_⟩
      rcases (hmem y).1 hy with hy | rfl
      · exact h2 y hy hp
      · have hp' : pos ≤ a2 := hp
        show x.2 ≤ a2
        omega
def LeastPost (w : World) (C : List (Nat × Nat)) (pos : Nat) (e : Ending) (w' : World) : Prop := ∃ z, e = .returned (.int .i64 z) ∧ LeastOk C pos z ∧ Below w.heap.size w w'
set_option maxRecDepth 100000 in
set_option maxHeartbeats 2000000 in
theorem PermNextG_any (gp R P : Nat) (C : List (Nat × Nat)) (pos : Nat) (w : World) (h : PermR w gp R P C) :
    Calls Tryz.prog 51 #[.pointer (some ⟨gp, 0, none⟩), .int .i64 (pos : Int)] w (LeastPost w C pos) := by
  have hall := PermAllR_any gp R P C w h
  have hC := h.le
  unfold PAllPost at hall
  obtain ⟨n, hn⟩ : ∃ n, C.length = n := ⟨_, rfl⟩
  rw [hn] at hall hC
  have Hn := Lib.hid hn
  clear h hn
  unfold LeastPost
  go_enter Tryz.func51, Tryz.ntmps51
  go_wp2_with fail
  refine hall.mono ?_
  rintro e w1 ⟨A, c, rfl, hm, hb1⟩
  clear hall
  have Hm := Lib.hid hm
  have Hb1 := Lib.hid hb1
  clear hm hb1
  go_wp2_with fail
  go_loopw [5, 11] (fun v i wr => ∃ (k : Nat) (z : Int), k ≤ n ∧ i = .int .i64 (k : Int) ∧ v = .int .i64 z ∧ LeastOk (C.take k) pos z ∧ Below w1.heap.size w1 wr) (fun _ i _ => n - (intOf i).toNat)
  case atStart => exact ⟨0, -1, Nat.zero_le _, rfl, rfl, .inl ⟨rfl, fun x hx => by simp at hx⟩, Below.refl _ _⟩
  case round =>
    obtain ⟨k, z, hk, rfl, rfl, hz, hb⟩ := hrel
    have hsz := hb.size
    by_cases hlt : k < n
    · have hkC : k < C.length := by rw [Hn.out]; exact hlt
      have hr := Hm.out.rd.below (hb.mono (B := w1.heap.size) (Nat.le_refl _))
      obtain ⟨b, off, rfl, hbb, hcell⟩ := hr.2 (by omega)
      obtain ⟨p0, p1⟩ := pairsL_get C k hkC
      have d0 := hcell _ _ p0
      have d1 := hcell _ _ p1
      obtain ⟨a1, ha1⟩ : ∃ x, rowK C k = x := ⟨_, rfl⟩
      obtain ⟨a2, ha2⟩ : ∃ x, posK C k = x := ⟨_, rfl⟩
      rw [ha1] at d0
      rw [ha2, ← Nat.add_assoc] at d1
      have hcc : C[k]? = some (a1, a2) := by
        rw [← ha1, ← ha2]
        unfold rowK posK
        rw [List.getD_eq_getElem?_getD, List.getElem?_eq_getElem hkC]
        rfl
      have hnx : ∀ y : Int, y = (if pos ≤ a2 ∧ (z < 0 ∨ (a2 : Int) < z) then (a2 : Int) else z) → LeastOk (C.take (k + 1)) pos y := fun y hy => by
        rw [List.take_add_one, hcc, hy]
        exact least_snoc hz a1 a2
      have Hnx := Lib.hid hnx
      have Hb := Lib.hid hb
      have hb2 : Below w1.heap.size w1 (wr.alloc (.cells #[.int .i64 (a1 : Int), .int .i64 (a2 : Int)] 71)) := hb.alloc hsz _
      have Hb2 := Lib.hid hb2
      clear hz hb hr hcell p0 p1 ha1 ha2 hb2 hnx hcc
      by_cases h1 : pos ≤ a2
      · have n1 : decide (pos ≤ a2) = true := decide_eq_true h1
        by_cases h2 : z < 0
        · have hok : LeastOk (C.take (k + 1)) pos (a2 : Int) := Hnx.out (a2 : Int) (by rw [if_pos ⟨h1, .inl h2⟩])
          have Hok := Lib.hid hok
          clear hok
          go_wp2_with fail
          go_roundw
          case rel => exact ⟨k + 1, (a2 : Int), by omega, by go_num, by first | rfl | trivial, Hok.out, Hb2.out⟩
          case measure => simp [intOf]; omega
        · have n2 : decide (z < 0) = false := decide_eq_false h2
          by_cases h3 : (a2 : Int) < z
          · have hok : LeastOk (C.take (k + 1)) pos (a2 : Int) := Hnx.out (a2 : Int) (by rw [if_pos ⟨h1, .inr h3⟩])
            have Hok := Lib.hid hok
            clear hok
            go_wp2_with fail
            go_roundw
            case rel => exact ⟨k + 1, (a2 : Int), by omega, by go_num, by first | rfl | trivial, Hok.out, Hb2.out⟩
            case measure => simp [intOf]; omega
          · have n3 : decide ((a2 : Int) < z) = false := decide_eq_false h3
            have hok : LeastOk (C.take (k + 1)) pos z := Hnx.out z (by rw [if_neg (by omega)])
            have Hok := Lib.hid hok
            clear hok
            go_wp2_with fail
            go_roundw
            case rel => exact ⟨k + 1, z, by omega, by go_num, by first | rfl | trivial, Hok.out, Hb2.out⟩
            case measure => simp [intOf]; omega
      · have n1 : decide (pos ≤ a2) = false := decide_eq_false h1
        have hok : LeastOk (C.take (k + 1)) pos z := Hnx.out z (by rw [if_neg (by omega)])
        have Hok := Lib.hid hok
        clear hok
        go_wp2_with fail
        go_roundw
        case rel => exact ⟨k + 1, z, by omega, by go_num, by first | rfl | trivial, Hok.out, Hb2.out⟩
        case measure => simp [intOf]; omega
    · obtain rfl : k = n := by omega
      have hbW := Hb1.out.trans (hb.mono Hb1.out.size)
      have HbW := Lib.hid hbW
      have htk : C.take k = C := List.take_of_length_le (by rw [Hn.out]; exact Nat.le_refl _)
      rw [htk] at hz
      have Hz := Lib.hid hz
      clear hbW hz hb htk
      go_wp2_with fail
      go_ret
      exact ⟨z, rfl, Hz.out, HbW.out⟩
def RowPostG (w : World) (ks : List Nat) (C : List (Nat × Nat)) (pos : Nat) (e : Ending) (w' : World) : Prop := ∃ k, k ∈ ks ∧ posK C k = pos ∧ e = .returned (.int .i64 ((rowK C k : Nat) : Int)) ∧ Below w.heap.size w w'
set_option maxRecDepth 100000 in
set_option maxHeartbeats 2000000 in
theorem PermRowG_any (B gp ga : Nat) (vl vo vt vf : Value) (R P : Nat) (ks : List Nat) (C : List (Nat × Nat)) (tk : List Bool) (fr : List Nat) (pos : Nat) (w : World) (h : PermAt w B gp ga vl vo vt vf R P ks C tk fr) (hk : ks.length ≤ 1099511627776) (hC : C.length ≤ 1099511627776) (hex : ∃ k ∈ ks, posK C k = pos) :
    Calls Tryz.prog 52 #[.pointer (some ⟨gp, 0, none⟩), .int .i64 (pos : Int)] w (RowPostG w ks C pos) := by
  have hhas := PermHas_any B gp ga vl vo vt vf R P ks C tk fr pos w h hk
  obtain ⟨q, x, hq, hx1, hx2⟩ := firstI_some (p := fun k => decide (posK C k = pos)) (l := ks) (by obtain ⟨k, hk1, hk2⟩ := hex; exact ⟨k, hk1, decide_eq_true hk2⟩) 0
  rw [hq, Nat.zero_add] at hhas
  have hx3 : posK C x = pos := of_decide_eq_true hx2
  have hqn : q < ks.length := (List.getElem?_eq_some_iff.1 hx1).1
  have hxC : x < C.length := h.lt x (List.mem_of_getElem? hx1)
  obtain ⟨g, cap, hvo, hnc, hgl⟩ := World.ownsRow.form h.orow (by omega)
  obtain ⟨g2, cap2, hvl, hnc2, hgl2⟩ := World.ownsRow.form h.lrow (by omega)
  subst hvo
  subst hvl
  have hpair := (pairsL_get C x hxC).1
  have H := Lib.hid h
  have Hx1 := Lib.hid hx1
  have Hx3 := Lib.hid hx3
  have Hpair := Lib.hid hpair
  have hqI : (q : Int) < (ks.length : Int) := by omega
  have hxI : (x : Int) < (C.length : Int) := by omega
  have hq0 : decide ((q : Int) < 0) = false := by simp
  clear h hq hx1 hx2 hx3 hpair hex
  unfold RowPostG
  go_enter Tryz.func52, Tryz.ntmps52
  go_wp2_with fail
  refine hhas.mono ?_
  rintro e w1 ⟨rfl, hb1⟩
  have h1 := H.out.below hb1
  have c1 : ∀ d, (w1.drewN d).cell? ⟨gp, 1, none⟩ = some (.slice (some ⟨g2, 0, none⟩) C.length cap2) := fun d => (h1.blk.cell 1).trans rfl
  have c2 : ∀ d, (w1.drewN d).cell? ⟨gp, 2, none⟩ = some (.slice (some ⟨g, 0, none⟩) ks.length cap) := fun d => (h1.blk.cell 2).trans rfl
  have hgp := h1.blk.lt
  have c3 : ∀ d, (w1.drewN d).cell? ⟨g, q, none⟩ = some (.int .i64 (x : Int)) := fun d => (World.ownsRow.cellAt h1.orow q (by omega)).trans (by rw [List.getElem?_map, Hx1.out]; rfl)
  have c4 : ∀ d, (w1.drewN d).cell? ⟨g2, x * 2, none⟩ = some (.int .i64 ((rowK C x : Nat) : Int)) := fun d => (World.ownsRow.cellAt h1.lrow (x * 2) (by omega)).trans Hpair.out
  have Hb1 := Lib.hid hb1
  have hgl1 := Nat.lt_of_lt_of_le hgl hb1.size
  have hgl21 := Nat.lt_of_lt_of_le hgl2 hb1.size
  obtain ⟨pp, hpp⟩ : ∃ pp, rowK C x = pp := ⟨_, rfl⟩
  rw [hpp] at c4
  have Hpp := Lib.hid hpp
  clear hhas hb1 h1 hpp
  go_wp2_with fail
  go_quiet (fail)
  go_wp2_with fail
  go_ret
  exact ⟨x, List.mem_of_getElem? Hx1.out, Hx3.out, by rw [Hpp.out]; rfl, below_drewN Hb1.out _⟩
def RowPostR (w : World) (pr : List (Nat × Nat)) (pos : Nat) (e : Ending) (w' : World) : Prop := ∃ r, (r, pos) ∈ pr ∧ e = .returned (.int .i64 (r : Int)) ∧ Below w.heap.size w w'
theorem PermRowR_any (gp R P : Nat) (pr : List (Nat × Nat)) (pos : Nat) (w : World) (h : PermR w gp R P pr) (hex : ∃ x ∈ pr, x.2 = pos) :
    Calls Tryz.prog 52 #[.pointer (some ⟨gp, 0, none⟩), .int .i64 (pos : Int)] w (RowPostR w pr pos) := by
  obtain ⟨B, ga, vl, vo, vt, vf, ks, C, tk, fr, h1, h2, h3, h4, rfl⟩ := h
  have hex' : ∃ k ∈ ks, posK C k = pos := by
    obtain ⟨x, hx, e⟩ := hex
    obtain ⟨k, hk, rfl⟩ := List.mem_map.1 hx
    exact ⟨k, hk, e⟩
  have hr := PermRowG_any B gp ga vl vo vt vf R P ks C tk fr pos w h1 (by omega) (by omega) hex'
  refine hr.mono ?_
  rintro e w' ⟨k, hk, hp, rfl, hb⟩
  exact ⟨_, List.mem_map.2 ⟨k, hk, by rw [hp]⟩, rfl, hb⟩
set_option maxRecDepth 100000 in
set_option maxHeartbeats 2000000 in
theorem PermRowR_none (gp R P : Nat) (pr : List (Nat × Nat)) (pos : Nat) (w : World) (h : PermR w gp R P pr) (hno : ∀ x ∈ pr, x.2 ≠ pos) :
    Calls Tryz.prog 52 #[.pointer (some ⟨gp, 0, none⟩), .int .i64 (pos : Int)] w fun e w' => e = .returned (.int .i64 (-1)) ∧ Below w.heap.size w w' := by
  obtain ⟨B, ga, vl, vo, vt, vf, ks, C, tk, fr, h1, h2, h3, h4, rfl⟩ := h
  have hhas := PermHas_any B gp ga vl vo vt vf R P ks C tk fr pos w h1 (by omega)
  rw [firstI_none (p := fun k => decide (posK C k = pos)) (l := ks) (fun k hk => decide_eq_false (hno _ (List.mem_map.2 ⟨k, hk, rfl⟩))) 0] at hhas
  clear h1 h2 hno
  go_enter Tryz.func52, Tryz.ntmps52
  go_wp2_with fail
  refine hhas.mono ?_
  rintro e w1 ⟨rfl, hb1⟩
  have Hb1 := Lib.hid hb1
  clear hhas hb1
  go_wp2_with fail
  go_ret
  exact ⟨rfl, Hb1.out⟩
end Go.Proofs.YthkkcelfgcholaaGreat
namespace Go.Proofs.YthkkcelfgcholaaGreat
open Go.RowKit
set_option linter.unusedVariables false
set_option linter.unusedSimpArgs false
/-- The first row is the end's. -/
theorem row_zero {t : List UInt8} {rs : List Nat} (h : IsSuf (symL t) rs) : rs[0]? = some t.length := by
  obtain ⟨e1, e2, e3⟩ := symL_end t
  obtain ⟨j, hj, ej⟩ := h.row (p := t.length) (by omega)
  rcases Nat.eq_zero_or_pos j with h0 | h0
  · subst h0
    rw [List.getElem?_eq_getElem hj, ej]
  · exfalso
    have h1 := List.pairwise_iff_getElem.1 h.sorted 0 j (by omega) hj h0
    rw [ej] at h1
    have hq := h.lt (List.getElem_mem (show 0 < rs.length by omega))
    have hne : rs[0]'(by omega) ≠ t.length := fun e => by
      exact (List.pairwise_iff_getElem.1 h.nodup 0 j (by omega) hj h0) (by rw [e, ej])
    rw [sufLt_step, aN_getD (by omega : t.length < (symL t).length), aN_getD hq, e2] at h1
    have := e3 (rs[0]'(by omega)) (by omega)
    rcases h1 with h1 | h1
    · omega
    · omega
theorem row_inj {l rs : List Nat} (h : IsSuf l rs) {i j p : Nat} (hi : rs[i]? = some p) (hj : rs[j]? = some p) : i = j := by
  obtain ⟨hi1, hi2⟩ := List.getElem?_eq_some_iff.1 hi
  obtain ⟨hj1, hj2⟩ := List.getElem?_eq_some_iff.1 hj
  rcases Nat.lt_trichotomy i j with h1 | h1 | h1
  · exact absurd (by rw [hi2, hj2]) (List.pairwise_iff_getElem.1 h.nodup i j hi1 hj1 h1)
  · exact h1
  · exact absurd (by rw [hi2, hj2]) (List.pairwise_iff_getElem.1 h.nodup j i hj1 hi1 h1)
end Go.Proofs.YthkkcelfgcholaaGreat
namespace Go.Proofs.YthkkcelfgcholaaGreat
open Go.RowKit
set_option linter.unusedVariables false
set_option linter.unusedSimpArgs false
/-- gl is a Live of the transform L, of n rows, with the pairs pr. -/
structure LiveG (w : World) (Bw gl gk gp rate n : Nat) (L : List Nat) (pr : List (Nat × Nat)) : Prop where
  blk : ∃ mv : Int, Bk w gl 43 #[.pointer (some ⟨gk, 0, none⟩), .pointer (some ⟨gp, 0, none⟩), .int .i64 (rate : Int), .int .i64 mv]
  walk : WalkAt w Bw gk L
  perm : PermR w gp n n pr
theorem LiveG.vis {w w' : World} {Bw gl gk gp rate n : Nat} {L : List Nat} {pr : List (Nat × Nat)} (h : LiveG w Bw gl gk gp rate n L pr) (k : Vis w w') : LiveG w' Bw gl gk gp rate n L pr := by
  obtain ⟨mv, h1⟩ := h.blk
  exact ⟨⟨mv, k.bk h1 (by decide) (by decide)⟩, h.walk.vis k, h.perm.vis k⟩
theorem LiveG.lvw {w : World} {Bw gl gk gp rate n : Nat} {L : List Nat} {pr : List (Nat × Nat)} (h : LiveG w Bw gl gk gp rate n L pr) : LvW w Bw gl L := by
  obtain ⟨mv, h1⟩ := h.blk
  exact ⟨gk, _, _, _, h1, h.walk⟩
theorem LiveG.mono {w : World} {Bw B' gl gk gp rate n : Nat} {L : List Nat} {pr : List (Nat × Nat)} (h : LiveG w Bw gl gk gp rate n L pr) (hB : B' ≤ Bw) : LiveG w B' gl gk gp rate n L pr := ⟨h.blk, h.walk.mono hB, h.perm⟩
theorem LiveG.lt {w : World} {Bw gl gk gp rate n : Nat} {L : List Nat} {pr : List (Nat × Nat)} (h : LiveG w Bw gl gk gp rate n L pr) : gl < w.heap.size := h.lvw.lt
theorem range_pairs (C : List (Nat × Nat)) : C = (List.range C.length).map fun k => (rowK C k, posK C k) := by
  apply List.ext_getElem?
  intro i
  rw [List.getElem?_map]
  by_cases h : i < C.length
  · rw [List.getElem?_range h, List.getElem?_eq_getElem h]
    unfold rowK posK
    rw [Option.map_some, List.getD_eq_getElem?_getD, List.getElem?_eq_getElem h]
    rfl
  · rw [List.getElem?_eq_none (by omega), List.getElem?_eq_none (by simpa using h)]
    rfl
theorem LiveAt.g {w : World} {Bw gl gk gp ga : Nat} {vl vo vt : Value} {B n rate : Nat} {L : List Nat} {C : List (Nat × Nat)} {tk : List Bool} (h : LiveAt w Bw gl gk gp ga vl vo vt B n rate L C tk) (hC : C.Pairwise (fun a b => a.1 < b.1)) (hl : C.length ≤ 1000) : LiveG w Bw gl gk gp rate n L C :=
  ⟨⟨0, h.blk⟩, h.walk, B, ga, vl, vo, vt, _, _, C, tk, [], h.perm, range_sorted C hC, hl, by rw [List.length_range]; exact hl, range_pairs C⟩
theorem samp_right {rs : List Nat} {rate n : Nat} (hn : n ≤ rs.length) : ∀ x ∈ sampC rs rate n, rs[x.1]? = some x.2 := fun x hx => by
  obtain ⟨h1, h2⟩ := sampC_mem hx
  rw [h2, List.getD_eq_getElem?_getD, List.getElem?_eq_getElem (show x.1 < rs.length by omega)]
  rfl
theorem samp_zero {t : List UInt8} {rs : List Nat} {rate : Nat} (hs : IsSuf (symL t) rs) : ∃ x ∈ sampC rs rate (t.length + 1), x.2 = 0 := by
  obtain ⟨j, hj, ej⟩ := hs.row (p := 0) (by rw [symL_len]; omega)
  refine ⟨(j, 0), (sampM _ _ _ _ _).2 ⟨?_, ?_, Nat.zero_mod _⟩, rfl⟩
  · have := hs.len
    rw [symL_len] at this
    omega
  · rw [List.getD_eq_getElem?_getD, List.getElem?_eq_getElem hj, ej]
    rfl
set_option maxRecDepth 100000 in
set_option maxHeartbeats 4000000 in
theorem LiveRowG_any (Bw gl gk gp rate : Nat) (t : List UInt8) (rs : List Nat) (C : List (Nat × Nat)) (i p : Nat) (w : World) (h : LiveG w Bw gl gk gp rate (t.length + 1) (lastL (symL t) rs) C) (hrt : ∀ x ∈ C, rs[x.1]? = some x.2) (hs : IsSuf (symL t) rs) (hn : t.length ≤ 127) (hip : rs[i]? = some p) :
    Calls Tryz.prog 21 #[.pointer (some ⟨gl, 0, none⟩), .int .i64 (p : Int)] w fun e w' => e = .returned (.int .i64 (i : Int)) ∧ VB Bw w w' := by
  have hl : rs.length = t.length + 1 := by rw [hs.len, symL_len]
  have hL : (lastL (symL t) rs).length = t.length + 1 := by rw [lastL_len, hl]
  have hpN : p < t.length + 1 := by
    have := hs.lt (List.mem_of_getElem? hip)
    rwa [symL_len] at this
  have hr0 := row_zero hs
  obtain ⟨N, hN⟩ : ∃ N, t.length = N := ⟨_, rfl⟩
  have hstep : ∀ a b : Nat, rs[a]? = some (b + 1) → ∃ s a', (lastL (symL t) rs)[a]? = some s ∧ narL (lastL (symL t) rs) s a = a' ∧ rs[a']? = some b := fun a b hab => by
    obtain ⟨ha, ea⟩ := List.getElem?_eq_some_iff.1 hab
    have hbm : b + 1 < (symL t).length := hs.lt (List.mem_of_getElem? hab)
    obtain ⟨a', ha', ea'⟩ := hs.row (p := b) (by omega)
    have he := symL_end t
    have hla := lastL_at he ha ea (by rw [symL_len] at hbm; omega)
    exact ⟨(symL t).getD b 0, a', List.getElem?_eq_some_iff.2 ⟨_, hla⟩, lf hs he ha ha' ea ea', List.getElem?_eq_some_iff.2 ⟨ha', ea'⟩⟩
  have hle : ∀ a b : Nat, rs[a]? = some b → b ≤ t.length ∧ a ≤ t.length := fun a b hab => by
    have h1 := hs.lt (List.mem_of_getElem? hab)
    rw [symL_len] at h1
    have h2 := (List.getElem?_eq_some_iff.1 hab).1
    omega
  have huni : ∀ a, rs[a]? = some p → a = i := fun a ha => row_inj hs ha hip
  rw [hN] at h
  rw [hN] at hL hpN hn hl hr0 hle
  have hp0 : decide ((p : Int) < 0) = false := by simp
  have hp1 : ¬ N < p := by omega
  have hp2 : decide (N < p) = false := decide_eq_false hp1
  have H := Lib.hid h
  have Hr0 := Lib.hid hr0
  have HCm := Lib.hid hrt
  have Hstep := Lib.hid hstep
  have Hle := Lib.hid hle
  have Huni := Lib.hid huni
  have HL := Lib.hid hL
  have HLt := Lib.hid (lastL_lt (symL_lt t) (rs := rs))
  obtain ⟨mv, hblk⟩ := h.blk
  have c0 := hblk.cell 0
  have c1 := hblk.cell 1
  have hlt := hblk.lt
  clear h hr0 hrt hstep hle huni hL hs hip hN hl hblk
  go_enter Tryz.func21, Tryz.ntmps21
  go_wp2_with fail
  refine (LiveLen_any Bw gl _ N w H.out.lvw HL.out (by omega)).mono ?_
  rintro e w1 ⟨rfl, rfl⟩
  go_wp2_with fail
  refine (LiveLen_any Bw gl _ N w H.out.lvw HL.out (by omega)).mono ?_
  rintro e w1 ⟨rfl, rfl⟩
  go_wp2_with fail
  have hnext := PermNextG_any gp (N + 1) (N + 1) C p w H.out.perm
  unfold LeastPost at hnext
  refine hnext.mono ?_
  rintro e w2 ⟨z, rfl, hz, hb2⟩
  clear hnext
  have hv2 : VB Bw w w2 := VisK.of_below hb2
  have h2 := H.out.vis hv2.1
  obtain ⟨mv2, hblk2⟩ := h2.blk
  have c20 := hblk2.cell 0
  have c21 := hblk2.cell 1
  have hlt2 := hblk2.lt
  have H2 := Lib.hid h2
  have Hv2 := Lib.hid hv2
  clear hb2 hv2 h2 c0 c1 hlt hblk2
  rcases hz with ⟨hz, _⟩ | ⟨⟨k1, q⟩, hk, hz, hkp, _⟩
  · subst hz
    go_wp2_with fail
    go_loopw [5, 6] (fun x y wr => ∃ a r : Nat, p ≤ a ∧ a ≤ N ∧ rs[r]? = some a ∧ x = .int .i64 (a : Int) ∧ y = .int .i64 (r : Int) ∧ VB Bw w wr) (fun x _ _ => (intOf x).toNat)
    case atStart => exact ⟨N, 0, by omega, Nat.le_refl _, Hr0.out, rfl, rfl, Hv2.out⟩
    case round =>
      obtain ⟨a, r, hpa, haN, hra, rfl, rfl, hv⟩ := hrel
      have h1 := H.out.vis hv.1
      obtain ⟨mv1, hblk1⟩ := h1.blk
      have c10 := hblk1.cell 0
      have hlt1 := hblk1.lt
      have Hv := Lib.hid hv
      have H1 := Lib.hid h1
      have Hra := Lib.hid hra
      clear h1 hv hra hblk1
      by_cases hap : p < a
      · obtain ⟨b, hb⟩ : ∃ b, a = b + 1 := ⟨a - 1, by omega⟩
        obtain ⟨s, r', hs1, hs2, hs3⟩ := Hstep.out r b (by rw [← hb]; exact Hra.out)
        have e1 : IntKind.i64.wrap ((a : Int) - 1) = (b : Int) := by rw [IntKind.wrap_i64]; omega
        have Hs1 := Lib.hid hs1
        have Hs2 := Lib.hid hs2
        have Hs3 := Lib.hid hs3
        have hbp : p ≤ b := by omega
        have hbN : b < a := by omega
        clear hs1 hs2 hs3 hb
        go_wp2_with fail
        refine (WalkBack_any Bw gk _ r s wr H1.out.walk Hs1.out HLt.out (by rw [HL.out]; omega)).mono ?_
        rintro e w5 ⟨rfl, hv5⟩
        rw [Hs2.out]
        have hv6 := Hv.out.trans hv5
        have Hv6 := Lib.hid hv6
        clear hv5 hv6
        go_wp2_with fail
        go_roundw
        case rel => exact ⟨b, r', hbp, by omega, Hs3.out, by go_num, by first | rfl | trivial, Hv6.out⟩
        case measure => simp [intOf]; omega
      · obtain rfl : a = p := by omega
        have hri := Huni.out r Hra.out
        subst hri
        go_wp2_with fail
        go_ret
        exact ⟨rfl, Hv.out⟩
  · subst hz
    have hkp : p ≤ q := hkp
    have hex : ∃ x ∈ C, x.2 = q := ⟨_, hk, rfl⟩
    have hq0 : decide ((q : Int) ≥ 0) = true := by simp
    go_wp2_with fail
    have hrow := PermRowR_any gp (N + 1) (N + 1) C q w2 H2.out.perm hex
    unfold RowPostR at hrow
    refine hrow.mono ?_
    rintro e w3 ⟨r0, hrm, rfl, hb3⟩
    have hrq := HCm.out _ hrm
    have hrq : rs[r0]? = some q := hrq
    have hv3 := Hv2.out.below hb3
    have Hrq := Lib.hid hrq
    have Hv3 := Lib.hid hv3
    have hqN := (Hle.out r0 q hrq).1
    clear hrow hrm hrq hb3 hv3 hex c20 c21 hlt2 hq0
    go_wp2_with fail
    go_loopw [5, 6] (fun x y wr => ∃ a r : Nat, p ≤ a ∧ a ≤ N ∧ rs[r]? = some a ∧ x = .int .i64 (a : Int) ∧ y = .int .i64 (r : Int) ∧ VB Bw w wr) (fun x _ _ => (intOf x).toNat)
    case atStart => exact ⟨q, r0, hkp, hqN, Hrq.out, rfl, rfl, Hv3.out⟩
    case round =>
      obtain ⟨a, r, hpa, haN, hra, rfl, rfl, hv⟩ := hrel
      have h1 := H.out.vis hv.1
      obtain ⟨mv1, hblk1⟩ := h1.blk
      have c10 := hblk1.cell 0
      have hlt1 := hblk1.lt
      have Hv := Lib.hid hv
      have H1 := Lib.hid h1
      have Hra := Lib.hid hra
      clear h1 hv hra hblk1
      by_cases hap : p < a
      · obtain ⟨b, hb⟩ : ∃ b, a = b + 1 := ⟨a - 1, by omega⟩
        obtain ⟨s, r', hs1, hs2, hs3⟩ := Hstep.out r b (by rw [← hb]; exact Hra.out)
        have e1 : IntKind.i64.wrap ((a : Int) - 1) = (b : Int) := by rw [IntKind.wrap_i64]; omega
        have Hs1 := Lib.hid hs1
        have Hs2 := Lib.hid hs2
        have Hs3 := Lib.hid hs3
        have hbp : p ≤ b := by omega
        have hbN : b < a := by omega
        clear hs1 hs2 hs3 hb
        go_wp2_with fail
        refine (WalkBack_any Bw gk _ r s wr H1.out.walk Hs1.out HLt.out (by rw [HL.out]; omega)).mono ?_
        rintro e w5 ⟨rfl, hv5⟩
        rw [Hs2.out]
        have hv6 := Hv.out.trans hv5
        have Hv6 := Lib.hid hv6
        clear hv5 hv6
        go_wp2_with fail
        go_roundw
        case rel => exact ⟨b, r', hbp, by omega, Hs3.out, by go_num, by first | rfl | trivial, Hv6.out⟩
        case measure => simp [intOf]; omega
      · obtain rfl : a = p := by omega
        have hri := Huni.out r Hra.out
        subst hri
        go_wp2_with fail
        go_ret
        exact ⟨rfl, Hv.out⟩
end Go.Proofs.YthkkcelfgcholaaGreat
namespace Go.Proofs.YthkkcelfgcholaaGreat
open Go.RowKit
set_option linter.unusedVariables false
set_option linter.unusedSimpArgs false
set_option maxRecDepth 100000 in
set_option maxHeartbeats 1000000 in
theorem PermPos_none (B gp ga : Nat) (vl vo vt vf : Value) (R P : Nat) (ks : List Nat) (C : List (Nat × Nat)) (tk : List Bool) (fr : List Nat) (row : Nat) (w : World) (h : PermAt w B gp ga vl vo vt vf R P ks C tk fr) (hs : ks.Pairwise (fun a b => rowK C a < rowK C b)) (hk : ks.length ≤ 1099511627776) (hno : ∀ k ∈ ks, rowK C k ≠ row) :
    Calls Tryz.prog 71 #[.pointer (some ⟨gp, 0, none⟩), .int .i64 (row : Int)] w fun e w' => e = .returned (.int .i64 (-1)) ∧ Below w.heap.size w w' := by
  have hat := PermAt_any B gp ga vl vo vt vf R P ks C tk fr row w h hs hk
  have hd : decide (∃ k ∈ ks, rowK C k = row) = false := by
    simp only [decide_eq_false_iff_not]
    rintro ⟨k, h1, h2⟩
    exact hno k h1 h2
  rw [hd] at hat
  clear h hs hno hd
  go_enter Tryz.func71, Tryz.ntmps71
  go_wp2_with fail
  refine hat.mono ?_
  rintro e w1 ⟨rfl, hb1⟩
  have Hb1 := Lib.hid hb1
  clear hat hb1
  go_wp2_with fail
  go_ret
  exact ⟨rfl, Hb1.out⟩
set_option maxRecDepth 100000 in
set_option maxHeartbeats 2000000 in
theorem PermPos_some (B gp ga : Nat) (vl vo vt vf : Value) (R P : Nat) (ks : List Nat) (C : List (Nat × Nat)) (tk : List Bool) (fr : List Nat) (row j : Nat) (w : World) (h : PermAt w B gp ga vl vo vt vf R P ks C tk fr) (hs : ks.Pairwise (fun a b => rowK C a < rowK C b)) (hk : ks.length ≤ 1099511627776) (hC : C.length ≤ 1099511627776) (hj : j ∈ ks) (hjr : rowK C j = row) :
    Calls Tryz.prog 71 #[.pointer (some ⟨gp, 0, none⟩), .int .i64 (row : Int)] w fun e w' => e = .returned (.int .i64 ((posK C j : Nat) : Int)) ∧ Below w.heap.size w w' := by
  have hat := PermAt_any B gp ga vl vo vt vf R P ks C tk fr row w h hs hk
  have hd : decide (∃ k ∈ ks, rowK C k = row) = true := decide_eq_true ⟨j, hj, hjr⟩
  rw [hd] at hat
  obtain ⟨x, hx1, hx2⟩ := (cnt_found hs row).2 ⟨j, hj, hjr⟩
  obtain ⟨q, hq⟩ : ∃ q, (ks.countP fun k => decide (rowK C k < row)) = q := ⟨_, rfl⟩
  rw [hq] at hx1 hat
  have hxj : x = j := by
    obtain ⟨a, ha, ea⟩ := List.mem_iff_getElem.1 hj
    obtain ⟨b, eb⟩ := List.getElem?_eq_some_iff.1 hx1
    rcases Nat.lt_trichotomy a q with h1 | h1 | h1
    · have := List.pairwise_iff_getElem.1 hs a q ha b h1
      rw [ea, eb] at this
      omega
    · subst h1
      rw [← ea, ← eb]
    · have := List.pairwise_iff_getElem.1 hs q a b ha h1
      rw [ea, eb] at this
      omega
  subst hxj
  have hqn : q < ks.length := (List.getElem?_eq_some_iff.1 hx1).1
  have hxC : x < C.length := h.lt x hj
  obtain ⟨g, cap, hvo, hnc, hgl⟩ := World.ownsRow.form h.orow (by omega)
  obtain ⟨g2, cap2, hvl, hnc2, hgl2⟩ := World.ownsRow.form h.lrow (by omega)
  subst hvo
  subst hvl
  have hpair := (pairsL_get C x hxC).2
  have H := Lib.hid h
  have Hx1 := Lib.hid hx1
  have Hpair := Lib.hid hpair
  have hqI : (q : Int) < (ks.length : Int) := by omega
  have hxI : (x : Int) < (C.length : Int) := by omega
  clear h hs hd hx2 hq hx1 hpair hj hjr
  go_enter Tryz.func71, Tryz.ntmps71
  go_wp2_with fail
  refine hat.mono ?_
  rintro e w1 ⟨rfl, hb1⟩
  have h1 := H.out.below hb1
  have c1 : ∀ d, (w1.drewN d).cell? ⟨gp, 1, none⟩ = some (.slice (some ⟨g2, 0, none⟩) C.length cap2) := fun d => (h1.blk.cell 1).trans rfl
  have c2 : ∀ d, (w1.drewN d).cell? ⟨gp, 2, none⟩ = some (.slice (some ⟨g, 0, none⟩) ks.length cap) := fun d => (h1.blk.cell 2).trans rfl
  have hgp := h1.blk.lt
  have c3 : ∀ d, (w1.drewN d).cell? ⟨g, q, none⟩ = some (.int .i64 (x : Int)) := fun d => (World.ownsRow.cellAt h1.orow q (by omega)).trans (by rw [List.getElem?_map, Hx1.out]; rfl)
  have c4 : ∀ d, (w1.drewN d).cell? ⟨g2, x * 2 + 1, none⟩ = some (.int .i64 ((posK C x : Nat) : Int)) := fun d => (World.ownsRow.cellAt h1.lrow (x * 2 + 1) (by omega)).trans Hpair.out
  have Hb1 := Lib.hid hb1
  have hgl1 := Nat.lt_of_lt_of_le hgl hb1.size
  have hgl21 := Nat.lt_of_lt_of_le hgl2 hb1.size
  obtain ⟨pp, hpp⟩ : ∃ pp, posK C x = pp := ⟨_, rfl⟩
  rw [hpp] at c4
  have Hpp := Lib.hid hpp
  clear hat hb1 h1 hpp
  go_wp2_with fail
  go_quiet (fail)
  go_wp2_with fail
  go_ret
  exact ⟨by rw [Hpp.out]; rfl, below_drewN Hb1.out _⟩
end Go.Proofs.YthkkcelfgcholaaGreat
namespace Go.Proofs.YthkkcelfgcholaaGreat
open Go.RowKit
set_option linter.unusedVariables false
set_option linter.unusedSimpArgs false
end Go.Proofs.YthkkcelfgcholaaGreat
namespace Go.Proofs.YthkkcelfgcholaaGreat
open Go.RowKit Go.Shelf
set_option linter.unusedVariables false
set_option linter.unusedSimpArgs false
theorem PermPosR_none (gp R P : Nat) (pr : List (Nat × Nat)) (row : Nat) (w : World) (h : PermR w gp R P pr) (hno : ∀ x ∈ pr, x.1 ≠ row) :
    Calls Tryz.prog 71 #[.pointer (some ⟨gp, 0, none⟩), .int .i64 (row : Int)] w fun e w' => e = .returned (.int .i64 (-1)) ∧ Below w.heap.size w w' := by
  obtain ⟨B, ga, vl, vo, vt, vf, ks, C, tk, fr, h1, h2, h3, h4, rfl⟩ := h
  exact PermPos_none B gp ga vl vo vt vf R P ks C tk fr row w h1 h2 (by omega) fun k hk => hno _ (List.mem_map.2 ⟨k, hk, rfl⟩)
theorem PermPosR_some (gp R P : Nat) (pr : List (Nat × Nat)) (row pos : Nat) (w : World) (h : PermR w gp R P pr) (hin : (row, pos) ∈ pr) :
    Calls Tryz.prog 71 #[.pointer (some ⟨gp, 0, none⟩), .int .i64 (row : Int)] w fun e w' => e = .returned (.int .i64 (pos : Int)) ∧ Below w.heap.size w w' := by
  obtain ⟨B, ga, vl, vo, vt, vf, ks, C, tk, fr, h1, h2, h3, h4, rfl⟩ := h
  obtain ⟨k, hk, e⟩ := List.mem_map.1 hin
  injection e with e1 e2
  subst e2
  exact PermPos_some B gp ga vl vo vt vf R P ks C tk fr row k w h1 h2 (by omega) (by omega) hk e1
set_option maxRecDepth 100000 in
set_option maxHeartbeats 4000000 in
theorem LivePosG_any (Bw gl gk gp rate : Nat) (t : List UInt8) (rs : List Nat) (C : List (Nat × Nat)) (i p : Nat) (w : World) (h : LiveG w Bw gl gk gp rate (t.length + 1) (lastL (symL t) rs) C) (hrt : ∀ x ∈ C, rs[x.1]? = some x.2) (hz0 : ∃ x ∈ C, x.2 = 0) (hs : IsSuf (symL t) rs) (hn : t.length ≤ 127) (hip : rs[i]? = some p) :
    Calls Tryz.prog 35 #[.pointer (some ⟨gl, 0, none⟩), .int .i64 (i : Int)] w fun e w' => e = .returned (.int .i64 (p : Int)) ∧ VB Bw w w' := by
  have hl : rs.length = t.length + 1 := by rw [hs.len, symL_len]
  have hi := (List.getElem?_eq_some_iff.1 hip).1
  have hL : (lastL (symL t) rs).length = t.length + 1 := by rw [lastL_len, hl]
  have hpN : p < t.length + 1 := by
    have := hs.lt (List.mem_of_getElem? hip)
    rwa [symL_len] at this
  obtain ⟨N, hN⟩ : ∃ N, t.length = N := ⟨_, rfl⟩
  have hz1 : ∀ a : Nat, rs[a]? = some 0 → (a, 0) ∈ C := fun a ha => by
    obtain ⟨⟨r, q⟩, hx, e⟩ := hz0
    have e' : q = 0 := e
    subst e'
    have h1 : rs[r]? = some 0 := hrt _ hx
    rw [row_inj hs ha h1]
    exact hx
  have hpr : ∀ a b b' : Nat, rs[a]? = some b → (a, b') ∈ C → b' = b := fun a b b' hab hm => by
    have h1 : rs[a]? = some b' := hrt _ hm
    rw [hab] at h1
    injection h1 with h1
    exact h1.symm
  have hstep : ∀ a b : Nat, rs[a]? = some (b + 1) → ∃ s a', (lastL (symL t) rs)[a]? = some s ∧ narL (lastL (symL t) rs) s a = a' ∧ rs[a']? = some b := fun a b hab => by
    obtain ⟨ha, ea⟩ := List.getElem?_eq_some_iff.1 hab
    have hbm : b + 1 < (symL t).length := hs.lt (List.mem_of_getElem? hab)
    obtain ⟨a', ha', ea'⟩ := hs.row (p := b) (by omega)
    have he := symL_end t
    have hla := lastL_at he ha ea (by rw [symL_len] at hbm; omega)
    exact ⟨(symL t).getD b 0, a', List.getElem?_eq_some_iff.2 ⟨_, hla⟩, lf hs he ha ha' ea ea', List.getElem?_eq_some_iff.2 ⟨ha', ea'⟩⟩
  rw [hN] at h
  rw [hN] at hL hpN hn hl
  have hiI : ¬ (N : Int) < (i : Int) := by omega
  have hi0 : decide ((i : Int) < 0) = false := by simp
  have hi2 : decide ((i : Int) > (N : Int)) = false := by simp; omega
  have hi3 : decide (N < i) = false := by simp; omega
  have H := Lib.hid h
  have Hz1 := Lib.hid hz1
  have Hpr := Lib.hid hpr
  have Hstep := Lib.hid hstep
  have HL := Lib.hid hL
  have HLt := Lib.hid (lastL_lt (symL_lt t) (rs := rs))
  have Hip := Lib.hid hip
  obtain ⟨mv, hblk⟩ := h.blk
  have c0 := hblk.cell 0
  have c1 := hblk.cell 1
  have hlt := hblk.lt
  clear h hz1 hpr hz0 hrt hstep hL hs hip hi hN hl hblk
  go_enter Tryz.func35, Tryz.ntmps35
  go_wp2_with fail
  refine (LiveLen_any Bw gl _ N w H.out.lvw HL.out (by omega)).mono ?_
  rintro e w1 ⟨rfl, rfl⟩
  go_wp2_with fail
  clear c0 c1 hiI hi0 hi2 hi3
  go_loopw [1, 5] (fun x y wr => ∃ a b m : Nat, rs[a]? = some b ∧ b + m = p ∧ x = .int .i64 (a : Int) ∧ y = .int .i64 (m : Int) ∧ VB Bw w wr) (fun _ y _ => p + 1 - (intOf y).toNat)
  case atStart => exact ⟨i, p, 0, Hip.out, rfl, rfl, rfl, VisK.refl _ _⟩
  case round =>
    obtain ⟨a, b, m, hab, hbm, rfl, rfl, hv⟩ := hrel
    have h1 := H.out.vis hv.1
    obtain ⟨mv1, hblk1⟩ := h1.blk
    have c0 := hblk1.cell 0
    have c1 := hblk1.cell 1
    have hlt1 := hblk1.lt
    have Hv := Lib.hid hv
    have H1 := Lib.hid h1
    have Hab := Lib.hid hab
    clear h1 hv hab hblk1
    by_cases hb0 : ∃ b', (a, b') ∈ C
    · obtain ⟨b', hb1⟩ := hb0
      have hbb := Hpr.out a b b' Hab.out hb1
      subst hbb
      have Hin := Lib.hid hb1
      have hbI : ¬ (b' : Int) < 0 := by omega
      have hsum : IntKind.i64.wrap ((b' : Int) + (m : Int)) = (p : Int) := by rw [IntKind.wrap_i64]; omega
      clear hb1 hbm
      go_wp2_with fail
      refine (PermPosR_some gp (N + 1) (N + 1) C a b' wr H1.out.perm Hin.out).mono ?_
      rintro e w2 ⟨rfl, hb2⟩
      have h2 := H1.out.vis (Vis.of_below hb2)
      obtain ⟨mv2, hblk2⟩ := h2.blk
      have c20 := hblk2.cell 0
      have c21 := hblk2.cell 1
      have hlt2 := hblk2.lt
      have hv2 := Hv.out.below hb2
      have Hv2 := Lib.hid hv2
      have H2 := Lib.hid h2
      clear c0 c1 h2 hv2 hb2 hblk2
      go_wp2_with fail
      refine (PermPosR_some gp (N + 1) (N + 1) C a b' w2 H2.out.perm Hin.out).mono ?_
      rintro e w3 ⟨rfl, hb3⟩
      have hv3 := Hv2.out.below hb3
      have Hv3 := Lib.hid hv3
      clear c20 c21 hv3 hb3
      go_wp2_with fail
      go_ret
      exact ⟨rfl, Hv3.out⟩
    · have hno : ∀ x ∈ C, x.1 ≠ a := fun x hx e => hb0 ⟨x.2, by rw [← e]; exact hx⟩
      have Hno := Lib.hid hno
      obtain ⟨b', rfl⟩ : ∃ b', b = b' + 1 := ⟨b - 1, by
        rcases Nat.eq_zero_or_pos b with h0 | h0
        · subst h0
          exact absurd ⟨0, Hz1.out a Hab.out⟩ hb0
        · omega⟩
      obtain ⟨s, a', hs1, hs2, hs3⟩ := Hstep.out a b' Hab.out
      have Hs1 := Lib.hid hs1
      have Hs2 := Lib.hid hs2
      have Hs3 := Lib.hid hs3
      clear hno hb0 hs1 hs2 hs3
      go_wp2_with fail
      refine (PermPosR_none gp (N + 1) (N + 1) C a wr H1.out.perm Hno.out).mono ?_
      rintro e w2 ⟨rfl, hb2⟩
      have h2 := H1.out.vis (Vis.of_below hb2)
      obtain ⟨mv2, hblk2⟩ := h2.blk
      have c20 := hblk2.cell 0
      have c21 := hblk2.cell 1
      have hlt2 := hblk2.lt
      have hv2 := Hv.out.below hb2
      have Hv2 := Lib.hid hv2
      have H2 := Lib.hid h2
      clear c0 c1 h2 hv2 hb2 hblk2
      go_wp2_with fail
      refine (WalkBack_any Bw gk _ a s w2 H2.out.walk Hs1.out HLt.out (by rw [HL.out]; omega)).mono ?_
      rintro e w3 ⟨rfl, hv3⟩
      rw [Hs2.out]
      have hv4 := Hv2.out.trans hv3
      have Hv4 := Lib.hid hv4
      clear c20 c21 hv3 hv4
      go_wp2_with fail
      go_roundw
      case rel => exact ⟨a', b', m + 1, Hs3.out, by omega, rfl, by go_num, Hv4.out⟩
      case measure => simp [intOf]; omega
end Go.Proofs.YthkkcelfgcholaaGreat
