/- The walks of perm's All, Next and Row. Conditions: at most 1000 pairs, in the order in which they were made. The walk of live's Row: the row of the suffix from a place on. Conditions: a text of at most 127 bytes, as New makes it; a place that is there. -/
import Derived.Test.YtnileogagoipiaaGreatDoorPkH
import Derived.BigQuiet
import Derived.Test.YtnileogagoipiaaGreatDoorPkK
namespace Go.Proofs.YtnileogagoipiaaGreatDoor
open Go.RowKit Go.Shelf
set_option linter.unusedVariables false
set_option linter.unusedSimpArgs false
def PAllPost (w : World) (C : List (Nat × Nat)) (e : Ending) (w' : World) : Prop :=
  ∃ A c, e = .returned (.slice A C.length c) ∧ Made w' w.heap.size 95 2 A C.length c (pairsL C) ∧ Below w.heap.size w w'
set_option maxRecDepth 100000 in
set_option maxHeartbeats 2000000 in
theorem PermAll_any (B gp ga : Nat) (vl vo vt vf : Value) (R P : Nat) (C : List (Nat × Nat)) (tk : List Bool) (fr : List Nat) (w : World) (h : PermAt w B gp ga vl vo vt vf R P (List.range C.length) C tk fr) (hC : C.length ≤ 1000) :
    Calls Tryz.prog 163 #[.pointer (some ⟨gp, 0, none⟩)] w (PAllPost w C) := by
  obtain ⟨i0, hi0, hz0, hz1, hz2⟩ := info_parts pair_info
  have ho := h.orow
  rw [List.length_range] at ho
  obtain ⟨A2, c2, rfl, _, _⟩ := own_shape ho
  obtain ⟨A1, c1, rfl, _, _⟩ := own_shape h.lrow
  have c1' : w.cell? ⟨gp, 1, none⟩ = some (.slice A1 C.length c1) := (h.blk.cell 1).trans rfl
  have c2' : w.cell? ⟨gp, 2, none⟩ = some (.slice A2 C.length c2) := (h.blk.cell 2).trans rfl
  have hgp := h.blk.lt
  obtain ⟨n, hn⟩ : ∃ n, C.length = n := ⟨_, rfl⟩
  have H := Lib.hid h
  have Hn := Lib.hid hn
  rw [hn] at c1' c2' hC
  clear h ho hn
  unfold PAllPost
  go_enter Tryz.func163, Tryz.ntmps163
  go_wp2_with fail
  go_loopw [3, 13] (fun v i wr => ∃ k : Nat, k ≤ n ∧ i = .int .i64 (k : Int) ∧ wr.ownsRow w.heap.size 95 2 v k (pairsL (C.take k)) ∧ Below w.heap.size w wr) (fun _ i _ => n - (intOf i).toNat)
  case atStart => exact ⟨0, Nat.zero_le _, rfl, World.ownsRow_nil _ _ _ _, Below.refl _ _⟩
  case round =>
    obtain ⟨k, hk, rfl, hown, hb⟩ := hrel
    have hsz := hb.size
    by_cases hlt : k < n
    · have hkC : k < C.length := by rw [Hn.out]; exact hlt
      have hp := H.out.below hb
      have ho2 := hp.orow
      rw [List.length_range] at ho2
      obtain ⟨g2, k2, e2, _, hg2⟩ := World.ownsRow.form ho2 (by omega)
      obtain ⟨g1, k1, e1, _, hg1⟩ := World.ownsRow.form hp.lrow (by omega)
      injection e2 with e2a _ _
      injection e1 with e1a _ _
      subst e2a
      subst e1a
      have d2 : wr.cell? ⟨g2, k, none⟩ = some (.int .i64 (k : Int)) := (World.ownsRow.cellAt ho2 k (by omega)).trans (by rw [List.getElem?_map, List.getElem?_range hkC]; rfl)
      obtain ⟨p0, p1⟩ := pairsL_get C k hkC
      have d0 : wr.cell? ⟨g1, k * 2, none⟩ = _ := (World.ownsRow.cellAt hp.lrow (k * 2) (by omega)).trans p0
      have d1 : wr.cell? ⟨g1, k * 2 + 1, none⟩ = _ := (World.ownsRow.cellAt hp.lrow (k * 2 + 1) (by omega)).trans p1
      have d3 : wr.cell? ⟨gp, 1, none⟩ = some (.slice (some ⟨g1, 0, none⟩) n c1) := (hb.cell (p := ⟨gp, 1, none⟩) hgp).trans c1'
      obtain ⟨a1, ha1⟩ : ∃ x, rowK C k = x := ⟨_, rfl⟩
      obtain ⟨a2, ha2⟩ : ∃ x, posK C k = x := ⟨_, rfl⟩
      have hnext : pairsL (C.take (k + 1)) = pairsL (C.take k) ++ [.int .i64 (a1 : Int), .int .i64 (a2 : Int)] := by
        have hc : C[k]? = some (C[k]'hkC) := List.getElem?_eq_getElem hkC
        rw [List.take_add_one, hc]
        show pairsL (C.take k ++ [C[k]'hkC]) = _
        rw [pairsL_snoc, ← ha1, ← ha2]
        unfold rowK posK pairV
        rw [List.getD_eq_getElem?_getD, hc]
        rfl
      rw [ha1] at d0
      rw [ha2] at d1
      have Hown := Lib.hid hown
      have Hb := Lib.hid hb
      have Hnext := Lib.hid hnext
      clear hown hb hnext hp ho2 p0 p1 c1' c2' ha1 ha2
      go_wp2_with (at_builtin; refine wpList_push _ rfl (.tmp 17) (.tmp 25) _ rfl w.heap.size 95 i0 (.agg #[.int .i64 0, .int .i64 0]) 2 16 Tryz.underlying89 hi0 hz0 hz1 hz2 rfl (by decide) _ k _ rfl Hown.out rfl rfl (by simp [Value.oneCell']) (by unfold maxLen; omega) (by omega) hsz ?_; intro v5 w5 hown5 hg5 hs5 hat5)
      have hb5 := below_grown Hb.out Hown.out hg5 hsz
      have Hb5 := Lib.hid hb5
      clear hb5 hg5 hat5
      exact ⟨⟨v5, _, _, ⟨k + 1, by omega, by go_num, by rw [Hnext.out]; exact hown5, Hb5.out⟩, rfl, rfl, rfl⟩, by simp [intOf]; omega⟩
    · obtain rfl : k = n := by omega
      have htk : C.take k = C := List.take_of_length_le (by rw [Hn.out]; exact Nat.le_refl _)
      rw [htk] at hown
      obtain ⟨A9, c9, rfl, hm9⟩ := made_of_own hown
      have Hm9 := Lib.hid hm9
      have Hb := Lib.hid hb
      clear hown hm9 hb
      go_wp2_with fail
      go_ret
      exact ⟨A9, c9, by rw [Hn.out]; rfl, by rw [Hn.out]; exact Hm9.out, Hb.out⟩
/-- A place from pos on that has a pair, or none told. -/
def NextOk (C : List (Nat × Nat)) (pos : Nat) (z : Int) : Prop := z = -1 ∨ ∃ k, k < C.length ∧ z = ((posK C k : Nat) : Int) ∧ pos ≤ posK C k
def NextPost (w : World) (C : List (Nat × Nat)) (pos : Nat) (e : Ending) (w' : World) : Prop := ∃ z, e = .returned (.int .i64 z) ∧ NextOk C pos z ∧ Below w.heap.size w w'
set_option maxRecDepth 100000 in
set_option maxHeartbeats 2000000 in
theorem PermNext_any (B gp ga : Nat) (vl vo vt vf : Value) (R P : Nat) (C : List (Nat × Nat)) (tk : List Bool) (fr : List Nat) (pos : Nat) (w : World) (h : PermAt w B gp ga vl vo vt vf R P (List.range C.length) C tk fr) (hC : C.length ≤ 1000) :
    Calls Tryz.prog 105 #[.pointer (some ⟨gp, 0, none⟩), .int .i64 (pos : Int)] w (NextPost w C pos) := by
  have hall := PermAll_any B gp ga vl vo vt vf R P C tk fr w h hC
  unfold PAllPost at hall
  obtain ⟨n, hn⟩ : ∃ n, C.length = n := ⟨_, rfl⟩
  rw [hn] at hall hC
  have Hn := Lib.hid hn
  clear h hn
  unfold NextPost
  go_enter Tryz.func105, Tryz.ntmps105
  go_wp2_with fail
  refine hall.mono ?_
  rintro e w1 ⟨A, c, rfl, hm, hb1⟩
  clear hall
  have Hm := Lib.hid hm
  have Hb1 := Lib.hid hb1
  clear hm hb1
  go_wp2_with fail
  go_loopw [5, 11] (fun v i wr => ∃ (k : Nat) (z : Int), k ≤ n ∧ i = .int .i64 (k : Int) ∧ v = .int .i64 z ∧ NextOk C pos z ∧ Below w1.heap.size w1 wr) (fun _ i _ => n - (intOf i).toNat)
  case atStart => exact ⟨0, -1, Nat.zero_le _, rfl, rfl, .inl rfl, Below.refl _ _⟩
  case round =>
    obtain ⟨k, z, hk, rfl, rfl, hz, hb⟩ := hrel
    have hsz := hb.size
    by_cases hlt : k < n
    · have hkC : k < C.length := by rw [Hn.out]; exact hlt
      have hr := Hm.out.rd.below (hb.mono (B := w1.heap.size) (Nat.le_refl _))
      obtain ⟨b, off, rfl, hbb, hcell⟩ := hr.2 (by omega)
      obtain ⟨p0, p1⟩ := pairsL_get C k hkC
      have d0 := hcell _ _ p0
      have d1 := hcell _ _ p1
      obtain ⟨a1, ha1⟩ : ∃ x, rowK C k = x := ⟨_, rfl⟩
      obtain ⟨a2, ha2⟩ : ∃ x, posK C k = x := ⟨_, rfl⟩
      rw [ha1] at d0
      rw [ha2, ← Nat.add_assoc] at d1
      have Hz := Lib.hid hz
      have Hb := Lib.hid hb
      have Ha2 := Lib.hid ha2
      have hb2 : Below w1.heap.size w1 (wr.alloc (.cells #[.int .i64 (a1 : Int), .int .i64 (a2 : Int)] 95)) := hb.alloc hsz _
      have Hb2 := Lib.hid hb2
      clear hz hb hr hcell p0 p1 ha1 ha2 hb2
      by_cases h1 : pos ≤ a2
      · have n1 : decide (pos ≤ a2) = true := decide_eq_true h1
        have hok : NextOk C pos (a2 : Int) := .inr ⟨k, hkC, by rw [Ha2.out], by rw [Ha2.out]; exact h1⟩
        have Hok := Lib.hid hok
        clear hok
        by_cases h2 : z < 0
        · go_wp2_with fail
          go_roundw
          case rel => exact ⟨k + 1, (a2 : Int), by omega, by go_num, by first | rfl | trivial, Hok.out, Hb2.out⟩
          case measure => simp [intOf]; omega
        · have n2 : decide (z < 0) = false := decide_eq_false h2
          by_cases h3 : (a2 : Int) < z
          · go_wp2_with fail
            go_roundw
            case rel => exact ⟨k + 1, (a2 : Int), by omega, by go_num, by first | rfl | trivial, Hok.out, Hb2.out⟩
            case measure => simp [intOf]; omega
          · have n3 : decide ((a2 : Int) < z) = false := decide_eq_false h3
            go_wp2_with fail
            go_roundw
            case rel => exact ⟨k + 1, z, by omega, by go_num, by first | rfl | trivial, Hz.out, Hb2.out⟩
            case measure => simp [intOf]; omega
      · have n1 : decide (pos ≤ a2) = false := decide_eq_false h1
        go_wp2_with fail
        go_roundw
        case rel => exact ⟨k + 1, z, by omega, by go_num, by first | rfl | trivial, Hz.out, Hb2.out⟩
        case measure => simp [intOf]; omega
    · obtain rfl : k = n := by omega
      have hbW := Hb1.out.trans (hb.mono Hb1.out.size)
      have HbW := Lib.hid hbW
      have Hz := Lib.hid hz
      clear hbW hz hb
      go_wp2_with fail
      go_ret
      exact ⟨z, rfl, Hz.out, HbW.out⟩
def RowPost (w : World) (C : List (Nat × Nat)) (pos : Nat) (e : Ending) (w' : World) : Prop := ∃ k, k < C.length ∧ posK C k = pos ∧ e = .returned (.int .i64 ((rowK C k : Nat) : Int)) ∧ Below w.heap.size w w'
set_option maxRecDepth 100000 in
set_option maxHeartbeats 2000000 in
theorem PermRow_any (B gp ga : Nat) (vl vo vt vf : Value) (R P : Nat) (ks : List Nat) (C : List (Nat × Nat)) (tk : List Bool) (fr : List Nat) (pos : Nat) (w : World) (h : PermAt w B gp ga vl vo vt vf R P ks C tk fr) (hk : ks.length ≤ 1099511627776) (hC : C.length ≤ 1099511627776) (hex : ∃ k ∈ ks, posK C k = pos) :
    Calls Tryz.prog 106 #[.pointer (some ⟨gp, 0, none⟩), .int .i64 (pos : Int)] w (RowPost w C pos) := by
  have hhas := PermHas_any B gp ga vl vo vt vf R P ks C tk fr pos w h hk
  obtain ⟨q, x, hq, hx1, hx2⟩ := firstI_some (p := fun k => decide (posK C k = pos)) (l := ks) (by obtain ⟨k, hk1, hk2⟩ := hex; exact ⟨k, hk1, decide_eq_true hk2⟩) 0
  rw [hq, Nat.zero_add] at hhas
  have hx3 : posK C x = pos := of_decide_eq_true hx2
  have hqn : q < ks.length := (List.getElem?_eq_some_iff.1 hx1).1
  have hxC : x < C.length := h.lt x (List.mem_of_getElem? hx1)
  obtain ⟨g, cap, hvo, hnc, hgl⟩ := World.ownsRow.form h.orow (by omega)
  obtain ⟨g2, cap2, hvl, hnc2, hgl2⟩ := World.ownsRow.form h.lrow (by omega)
  subst hvo
  subst hvl
  have hpair := (pairsL_get C x hxC).1
  have H := Lib.hid h
  have Hx1 := Lib.hid hx1
  have Hx3 := Lib.hid hx3
  have Hpair := Lib.hid hpair
  have hqI : (q : Int) < (ks.length : Int) := by omega
  have hxI : (x : Int) < (C.length : Int) := by omega
  have hq0 : decide ((q : Int) < 0) = false := by simp
  clear h hq hx1 hx2 hx3 hpair hex
  unfold RowPost
  go_enter Tryz.func106, Tryz.ntmps106
  go_wp2_with fail
  refine hhas.mono ?_
  rintro e w1 ⟨rfl, hb1⟩
  have h1 := H.out.below hb1
  have c1 : ∀ d, (w1.drewN d).cell? ⟨gp, 1, none⟩ = some (.slice (some ⟨g2, 0, none⟩) C.length cap2) := fun d => (h1.blk.cell 1).trans rfl
  have c2 : ∀ d, (w1.drewN d).cell? ⟨gp, 2, none⟩ = some (.slice (some ⟨g, 0, none⟩) ks.length cap) := fun d => (h1.blk.cell 2).trans rfl
  have hgp := h1.blk.lt
  have c3 : ∀ d, (w1.drewN d).cell? ⟨g, q, none⟩ = some (.int .i64 (x : Int)) := fun d => (World.ownsRow.cellAt h1.orow q (by omega)).trans (by rw [List.getElem?_map, Hx1.out]; rfl)
  have c4 : ∀ d, (w1.drewN d).cell? ⟨g2, x * 2, none⟩ = some (.int .i64 ((rowK C x : Nat) : Int)) := fun d => (World.ownsRow.cellAt h1.lrow (x * 2) (by omega)).trans Hpair.out
  have Hb1 := Lib.hid hb1
  have hgl1 := Nat.lt_of_lt_of_le hgl hb1.size
  have hgl21 := Nat.lt_of_lt_of_le hgl2 hb1.size
  obtain ⟨pp, hpp⟩ : ∃ pp, rowK C x = pp := ⟨_, rfl⟩
  rw [hpp] at c4
  have Hpp := Lib.hid hpp
  clear hhas hb1 h1 hpp
  go_wp2_with fail
  go_quiet (fail)
  go_wp2_with fail
  go_ret
  exact ⟨x, hxC, Hx3.out, by rw [Hpp.out]; rfl, below_drewN Hb1.out _⟩
end Go.Proofs.YtnileogagoipiaaGreatDoor
namespace Go.Proofs.YtnileogagoipiaaGreatDoor
open Go.RowKit
set_option linter.unusedVariables false
set_option linter.unusedSimpArgs false
/-- The first row is the end's. -/
theorem row_zero {t : List UInt8} {rs : List Nat} (h : IsSuf (symL t) rs) : rs[0]? = some t.length := by
  obtain ⟨e1, e2, e3⟩ := symL_end t
  obtain ⟨j, hj, ej⟩ := h.row (p := t.length) (by omega)
  rcases Nat.eq_zero_or_pos j with h0 | h0
  · subst h0
    rw [List.getElem?_eq_getElem hj, ej]
  · exfalso
    have h1 := List.pairwise_iff_getElem.1 h.sorted 0 j (by omega) hj h0
    rw [ej] at h1
    have hq := h.lt (List.getElem_mem (show 0 < rs.length by omega))
    have hne : rs[0]'(by omega) ≠ t.length := fun e => by
      exact (List.pairwise_iff_getElem.1 h.nodup 0 j (by omega) hj h0) (by rw [e, ej])
    rw [sufLt_step, aN_getD (by omega : t.length < (symL t).length), aN_getD hq, e2] at h1
    have := e3 (rs[0]'(by omega)) (by omega)
    rcases h1 with h1 | h1
    · omega
    · omega
theorem row_inj {l rs : List Nat} (h : IsSuf l rs) {i j p : Nat} (hi : rs[i]? = some p) (hj : rs[j]? = some p) : i = j := by
  obtain ⟨hi1, hi2⟩ := List.getElem?_eq_some_iff.1 hi
  obtain ⟨hj1, hj2⟩ := List.getElem?_eq_some_iff.1 hj
  rcases Nat.lt_trichotomy i j with h1 | h1 | h1
  · exact absurd (by rw [hi2, hj2]) (List.pairwise_iff_getElem.1 h.nodup i j hi1 hj1 h1)
  · exact h1
  · exact absurd (by rw [hi2, hj2]) (List.pairwise_iff_getElem.1 h.nodup j i hj1 hi1 h1)
set_option maxRecDepth 100000 in
set_option maxHeartbeats 4000000 in
theorem LiveRow_any (Bw gl gk gp ga : Nat) (vl vo vt : Value) (B rate : Nat) (t : List UInt8) (rs : List Nat) (tk : List Bool) (i p : Nat) (w : World) (h : LiveAt w Bw gl gk gp ga vl vo vt B (t.length + 1) rate (lastL (symL t) rs) (sampC rs rate (t.length + 1)) tk) (hs : IsSuf (symL t) rs) (hn : t.length ≤ 127) (hip : rs[i]? = some p) :
    Calls Tryz.prog 63 #[.pointer (some ⟨gl, 0, none⟩), .int .i64 (p : Int)] w fun e w' => e = .returned (.int .i64 (i : Int)) ∧ VB Bw w w' := by
  have hl : rs.length = t.length + 1 := by rw [hs.len, symL_len]
  have hL : (lastL (symL t) rs).length = t.length + 1 := by rw [lastL_len, hl]
  have hpN : p < t.length + 1 := by
    have := hs.lt (List.mem_of_getElem? hip)
    rwa [symL_len] at this
  have hr0 := row_zero hs
  obtain ⟨N, hN⟩ : ∃ N, t.length = N := ⟨_, rfl⟩
  obtain ⟨C, hC⟩ : ∃ C, sampC rs rate (t.length + 1) = C := ⟨_, rfl⟩
  have hCl : C.length ≤ 1000 := by rw [← hC]; exact Nat.le_trans (sampC_le _ _ _) (by omega)
  have hCm : ∀ k, k < C.length → rs[rowK C k]? = some (posK C k) := fun k hk => by
    have hm := rowK_mem hk
    rw [← hC] at hm
    obtain ⟨h1, h2⟩ := sampC_mem hm
    rw [hC] at h1 h2
    have h3 : rowK C k < rs.length := by have : (rowK C k, posK C k).1 = rowK C k := rfl; omega
    have h4 : posK C k = rs.getD (rowK C k) 0 := h2
    rw [h4, List.getD_eq_getElem?_getD, List.getElem?_eq_getElem h3]
    rfl
  have hstep : ∀ a b : Nat, rs[a]? = some (b + 1) → ∃ s a', (lastL (symL t) rs)[a]? = some s ∧ narL (lastL (symL t) rs) s a = a' ∧ rs[a']? = some b := fun a b hab => by
    obtain ⟨ha, ea⟩ := List.getElem?_eq_some_iff.1 hab
    have hbm : b + 1 < (symL t).length := hs.lt (List.mem_of_getElem? hab)
    obtain ⟨a', ha', ea'⟩ := hs.row (p := b) (by omega)
    have he := symL_end t
    have hla := lastL_at he ha ea (by rw [symL_len] at hbm; omega)
    exact ⟨(symL t).getD b 0, a', List.getElem?_eq_some_iff.2 ⟨_, hla⟩, lf hs he ha ha' ea ea', List.getElem?_eq_some_iff.2 ⟨ha', ea'⟩⟩
  have hle : ∀ a b : Nat, rs[a]? = some b → b ≤ t.length ∧ a ≤ t.length := fun a b hab => by
    have h1 := hs.lt (List.mem_of_getElem? hab)
    rw [symL_len] at h1
    have h2 := (List.getElem?_eq_some_iff.1 hab).1
    omega
  have huni : ∀ a, rs[a]? = some p → a = i := fun a ha => row_inj hs ha hip
  rw [hC, hN] at h
  rw [hN] at hL hpN hn hl hr0 hle
  have hp0 : decide ((p : Int) < 0) = false := by simp
  have hp1 : ¬ N < p := by omega
  have hp2 : decide (N < p) = false := decide_eq_false hp1
  have H := Lib.hid h
  have Hr0 := Lib.hid hr0
  have HCm := Lib.hid hCm
  have Hstep := Lib.hid hstep
  have Hle := Lib.hid hle
  have Huni := Lib.hid huni
  have HL := Lib.hid hL
  have HLt := Lib.hid (lastL_lt (symL_lt t) (rs := rs))
  have c0 := h.blk.cell 0
  have c1 := h.blk.cell 1
  have hlt := h.blk.lt
  clear h hr0 hCm hstep hle huni hL hs hip hC hN hl
  go_enter Tryz.func63, Tryz.ntmps63
  go_wp2_with fail
  refine (LiveLen_any Bw gl _ N w H.out.lvw HL.out (by omega)).mono ?_
  rintro e w1 ⟨rfl, rfl⟩
  go_wp2_with fail
  refine (LiveLen_any Bw gl _ N w H.out.lvw HL.out (by omega)).mono ?_
  rintro e w1 ⟨rfl, rfl⟩
  go_wp2_with fail
  have hnext := PermNext_any B gp ga vl vo vt _ (N + 1) (N + 1) C tk [] p w H.out.perm hCl
  unfold NextPost at hnext
  refine hnext.mono ?_
  rintro e w2 ⟨z, rfl, hz, hb2⟩
  clear hnext
  have hv2 : VB Bw w w2 := VisK.of_below hb2
  have h2 := H.out.vis hv2.1
  have c20 := h2.blk.cell 0
  have c21 := h2.blk.cell 1
  have hlt2 := h2.blk.lt
  have H2 := Lib.hid h2
  have Hv2 := Lib.hid hv2
  clear hb2 hv2 h2 c0 c1 hlt
  rcases hz with hz | ⟨k, hk, hz, hkp⟩
  · subst hz
    go_wp2_with fail
    go_loopw [5, 6] (fun x y wr => ∃ a r : Nat, p ≤ a ∧ a ≤ N ∧ rs[r]? = some a ∧ x = .int .i64 (a : Int) ∧ y = .int .i64 (r : Int) ∧ VB Bw w wr) (fun x _ _ => (intOf x).toNat)
    case atStart => exact ⟨N, 0, by omega, Nat.le_refl _, Hr0.out, rfl, rfl, Hv2.out⟩
    case round =>
      obtain ⟨a, r, hpa, haN, hra, rfl, rfl, hv⟩ := hrel
      have h1 := H.out.vis hv.1
      have c10 := h1.blk.cell 0
      have hlt1 := h1.blk.lt
      have Hv := Lib.hid hv
      have H1 := Lib.hid h1
      have Hra := Lib.hid hra
      clear h1 hv hra
      by_cases hap : p < a
      · obtain ⟨b, hb⟩ : ∃ b, a = b + 1 := ⟨a - 1, by omega⟩
        obtain ⟨s, r', hs1, hs2, hs3⟩ := Hstep.out r b (by rw [← hb]; exact Hra.out)
        have e1 : IntKind.i64.wrap ((a : Int) - 1) = (b : Int) := by rw [IntKind.wrap_i64]; omega
        have Hs1 := Lib.hid hs1
        have Hs2 := Lib.hid hs2
        have Hs3 := Lib.hid hs3
        have hbp : p ≤ b := by omega
        have hbN : b < a := by omega
        clear hs1 hs2 hs3 hb
        go_wp2_with fail
        refine (WalkBack_any Bw gk _ r s wr H1.out.walk Hs1.out HLt.out (by rw [HL.out]; omega)).mono ?_
        rintro e w5 ⟨rfl, hv5⟩
        rw [Hs2.out]
        have hv6 := Hv.out.trans hv5
        have Hv6 := Lib.hid hv6
        clear hv5 hv6
        go_wp2_with fail
        go_roundw
        case rel => exact ⟨b, r', hbp, by omega, Hs3.out, by go_num, by first | rfl | trivial, Hv6.out⟩
        case measure => simp [intOf]; omega
      · obtain rfl : a = p := by omega
        have hri := Huni.out r Hra.out
        subst hri
        go_wp2_with fail
        go_ret
        exact ⟨rfl, Hv.out⟩
  · subst hz
    obtain ⟨q, hq⟩ : ∃ q, posK C k = q := ⟨_, rfl⟩
    have hex : ∃ k' ∈ List.range C.length, posK C k' = q := ⟨k, List.mem_range.2 hk, hq⟩
    rw [hq] at hkp ⊢
    have hq0 : decide ((q : Int) ≥ 0) = true := by simp
    clear hq
    go_wp2_with fail
    have hrow := PermRow_any B gp ga vl vo vt _ (N + 1) (N + 1) _ C tk [] q w2 H2.out.perm (by simp; omega) (by omega) hex
    unfold RowPost at hrow
    refine hrow.mono ?_
    rintro e w3 ⟨k3, hk3, hk4, rfl, hb3⟩
    have hrq := HCm.out k3 hk3
    rw [hk4] at hrq
    obtain ⟨r0, hr0⟩ : ∃ x, rowK C k3 = x := ⟨_, rfl⟩
    rw [hr0] at hrq ⊢
    have hv3 := Hv2.out.below hb3
    have Hrq := Lib.hid hrq
    have Hv3 := Lib.hid hv3
    have hqN := (Hle.out r0 q hrq).1
    clear hrow hk4 hr0 hrq hb3 hv3 hex c20 c21 hlt2 hq0
    go_wp2_with fail
    go_loopw [5, 6] (fun x y wr => ∃ a r : Nat, p ≤ a ∧ a ≤ N ∧ rs[r]? = some a ∧ x = .int .i64 (a : Int) ∧ y = .int .i64 (r : Int) ∧ VB Bw w wr) (fun x _ _ => (intOf x).toNat)
    case atStart => exact ⟨q, r0, hkp, hqN, Hrq.out, rfl, rfl, Hv3.out⟩
    case round =>
      obtain ⟨a, r, hpa, haN, hra, rfl, rfl, hv⟩ := hrel
      have h1 := H.out.vis hv.1
      have c10 := h1.blk.cell 0
      have hlt1 := h1.blk.lt
      have Hv := Lib.hid hv
      have H1 := Lib.hid h1
      have Hra := Lib.hid hra
      clear h1 hv hra
      by_cases hap : p < a
      · obtain ⟨b, hb⟩ : ∃ b, a = b + 1 := ⟨a - 1, by omega⟩
        obtain ⟨s, r', hs1, hs2, hs3⟩ := Hstep.out r b (by rw [← hb]; exact Hra.out)
        have e1 : IntKind.i64.wrap ((a : Int) - 1) = (b : Int) := by rw [IntKind.wrap_i64]; omega
        have Hs1 := Lib.hid hs1
        have Hs2 := Lib.hid hs2
        have Hs3 := Lib.hid hs3
        have hbp : p ≤ b := by omega
        have hbN : b < a := by omega
        clear hs1 hs2 hs3 hb
        go_wp2_with fail
        refine (WalkBack_any Bw gk _ r s wr H1.out.walk Hs1.out HLt.out (by rw [HL.out]; omega)).mono ?_
        rintro e w5 ⟨rfl, hv5⟩
        rw [Hs2.out]
        have hv6 := Hv.out.trans hv5
        have Hv6 := Lib.hid hv6
        clear hv5 hv6
        go_wp2_with fail
        go_roundw
        case rel => exact ⟨b, r', hbp, by omega, Hs3.out, by go_num, by first | rfl | trivial, Hv6.out⟩
        case measure => simp [intOf]; omega
      · obtain rfl : a = p := by omega
        have hri := Huni.out r Hra.out
        subst hri
        go_wp2_with fail
        go_ret
        exact ⟨rfl, Hv.out⟩
end Go.Proofs.YtnileogagoipiaaGreatDoor
