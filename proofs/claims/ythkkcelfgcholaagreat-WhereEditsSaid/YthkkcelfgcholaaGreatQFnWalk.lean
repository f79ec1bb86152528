/- The walks of walk's New, of, Len, Below. Conditions: at most 127 bytes; a symbol (below 257); places in order. -/
import Derived.Test.YthkkcelfgcholaaGreatQFnLast
import Derived.Test.YthkkcelfgcholaaGreatQFnWNew
namespace Go.Proofs.YthkkcelfgcholaaGreat
open Go.RowKit
set_option linter.unusedVariables false
set_option linter.unusedSimpArgs false
theorem WaveAt.mono {w : World} {B B' gv : Nat} {L : List Nat} (h : WaveAt w B gv L) (hB : B' ≤ B) : WaveAt w B' gv L := by
  obtain ⟨h0, S, v, h1, h2⟩ := h
  exact ⟨Nat.le_trans hB h0, S, v, h1, fun lv hl => (h2 lv hl).mono hB⟩
/-- gk is a walk of the transform L; what a lookup may write was made since B. -/
def WalkAt (w : World) (B gk : Nat) (L : List Nat) : Prop :=
  ∃ gv gt, Bk w gk 56 #[.pointer (some ⟨gv, 0, none⟩), .pointer (some ⟨gt, 0, none⟩)] ∧ WaveAt w B gv L ∧ Bk w gt 125 (tcells L)
theorem WalkAt.vis {w w' : World} {B gk : Nat} {L : List Nat} (h : WalkAt w B gk L) (k : Vis w w') : WalkAt w' B gk L := by
  obtain ⟨gv, gt, h1, h2, h3⟩ := h
  exact ⟨gv, gt, k.bk h1 (by decide) (by decide), h2.vis k, k.bk h3 (by decide) (by decide)⟩
theorem WalkAt.mono {w : World} {B B' gk : Nat} {L : List Nat} (h : WalkAt w B gk L) (hB : B' ≤ B) : WalkAt w B' gk L := by
  obtain ⟨gv, gt, h1, h2, h3⟩ := h
  exact ⟨gv, gt, h1, h2.mono hB, h3⟩
set_option maxRecDepth 100000 in
theorem WaveLen_any (B gv : Nat) (L : List Nat) (w : World) (h : WaveAt w B gv L) :
    Calls Tryz.prog 85 #[.pointer (some ⟨gv, 0, none⟩)] w fun e w' => e = .returned (.int .i64 (L.length : Int)) ∧ w = w' := by
  obtain ⟨_, S, v, hb, _⟩ := h
  have c9 : w.cell? ⟨gv, 9, none⟩ = some (.int .i64 (L.length : Int)) := by
    rw [hb.cell]
    have := wcells_get S (L.length : Int) v
    simp [this]
  clear hb
  go_enter Tryz.func85, Tryz.ntmps85
  go_wp2
  go_ret
  exact ⟨rfl, rfl⟩
set_option maxRecDepth 100000 in
theorem WalkLen_any (B gk : Nat) (L : List Nat) (w : World) (h : WalkAt w B gk L) :
    Calls Tryz.prog 50 #[.pointer (some ⟨gk, 0, none⟩)] w fun e w' => e = .returned (.int .i64 (L.length : Int)) ∧ w = w' := by
  obtain ⟨gv, gt, h1, h2, h3⟩ := h
  have c0 := h1.cell 0
  clear h1 h3
  go_enter Tryz.func50, Tryz.ntmps50
  go_wp2_with fail
  refine (WaveLen_any B gv L _ h2).mono ?_
  rintro e w' ⟨rfl, rfl⟩
  go_wp2_with fail
  go_ret
  exact ⟨rfl, rfl⟩
set_option maxRecDepth 100000 in
theorem WalkBelow_any (B gk : Nat) (L : List Nat) (s : Nat) (w : World) (h : WalkAt w B gk L) (hs : s < 257) (hl : L.length ≤ 1000) :
    Calls Tryz.prog 88 #[.pointer (some ⟨gk, 0, none⟩), .int .i64 (s : Int)] w fun e w' => e = .returned (.int .i64 ((L.countP (fun x => decide (x < s)) : Nat) : Int)) ∧ Below w.heap.size w w' := by
  obtain ⟨gv, gt, h1, h2, h3⟩ := h
  have c1 := h1.cell 1
  clear h1 h2
  have H3 := Lib.hid h3
  clear h3
  go_enter Tryz.func88, Tryz.ntmps88
  go_wp2_with fail
  refine (TallyBelow_any gt L s _ H3.out hs hl).mono ?_
  rintro e w' ⟨rfl, hb⟩
  obtain ⟨q, hq⟩ : ∃ q, L.countP (fun x => decide (x < s)) = q := ⟨_, rfl⟩
  rw [hq]
  go_wp2_with fail
  go_ret
  exact ⟨by rw [hq]; rfl, hb⟩
set_option maxRecDepth 100000 in
theorem WalkOf_any (A : Option Addr) (m c B : Nat) (L : List Nat) (w : World) (hr : Rd w B 1 A m (L.map sv)) (hB : B ≤ w.heap.size) (hm : m ≤ 128) (hL : ∀ s ∈ L, s < 257) :
    Calls Tryz.prog 38 #[.slice A m c] w fun e w' => ∃ gk, e = .returned (.pointer (some ⟨gk, 0, none⟩)) ∧ w.heap.size ≤ gk ∧ WalkAt w' w.heap.size gk L ∧ Below w.heap.size w w' := by
  have Hr := Lib.hid hr
  have HL := Lib.hid hL
  clear hr hL
  go_enter Tryz.func38, Tryz.ntmps38
  go_wp2_with fail
  refine (WaveNew_any A m c B L _ Hr.out hB hm HL.out).mono ?_
  rintro e w1 ⟨gv, rfl, hgv, hwv, hb1⟩
  have Hwv := Lib.hid hwv
  have Hb1 := Lib.hid hb1
  clear hwv hb1
  go_wp2_with fail
  refine (TallyNew_any A m c B L w1 (Hr.out.below (Hb1.out.mono hB)) (by have := Hb1.out.size; omega) (by omega) HL.out).mono ?_
  rintro e w2 ⟨gt, rfl, hgt, htl, hb2⟩
  have hwv2 := Hwv.out.vis (Vis.of_below hb2)
  have hb3 := Hb1.out.trans (hb2.mono Hb1.out.size)
  have Hwv2 := Lib.hid hwv2
  have Htl := Lib.hid htl
  have Hb3 := Lib.hid hb3
  clear hwv2 htl hb3 hb2 Hwv Hb1
  go_wp2_with fail
  go_ret
  exact ⟨_, rfl, Hb3.out.size, ⟨gv, gt, Bk.new _ _ _, Hwv2.out.vis ((Vis.refl _).alloc _), Htl.out.alloc _⟩, Hb3.out.alloc Hb3.out.size _⟩
set_option maxRecDepth 100000 in
theorem WalkNew_any (A : Option Addr) (m c B : Nat) (t : List UInt8) (w : World) (hr : Rd w B 1 A m (t.map bv)) (hB : B ≤ w.heap.size) (hm : m ≤ 127) :
    Calls Tryz.prog 14 #[.slice A m c] w fun e w' => ∃ gk rs, IsSuf (symL t) rs ∧ e = .returned (.pointer (some ⟨gk, 0, none⟩)) ∧ w.heap.size ≤ gk ∧ WalkAt w' w.heap.size gk (lastL (symL t) rs) ∧ Below w.heap.size w w' := by
  have Hr := Lib.hid hr
  clear hr
  go_enter Tryz.func14, Tryz.ntmps14
  go_wp2_with fail
  refine (SortedLast_any A m c B t _ Hr.out hB (by omega)).mono ?_
  rintro e w1 ⟨rs, A1, c1, hsuf, rfl, hm1, hb1⟩
  have Hsuf := Lib.hid hsuf
  have Hm1 := Lib.hid hm1.rd
  have Hb1 := Lib.hid hb1
  clear hsuf hm1 hb1
  go_wp2_with fail
  refine (WalkOf_any A1 (m + 1) c1 _ _ w1 Hm1.out (Nat.le_refl _) (by omega) (lastL_lt (symL_lt t))).mono ?_
  rintro e w2 ⟨gk, rfl, hgk, hwk, hb2⟩
  have hb3 := Hb1.out.trans (hb2.mono Hb1.out.size)
  have hz := Hb1.out.size
  go_wp2_with fail
  go_ret
  exact ⟨gk, rs, Hsuf.out, rfl, by omega, hwk.mono hz, hb3⟩
/-- Narrow: of the rows from lo on, below hi, those with s ahead. -/
def narL (L : List Nat) (s k : Nat) : Nat := L.countP (fun x => decide (x < s)) + (L.take k).count s
end Go.Proofs.YthkkcelfgcholaaGreat
