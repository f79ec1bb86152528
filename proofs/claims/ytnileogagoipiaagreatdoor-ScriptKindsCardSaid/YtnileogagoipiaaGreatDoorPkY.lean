/- A store; the walks of its has, and of edit where it refuses. Conditions: a text of at most 127 bytes. The walk of store's Save. Conditions: a text of at most 127 bytes. The walk of store's Load at a text's own snapshot. Conditions: a text of at most 127 bytes. The walk of store's Do: edits that it refuses, and the reload. Conditions: a text of at most 127 bytes. The walk of store.New. No conditions but the bounds. -/
import Derived.Test.YtnileogagoipiaaGreatDoorPkU
namespace Go.Proofs.YtnileogagoipiaaGreatDoor
open Go.RowKit
set_option linter.unusedVariables false
set_option linter.unusedSimpArgs false
/-- A store that holds a text. -/
structure StAt (w : World) (Bw gs gl most rate : Nat) (t : List UInt8) : Prop where
  blk : Bk w gs 61 #[.pointer (some ⟨gl, 0, none⟩), .int .i64 (most : Int)]
  low : Bw ≤ gs
  tp : TpAt w Bw gl t rate
  len : t.length ≤ most
  max : most ≤ 2147483648
  r1 : 1 ≤ rate
  r2 : rate ≤ 64
theorem StAt.vb {w w' : World} {Bw gs gl most rate : Nat} {t : List UInt8} (h : StAt w Bw gs gl most rate t) (k : Vis w w') : StAt w' Bw gs gl most rate t :=
  ⟨k.bk h.blk (by decide) (by decide), h.low, h.tp.vis k, h.len, h.max, h.r1, h.r2⟩
theorem StAt.llen {w : World} {Bw gs gl most rate N : Nat} {t : List UInt8} (h : StAt w Bw gs gl most rate t) (hN : t.length = N) : Calls Tryz.prog 36 #[.pointer (some ⟨gl, 0, none⟩)] w fun e w' => e = .returned (.int .i64 (N : Int)) ∧ w = w' := by
  obtain ⟨rs, gk, gp, ga, vl, vo, vt, B, tk, hs, hl, hn127⟩ := h.tp
  exact LiveLen_any Bw gl _ N w hl.lvw (by rw [lastL_len, hs.len, symL_len, hN]) (by omega)
/-- Is there room for n bytes from a place on? -/
def stHas (N : Nat) (p n : Int) : Bool := decide (0 ≤ p ∧ 0 ≤ n ∧ p ≤ (N : Int) ∧ n ≤ (N : Int) - p)
set_option maxRecDepth 100000 in
theorem StHas_any (Bw gs gl most rate N : Nat) (t : List UInt8) (p n : Int) (w : World) (h : StAt w Bw gs gl most rate t) (hN : t.length = N) :
    Calls Tryz.prog 58 #[.pointer (some ⟨gs, 0, none⟩), .int .i64 p, .int .i64 n] w fun e w' => e = .returned (.bool (stHas N p n)) ∧ w = w' := by
  have hll := h.llen hN
  have hN127 : N ≤ 127 := by obtain ⟨rs, gk, gp, ga, vl, vo, vt, B, tk, hs, hl, hn127⟩ := h.tp; omega
  have c0 := h.blk.cell 0
  have HL := Lib.hid hll
  clear hll h
  unfold stHas
  by_cases h1 : 0 ≤ p
  · by_cases h2 : 0 ≤ n
    · by_cases h3 : p ≤ (N : Int)
      · have e1 : IntKind.i64.wrap ((N : Int) - p) = (N : Int) - p := by rw [IntKind.wrap_i64]; omega
        have d1 : decide (0 ≤ p) = true := decide_eq_true h1
        have d2 : decide (0 ≤ n) = true := decide_eq_true h2
        have d3 : decide (p ≤ (N : Int)) = true := decide_eq_true h3
        go_enter Tryz.func58, Tryz.ntmps58
        go_wp2_with fail
        refine HL.out.mono ?_
        rintro e w1 ⟨rfl, rfl⟩
        go_wp2_with fail
        refine HL.out.mono ?_
        rintro e w1 ⟨rfl, rfl⟩
        go_wp2_with fail
        go_ret
        refine ⟨?_, rfl⟩
        first | rfl | (show Ending.returned (Value.bool (decide (n ≤ (N : Int) - p))) = _; congr 2; exact decide_eq_decide.2 (by omega))
      · have d1 : decide (0 ≤ p) = true := decide_eq_true h1
        have d2 : decide (0 ≤ n) = true := decide_eq_true h2
        have d3 : decide (p ≤ (N : Int)) = false := decide_eq_false h3
        go_enter Tryz.func58, Tryz.ntmps58
        go_wp2_with fail
        refine HL.out.mono ?_
        rintro e w1 ⟨rfl, rfl⟩
        go_wp2_with fail
        go_ret
        refine ⟨?_, rfl⟩
        show Ending.returned (Value.bool false) = _
        rw [decide_eq_false (by omega)]
    · have d1 : decide (0 ≤ p) = true := decide_eq_true h1
      have d2 : decide (0 ≤ n) = false := decide_eq_false h2
      go_enter Tryz.func58, Tryz.ntmps58
      go_wp2_with fail
      go_ret
      exact ⟨rfl, rfl⟩
  · have d1 : decide (0 ≤ p) = false := decide_eq_false h1
    go_enter Tryz.func58, Tryz.ntmps58
    go_wp2_with fail
    go_ret
    exact ⟨rfl, rfl⟩
/-- How many bytes an edit asks for. -/
def stEditN (kind n : Int) (m : Nat) : Int := if kind = 1 then 0 else if kind = 3 then (m : Int) else n
set_option maxRecDepth 100000 in
theorem StEditNo_any (Bw gs gl most rate N : Nat) (t : List UInt8) (kind p n : Int) (A : Option Addr) (m c : Nat) (w : World) (h : StAt w Bw gs gl most rate t) (hN : t.length = N) (hno : stHas N p (stEditN kind n m) = false) :
    Calls Tryz.prog 35 #[.pointer (some ⟨gs, 0, none⟩), .agg #[.int .i64 kind, .int .i64 p, .int .i64 n, .slice A m c]] w fun e w' => e = .returned (.int .i64 2) ∧ Below w.heap.size w w' := by
  have hb : Below w.heap.size w (w.alloc (.cells #[.int .i64 kind, .int .i64 p, .int .i64 n, .slice A m c] 29)) := (Below.refl _ _).alloc (Nat.le_refl _) _
  have hh := fun q => StHas_any Bw gs gl most rate N t p q _ (h.vb (Vis.of_below hb)) hN
  have Hb := Lib.hid hb
  have hbk := Bk.new w 29 #[.int .i64 kind, .int .i64 p, .int .i64 n, .slice A m c]
  have c0 := hbk.cell 0
  have c1 := hbk.cell 1
  have c2 := hbk.cell 2
  have c3 := hbk.cell 3
  have HH := Lib.hid hh
  clear h hb hbk hh
  unfold stEditN at hno
  by_cases h1 : kind = 1
  · subst h1
    rw [if_pos rfl] at hno
    have Hno := Lib.hid hno
    clear hno
    go_enter Tryz.func35, Tryz.ntmps35
    go_wp2_with fail
    refine (HH.out 0).mono ?_
    rintro e w1 ⟨rfl, rfl⟩
    rw [Hno.out]
    go_wp2_with fail
    go_ret
    exact ⟨rfl, Hb.out⟩
  · rw [if_neg h1] at hno
    by_cases h3 : kind = 3
    · subst h3
      rw [if_pos rfl] at hno
      have Hno := Lib.hid hno
      clear hno
      go_enter Tryz.func35, Tryz.ntmps35
      go_wp2_with fail
      refine (HH.out (m : Int)).mono ?_
      rintro e w1 ⟨rfl, rfl⟩
      rw [Hno.out]
      go_wp2_with fail
      go_ret
      exact ⟨rfl, Hb.out⟩
    · rw [if_neg h3] at hno
      have Hno := Lib.hid hno
      have b1 : (kind == 1) = false := beq_eq_false_iff_ne.2 h1
      have b3 : (kind == 3) = false := beq_eq_false_iff_ne.2 h3
      clear hno
      go_enter Tryz.func35, Tryz.ntmps35
      go_wp2_with fail
      refine (HH.out n).mono ?_
      rintro e w1 ⟨rfl, rfl⟩
      rw [Hno.out]
      go_wp2_with fail
      go_ret
      exact ⟨rfl, Hb.out⟩
end Go.Proofs.YtnileogagoipiaaGreatDoor
namespace Go.Proofs.YtnileogagoipiaaGreatDoor
open Go.RowKit
set_option linter.unusedVariables false
set_option linter.unusedSimpArgs false
theorem StAt.save {w : World} {Bw gs gl most rate : Nat} {t : List UInt8} {rs : List Nat} (h : StAt w Bw gs gl most rate t) (hs : IsSuf (symL t) rs) :
    Calls Tryz.prog 70 #[.pointer (some ⟨gl, 0, none⟩), .int .i64 (most : Int)] w (SavePost w Bw (snapB (lastL (symL t) rs) rs most rate t.length)) := by
  obtain ⟨rs', gk, gp, ga, vl, vo, vt, B, tk, hs', hl, hn127⟩ := h.tp
  obtain rfl := hs'.unique hs
  exact SnapSave_any Bw gl gk gp ga vl vo vt B rate most t rs' tk w hl hs' hn127 h.r1 h.r2 h.len h.max
set_option maxRecDepth 100000 in
set_option maxHeartbeats 1000000 in
theorem StSave_any (Bw gs gl most rate : Nat) (t : List UInt8) (rs : List Nat) (w : World) (h : StAt w Bw gs gl most rate t) (hs : IsSuf (symL t) rs) :
    Calls Tryz.prog 40 #[.pointer (some ⟨gs, 0, none⟩)] w (SavePost w Bw (snapB (lastL (symL t) rs) rs most rate t.length)) := by
  have hsave : ∀ w1, VB Bw w w1 → Calls Tryz.prog 70 #[.pointer (some ⟨gl, 0, none⟩), .int .i64 (most : Int)] w1 (SavePost w1 Bw (snapB (lastL (symL t) rs) rs most rate t.length)) := fun w1 k => (h.vb k.1).save hs
  obtain ⟨bs, hbs⟩ : ∃ bs, snapB (lastL (symL t) rs) rs most rate t.length = bs := ⟨_, rfl⟩
  rw [hbs] at hsave ⊢
  obtain ⟨nb, hK⟩ : ∃ nb, bs.length = nb := ⟨_, rfl⟩
  have Hsave := Lib.hid hsave
  have HK := Lib.hid hK
  have Hblk := Lib.hid h.blk
  clear hsave h hs hbs hK
  unfold SavePost
  rw [HK.out]
  go_enter Tryz.func40, Tryz.ntmps40
  go_wp2_with fail
  refine wp_region_any (by kernel_rfl) ?_
  refine wpAny_loose2 [6, 7, 8, 9, 10, 11, 12, 13, 14, 15, 16, 2, 3] (VB Bw) (Vs [is (.pointer (some ⟨gs, 0, none⟩)), is (.pointer (some ⟨gs, 0, none⟩)), is (.pointer (some ⟨gs, 0, none⟩)), is (.pointer (some ⟨gl, 0, none⟩)), is (.pointer (some ⟨gs, 0, none⟩)), is (.pointer (some ⟨gs, 0, none⟩)), is (.pointer (some ⟨gs, 1, none⟩)), is (.int .i64 (most : Int)), fun v w2 => ∃ A' c', v = .tuple #[.slice A' nb c', .int .i64 0] ∧ Made w2 w.heap.size 5 1 A' nb c' (bs.map bv), fun v w2 => ∃ A' c', v = .slice A' nb c' ∧ Made w2 w.heap.size 5 1 A' nb c' (bs.map bv), is (.int .i64 0), fun v w2 => ∃ A' c', v = .slice A' nb c' ∧ Made w2 w.heap.size 5 1 A' nb c' (bs.map bv), is (.int .i64 0)]) _ _ rfl (by kernel_rfl) (VisK.refl _ _) (fun _ _ => VisK.trans) (stbs_all (by repeat' (first | exact stbs_is _ _ | exact stbs_any _ | exact fun _ _ _ ⟨A, c, h1, h2⟩ k => ⟨A, c, h1, k.1.made h2 (by decide) (by decide)⟩ | (refine List.forall_mem_cons.2 ⟨?_, ?_⟩) | (intro p hp; cases hp)))) ?_ ?_
  · refine steps_of ?_
    refine steps_cons ?_ ?_
    · refine step_on rfl rfl ?_
      intro ev w5 hS hc hf hold hval a K ha hK
      have e0 : ev (.tmp 0) = .pointer (some ⟨gs, 0, none⟩) := hold 0 (by kernel_rfl)
      replace hS : (VB Bw) w w5 := ⟨⟨hS.1.os, hS.1.tape, hS.1.output, hS.1.size, hS.1.block⟩, ⟨hS.2.os, hS.2.tape, hS.2.output, hS.2.size, hS.2.block⟩⟩
      go_simp
      exact hK _ _ ((VisK.refl _ _)) rfl
    refine steps_cons ?_ ?_
    · refine step_on rfl rfl ?_
      intro ev w5 hS hc hf hold hval a K ha hK
      have e6 : ev (.tmp 6) = .pointer (some ⟨gs, 0, none⟩) := hval 0 6 (by kernel_rfl) rfl
      replace hS : (VB Bw) w w5 := ⟨⟨hS.1.os, hS.1.tape, hS.1.output, hS.1.size, hS.1.block⟩, ⟨hS.2.os, hS.2.tape, hS.2.output, hS.2.size, hS.2.block⟩⟩
      go_simp
      exact hK _ _ ((VisK.refl _ _)) rfl
    refine steps_cons ?_ ?_
    · refine step_on rfl rfl ?_
      intro ev w5 hS hc hf hold hval a K ha hK
      have e7 : ev (.tmp 7) = .pointer (some ⟨gs, 0, none⟩) := hval 1 7 (by kernel_rfl) rfl
      replace hS : (VB Bw) w w5 := ⟨⟨hS.1.os, hS.1.tape, hS.1.output, hS.1.size, hS.1.block⟩, ⟨hS.2.os, hS.2.tape, hS.2.output, hS.2.size, hS.2.block⟩⟩
      go_simp
      exact hK _ _ ((VisK.refl _ _)) rfl
    refine steps_cons ?_ ?_
    · refine step_on rfl rfl ?_
      intro ev w5 hS hc hf hold hval a K ha hK
      have e8 : ev (.tmp 8) = .pointer (some ⟨gs, 0, none⟩) := hval 2 8 (by kernel_rfl) rfl
      replace hS : (VB Bw) w w5 := ⟨⟨hS.1.os, hS.1.tape, hS.1.output, hS.1.size, hS.1.block⟩, ⟨hS.2.os, hS.2.tape, hS.2.output, hS.2.size, hS.2.block⟩⟩
      have hb5 := hS.1.bk Hblk.out (by decide) (by decide)
      have c9 := hb5.cell 0
      go_simp
      exact hK _ _ ((VisK.refl _ _)) rfl
    refine steps_cons ?_ ?_
    · refine step_on rfl rfl ?_
      intro ev w5 hS hc hf hold hval a K ha hK
      have e0 : ev (.tmp 0) = .pointer (some ⟨gs, 0, none⟩) := hold 0 (by kernel_rfl)
      replace hS : (VB Bw) w w5 := ⟨⟨hS.1.os, hS.1.tape, hS.1.output, hS.1.size, hS.1.block⟩, ⟨hS.2.os, hS.2.tape, hS.2.output, hS.2.size, hS.2.block⟩⟩
      go_simp
      exact hK _ _ ((VisK.refl _ _)) rfl
    refine steps_cons ?_ ?_
    · refine step_on rfl rfl ?_
      intro ev w5 hS hc hf hold hval a K ha hK
      have e10 : ev (.tmp 10) = .pointer (some ⟨gs, 0, none⟩) := hval 4 10 (by kernel_rfl) rfl
      replace hS : (VB Bw) w w5 := ⟨⟨hS.1.os, hS.1.tape, hS.1.output, hS.1.size, hS.1.block⟩, ⟨hS.2.os, hS.2.tape, hS.2.output, hS.2.size, hS.2.block⟩⟩
      go_simp
      exact hK _ _ ((VisK.refl _ _)) rfl
    refine steps_cons ?_ ?_
    · refine step_on rfl rfl ?_
      intro ev w5 hS hc hf hold hval a K ha hK
      have e11 : ev (.tmp 11) = .pointer (some ⟨gs, 0, none⟩) := hval 5 11 (by kernel_rfl) rfl
      replace hS : (VB Bw) w w5 := ⟨⟨hS.1.os, hS.1.tape, hS.1.output, hS.1.size, hS.1.block⟩, ⟨hS.2.os, hS.2.tape, hS.2.output, hS.2.size, hS.2.block⟩⟩
      go_simp
      exact hK _ _ ((VisK.refl _ _)) rfl
    refine steps_cons ?_ ?_
    · refine step_on rfl rfl ?_
      intro ev w5 hS hc hf hold hval a K ha hK
      have e12 : ev (.tmp 12) = .pointer (some ⟨gs, 1, none⟩) := hval 6 12 (by kernel_rfl) rfl
      replace hS : (VB Bw) w w5 := ⟨⟨hS.1.os, hS.1.tape, hS.1.output, hS.1.size, hS.1.block⟩, ⟨hS.2.os, hS.2.tape, hS.2.output, hS.2.size, hS.2.block⟩⟩
      have hb5 := hS.1.bk Hblk.out (by decide) (by decide)
      have c9 := hb5.cell 1
      go_simp
      exact hK _ _ ((VisK.refl _ _)) rfl
    refine steps_cons ?_ ?_
    · refine step_on rfl rfl ?_
      intro ev w5 hS hc hf hold hval a K ha hK
      have e9 : ev (.tmp 9) = .pointer (some ⟨gl, 0, none⟩) := hval 3 9 (by kernel_rfl) rfl
      have e13 : ev (.tmp 13) = .int .i64 (most : Int) := hval 7 13 (by kernel_rfl) rfl
      replace hS : (VB Bw) w w5 := ⟨⟨hS.1.os, hS.1.tape, hS.1.output, hS.1.size, hS.1.block⟩, ⟨hS.2.os, hS.2.tape, hS.2.output, hS.2.size, hS.2.block⟩⟩
      go_simp
      have hsv := Hsave.out w5 hS
      unfold SavePost at hsv
      rw [HK.out] at hsv
      refine hsv.mono ?_
      rintro e w8 ⟨A', c', rfl, hm9, hv9⟩
      exact hK _ _ hv9 ⟨A', c', rfl, hm9.mono hS.1.size⟩
    refine steps_cons ?_ ?_
    · refine step_on rfl rfl ?_
      intro ev w5 hS hc hf hold hval a K ha hK
      have p14 : (fun v w2 => ∃ A' c', v = .tuple #[.slice A' nb c', .int .i64 0] ∧ Made w2 w.heap.size 5 1 A' nb c' (bs.map bv)) (ev (.tmp 14)) w5 := hval 8 14 (by kernel_rfl) rfl
      replace hS : (VB Bw) w w5 := ⟨⟨hS.1.os, hS.1.tape, hS.1.output, hS.1.size, hS.1.block⟩, ⟨hS.2.os, hS.2.tape, hS.2.output, hS.2.size, hS.2.block⟩⟩
      obtain ⟨A', c', e14, hm9⟩ := p14
      go_simp
      exact hK _ _ (VisK.refl _ _) ⟨A', c', rfl, hm9⟩
    refine steps_cons ?_ ?_
    · refine step_on rfl rfl ?_
      intro ev w5 hS hc hf hold hval a K ha hK
      have p14 : (fun v w2 => ∃ A' c', v = .tuple #[.slice A' nb c', .int .i64 0] ∧ Made w2 w.heap.size 5 1 A' nb c' (bs.map bv)) (ev (.tmp 14)) w5 := hval 8 14 (by kernel_rfl) rfl
      replace hS : (VB Bw) w w5 := ⟨⟨hS.1.os, hS.1.tape, hS.1.output, hS.1.size, hS.1.block⟩, ⟨hS.2.os, hS.2.tape, hS.2.output, hS.2.size, hS.2.block⟩⟩
      obtain ⟨A', c', e14, hm9⟩ := p14
      go_simp
      exact hK _ _ (VisK.refl _ _) rfl
    refine steps_cons ?_ ?_
    · refine step_on rfl rfl ?_
      intro ev w5 hS hc hf hold hval a K ha hK
      have p15 : (fun v w2 => ∃ A' c', v = .slice A' nb c' ∧ Made w2 w.heap.size 5 1 A' nb c' (bs.map bv)) (ev (.tmp 15)) w5 := hval 9 15 (by kernel_rfl) rfl
      replace hS : (VB Bw) w w5 := ⟨⟨hS.1.os, hS.1.tape, hS.1.output, hS.1.size, hS.1.block⟩, ⟨hS.2.os, hS.2.tape, hS.2.output, hS.2.size, hS.2.block⟩⟩
      obtain ⟨A', c', e15, hm9⟩ := p15
      go_simp
      exact hK _ _ (VisK.refl _ _) ⟨A', c', rfl, hm9⟩
    refine steps_cons ?_ ?_
    · refine step_on rfl rfl ?_
      intro ev w5 hS hc hf hold hval a K ha hK
      have e16 : ev (.tmp 16) = .int .i64 0 := hval 10 16 (by kernel_rfl) rfl
      replace hS : (VB Bw) w w5 := ⟨⟨hS.1.os, hS.1.tape, hS.1.output, hS.1.size, hS.1.block⟩, ⟨hS.2.os, hS.2.tape, hS.2.output, hS.2.size, hS.2.block⟩⟩
      go_simp
      exact hK _ _ ((VisK.refl _ _)) rfl
    exact steps_nil
  · intro ev w6 hS hval
    replace hS : (VB Bw) w w6 := ⟨⟨hS.1.os, hS.1.tape, hS.1.output, hS.1.size, hS.1.block⟩, ⟨hS.2.os, hS.2.tape, hS.2.output, hS.2.size, hS.2.block⟩⟩
    have p2 : (fun v w2 => ∃ A' c', v = .slice A' nb c' ∧ Made w2 w.heap.size 5 1 A' nb c' (bs.map bv)) (ev (.tmp 2)) w6 := hval 11 2 rfl
    have e3 : ev (.tmp 3) = .int .i64 0 := hval 12 3 rfl
    simp only [putsOf, List.foldl_cons, List.foldl_nil, Act.put, List.setIfInBounds_toArray, List.set_cons_zero, List.set_cons_succ]
    rw [e3]
    clear hval
    obtain ⟨A', c', e2, hm⟩ := p2
    rw [e2]
    have Hm := Lib.hid hm
    have HS := Lib.hid hS
    clear hm hS
    go_wp2_with fail
    go_ret2
    exact ⟨A', c', rfl, Hm.out, HS.out⟩
end Go.Proofs.YtnileogagoipiaaGreatDoor
namespace Go.Proofs.YtnileogagoipiaaGreatDoor
open Go.RowKit
set_option linter.unusedVariables false
set_option linter.unusedSimpArgs false
theorem ShelfRow.sameS {w w' : World} {B : Nat} {v : Value} {L : List Nat} {lv m : Nat} (h : ShelfRow w B v L lv m) (k : ∀ b t cs, t ≠ 61 → Bk w b t cs → Bk w' b t cs) : ShelfRow w' B v L lv m := by
  obtain ⟨G, h1, h2⟩ := h
  exact ⟨G, own_same h1 fun b cs _ hb => k _ _ _ (by decide) hb, fun p hp => ⟨(h2 p hp).1, (h2 p hp).2.same fun b t cs ht hb => k _ _ _ (by rintro rfl; revert ht; decide) hb⟩⟩
theorem WalkAt.sameS {w w' : World} {B gk : Nat} {L : List Nat} (h : WalkAt w B gk L) (k : ∀ b t cs, t ≠ 61 → Bk w b t cs → Bk w' b t cs) : WalkAt w' B gk L := by
  obtain ⟨gv, gt, h1, ⟨hB, S, v, h2, h3⟩, h4⟩ := h
  exact ⟨gv, gt, k _ _ _ (by decide) h1, ⟨hB, S, v, k _ _ _ (by decide) h2, fun lv hl => (h3 lv hl).sameS k⟩, k _ _ _ (by decide) h4⟩
theorem PermAt.sameS {w w' : World} {B gp ga : Nat} {vl vo vt vf : Value} {R P : Nat} {ks : List Nat} {C : List (Nat × Nat)} {tk : List Bool} {fr : List Nat} (h : PermAt w B gp ga vl vo vt vf R P ks C tk fr) (k : ∀ b t cs, t ≠ 61 → Bk w b t cs → Bk w' b t cs) : PermAt w' B gp ga vl vo vt vf R P ks C tk fr :=
  ⟨k _ _ _ (by decide) h.blk, own_same h.lrow fun b cs _ hb => k _ _ _ (by decide) hb, own_same h.orow fun b cs _ hb => k _ _ _ (by decide) hb, k _ _ _ (by decide) h.ar, own_same h.trow fun b cs _ hb => k _ _ _ (by decide) hb, own_same h.frow fun b cs _ hb => k _ _ _ (by decide) hb, h.apart, h.lt, h.lo⟩
theorem TpAt.sameS {w w' : World} {Bw gl rate : Nat} {t : List UInt8} (h : TpAt w Bw gl t rate) (k : ∀ b t cs, t ≠ 61 → Bk w b t cs → Bk w' b t cs) : TpAt w' Bw gl t rate := by
  obtain ⟨rs, gk, gp, ga, vl, vo, vt, B, tk, h1, h2, h3⟩ := h
  exact ⟨rs, gk, gp, ga, vl, vo, vt, B, tk, h1, ⟨k _ _ _ (by decide) h2.blk, h2.walk.sameS k, h2.perm.sameS k⟩, h3⟩
section
open Go
theorem wpAny_keep_tail3 {P : Program} {ops : Array Oper} {Q : Exit → Act → World → Prop} {md : Region.Mode} (n : Nat) (ds : List Nat) (F : Nat → Prop) (J : Nat) (rd : List Nat) (pre : World → Prop) (pJ : Value → World → Prop) (l : List (Value → World → Prop)) (a0 : Act) (W0 : World)
    (hds : (ops.toList.take n).filterMap (·.dst) = ds) (hn : n ≤ ops.size) (hlaid : laidB md ops a0.tmps.size = true) (htail : ((List.range ops.size).all fun k => decide (k < n) || (List.range n).all fun i => upB md ops ops.size k i) = true)
    (hrd : (rd.all fun i => i == J || upB md ops ops.size J i) = true)
    (hp0 : pre W0) (hp : ∀ w w', pre w → Keep F W0 w → Grow w w' → pre w') (hJ : Stb pJ) (hst : ∀ p ∈ l, StbK F p)
    (hstep : ∀ j o, j < n → ops[j]? = some o → StepOk3 P ops Q md (Keep F W0) (KStep F J) (fun i w => rd.contains i = true → pre w) (VsJ J pJ l) a0 j o)
    (hend : ∀ (ev : Operand → Value) w f, Keep F W0 w → (∀ i d, i < n → ((ops[i]?).bind (·.dst)) = some d → VsJ J pJ l i (ev (.tmp d)) w) → (∀ i, i < n → ∃ v, VsJ J pJ l i v w) → wpAny P md ops Q (ops.size - n + f) (firstN n ops.size) (putsOf ev ds a0) w) :
    wpAny P md ops Q ops.size (Array.replicate ops.size false) a0 W0 := by
  refine wpAny_tail3 n ds (Keep F W0) (KStep F J) (fun i w => rd.contains i = true → pre w) (VsJ J pJ l) a0 W0 hds hn hlaid htail (Keep.refl _ _) (fun _ _ => hp0) (fun j w w' _ h k => h.trans (kstep_any k)) (fun i j w w' _ hij hup hi hC k hir => ?_) (fun i j v w w' _ hij _ hv _ k => ?_) hstep hend
  · by_cases hj : j = J
    · exfalso
      subst hj
      have h2 := List.all_eq_true.1 hrd i (by simpa using hir)
      simp only [hup, Bool.or_false, beq_iff_eq] at h2
      exact hij h2
    · exact hp w w' (hi hir) hC (k.2 hj)
  · unfold VsJ at hv ⊢
    by_cases hi : i = J
    · rw [if_pos hi] at hv ⊢
      exact hJ v w w' hv (k.2 fun e => hij (hi.trans e.symm))
    · rw [if_neg hi] at hv ⊢
      exact stbk_all hst i v w w' hv (kstep_any k)
end
/-- Blocks that are neither trees' nor waves' nor stores' stand. -/
def FrS (w w' : World) : Prop := ∀ b t cs, t ≠ 211 → t ≠ 165 → t ≠ 61 → Bk w b t cs → Bk w' b t cs
theorem FrS.trans {w w1 w' : World} (h : FrS w w1) (k : FrS w1 w') : FrS w w' := fun b t cs h1 h2 h3 hb => k b t cs h1 h2 h3 (h b t cs h1 h2 h3 hb)
theorem FrS.of_below {w w' : World} (k : Below w.heap.size w w') : FrS w w' := fun b t cs _ _ _ hb => hb.below k hb.lt
theorem FrS.of_vis {w w' : World} (k : Vis w w') : FrS w w' := fun b t cs h1 h2 _ hb => k.bk hb h1 h2
set_option maxRecDepth 100000 in
set_option maxHeartbeats 1000000 in
theorem StLoad_any (Bw gs gl most rate : Nat) (A : Option Addr) (n c : Nat) (t : List UInt8) (rs : List Nat) (w : World) (h : StAt w Bw gs gl most rate t) (hs : IsSuf (symL t) rs) (hn : t.length ≤ 127)
    (hnn : (snapB (lastL (symL t) rs) rs most rate t.length).length = n) (hr : Rd w w.heap.size 1 A n ((snapB (lastL (symL t) rs) rs most rate t.length).map bv)) (hcl : n ≤ c) (hcm : c ≤ maxLen) :
    Calls Tryz.prog 41 #[.pointer (some ⟨gs, 0, none⟩), .slice A n c] w fun e w' => e = .returned (.int .i64 0) ∧ (∃ gl', StAt w' Bw gs gl' most rate t) ∧ Below Bw w w' ∧ FrS w w' := by
  have hld := SnapLoad_any A c w.heap.size most rate t rs w hs hn h.r1 h.r2 h.len h.max (by rw [hnn]; exact hr) (Nat.le_refl _) (by rw [hnn]; exact hcl) hcm
  rw [hnn] at hld
  unfold LoadPost at hld
  have Hld := Lib.hid hld
  have H := Lib.hid h
  clear hld hr h
  go_enter Tryz.func41, Tryz.ntmps41
  go_wp2_with fail
  refine Hld.out.mono ?_
  rintro e w1 ⟨gl', rfl, ht1, hv1⟩
  have hws := hv1.1.size
  have Hv1 := Lib.hid hv1
  have hb1 := hv1.1.bk H.out.blk (by decide) (by decide)
  have hgs := H.out.blk.lt
  obtain ⟨gh, hgh⟩ : ∃ g, w1.heap.size = g := ⟨_, rfl⟩
  have hal : Below w1.heap.size w1 (w1.alloc (.cells #[.int .i64 (most : Int), .int .i64 (rate : Int), .int .i64 (t.length : Int)] 112)) := (Below.refl _ _).alloc (Nat.le_refl _) _
  have hh1 : Bk (w1.alloc (.cells #[.int .i64 (most : Int), .int .i64 (rate : Int), .int .i64 (t.length : Int)] 112)) gh 112 #[.int .i64 (most : Int), .int .i64 (rate : Int), .int .i64 (t.length : Int)] := hgh ▸ Bk.new _ _ _
  have hb1' := hb1.below hal hb1.lt
  have Ht1 := Lib.hid (ht1.vis (Vis.of_below hal))
  have Hal := Lib.hid hal
  have Hb1 := Lib.hid hb1'
  have Hh1 := Lib.hid hh1
  have Hne := Lib.hid (show ¬ gh = gs by omega)
  clear ht1 hv1 Hld hal hh1 hb1 hb1'
  unfold headC
  go_wp2_with fail
  generalize hW1 : w1.alloc (.cells #[.int .i64 (most : Int), .int .i64 (rate : Int), .int .i64 (t.length : Int)] 112) = W1 at Ht1 Hal Hb1 Hh1 ⊢
  clear hW1
  refine wp_region_any (by kernel_rfl) ?_
  refine wpAny_keep_tail3 10 [18, 19, 20, 21, 22, 23, 24, 25, 26] (fun b => b = gs) 7 [7] (fun w2 => Bk w2 gs 61 #[.pointer (some ⟨gl, 0, none⟩), .int .i64 (most : Int)]) (fun _ w2 => Bk w2 gs 61 #[.pointer (some ⟨gl', 0, none⟩), .int .i64 (most : Int)]) [is (.pointer (some ⟨gs, 0, none⟩)), is (.pointer (some ⟨gs, 0, none⟩)), is (.pointer (some ⟨gl', 0, none⟩)), is (.pointer (some ⟨gh, 0, none⟩)), is (.int .i64 (most : Int)), is (.pointer (some ⟨gs, 0, none⟩)), is (.pointer (some ⟨gs, 0, none⟩)), anyV, is (.pointer (some ⟨gs, 0, none⟩)), is (.pointer (some ⟨gs, 1, none⟩))] _ _ rfl (by decide) (by kernel_rfl) (by kernel_rfl) (by kernel_rfl) (Hb1.out) (fun w1 w2 h _ hg => Bk.below h hg h.lt) (fun _ _ _ h k => Bk.below h k h.lt) (by repeat' (first | exact stbk_is _ _ | exact stbk_any _ | (refine List.forall_mem_cons.2 ⟨?_, ?_⟩) | (intro p hp; cases hp))) ?_ ?_
  · refine steps_of_n ?_
    refine steps_cons ?_ ?_
    · refine step_on3 rfl rfl ?_
      intro ev w5 hS hU hc hf hold hval a K ha hK
      replace hS : Keep (fun b => b = gs) W1 w5 := ⟨hS.os, hS.tape, hS.output, hS.size, hS.block⟩
      clear hU
      have e0 : ev (.tmp 0) = .pointer (some ⟨gs, 0, none⟩) := hold 0 (by kernel_rfl)
      go_simp
      exact hK _ _ (kstep_grow (Below.refl _ _)) rfl
    refine steps_cons ?_ ?_
    · refine step_on3 rfl rfl ?_
      intro ev w5 hS hU hc hf hold hval a K ha hK
      replace hS : Keep (fun b => b = gs) W1 w5 := ⟨hS.os, hS.tape, hS.output, hS.size, hS.block⟩
      clear hU
      have e0 : ev (.tmp 0) = .pointer (some ⟨gs, 0, none⟩) := hold 0 (by kernel_rfl)
      go_simp
      exact hK _ _ (kstep_grow (Below.refl _ _)) rfl
    refine steps_cons ?_ ?_
    · refine step_on3 rfl rfl ?_
      intro ev w5 hS hU hc hf hold hval a K ha hK
      replace hS : Keep (fun b => b = gs) W1 w5 := ⟨hS.os, hS.tape, hS.output, hS.size, hS.block⟩
      clear hU
      have e5 : ev (.tmp 5) = .pointer (some ⟨gl', 0, none⟩) := hold 5 (by kernel_rfl)
      go_simp
      exact hK _ _ (kstep_grow (Below.refl _ _)) rfl
    refine steps_cons ?_ ?_
    · refine step_on3 rfl rfl ?_
      intro ev w5 hS hU hc hf hold hval a K ha hK
      replace hS : Keep (fun b => b = gs) W1 w5 := ⟨hS.os, hS.tape, hS.output, hS.size, hS.block⟩
      clear hU
      have e6 : ev (.tmp 6) = .pointer (some ⟨gh, 0, none⟩) := hold 6 (by kernel_rfl)
      go_simp
      exact hK _ _ (kstep_grow (Below.refl _ _)) rfl
    refine steps_cons ?_ ?_
    · refine step_on3 rfl rfl ?_
      intro ev w5 hS hU hc hf hold hval a K ha hK
      replace hS : Keep (fun b => b = gs) W1 w5 := ⟨hS.os, hS.tape, hS.output, hS.size, hS.block⟩
      clear hU
      have e21 : ev (.tmp 21) = .pointer (some ⟨gh, 0, none⟩) := hval 3 21 (by kernel_rfl) rfl
      have cc := (Keep.bk hS Hh1.out Hne.out).cell 0
      go_simp
      exact hK _ _ (kstep_grow (Below.refl _ _)) rfl
    refine steps_cons ?_ ?_
    · refine step_on3 rfl rfl ?_
      intro ev w5 hS hU hc hf hold hval a K ha hK
      replace hS : Keep (fun b => b = gs) W1 w5 := ⟨hS.os, hS.tape, hS.output, hS.size, hS.block⟩
      clear hU
      have e18 : ev (.tmp 18) = .pointer (some ⟨gs, 0, none⟩) := hval 0 18 (by kernel_rfl) rfl
      go_simp
      exact hK _ _ (kstep_grow (Below.refl _ _)) rfl
    refine steps_cons ?_ ?_
    · refine step_on3 rfl rfl ?_
      intro ev w5 hS hU hc hf hold hval a K ha hK
      replace hS : Keep (fun b => b = gs) W1 w5 := ⟨hS.os, hS.tape, hS.output, hS.size, hS.block⟩
      clear hU
      have e23 : ev (.tmp 23) = .pointer (some ⟨gs, 0, none⟩) := hval 5 23 (by kernel_rfl) rfl
      go_simp
      exact hK _ _ (kstep_grow (Below.refl _ _)) rfl
    refine steps_cons ?_ ?_
    · refine step_on3 rfl rfl ?_
      intro ev w5 hS hU hc hf hold hval a K ha hK
      replace hS : Keep (fun b => b = gs) W1 w5 := ⟨hS.os, hS.tape, hS.output, hS.size, hS.block⟩
      have hpre := hU rfl
      clear hU
      have e24 : ev (.tmp 24) = .pointer (some ⟨gs, 0, none⟩) := hval 6 24 (by kernel_rfl) rfl
      have e20 : ev (.tmp 20) = .pointer (some ⟨gl', 0, none⟩) := hval 2 20 (by kernel_rfl) rfl
      have f7 := hpre.frozen 0
      have c7 := hpre.cell 0
      go_simp
      exact hK (.bool true) _ (kstep_keep (Keep.setCell (F := fun b => b = gs) (Keep.refl _ _) (p := ⟨gs, 0, none⟩) (.inl rfl) _)) (hpre.set 0 _)
    refine steps_cons ?_ ?_
    · refine step_on3 rfl rfl ?_
      intro ev w5 hS hU hc hf hold hval a K ha hK
      replace hS : Keep (fun b => b = gs) W1 w5 := ⟨hS.os, hS.tape, hS.output, hS.size, hS.block⟩
      clear hU
      have e19 : ev (.tmp 19) = .pointer (some ⟨gs, 0, none⟩) := hval 1 19 (by kernel_rfl) rfl
      go_simp
      exact hK _ _ (kstep_grow (Below.refl _ _)) rfl
    refine steps_cons ?_ ?_
    · refine step_on3 rfl rfl ?_
      intro ev w5 hS hU hc hf hold hval a K ha hK
      replace hS : Keep (fun b => b = gs) W1 w5 := ⟨hS.os, hS.tape, hS.output, hS.size, hS.block⟩
      clear hU
      have e25 : ev (.tmp 25) = .pointer (some ⟨gs, 0, none⟩) := hval 8 25 (by kernel_rfl) rfl
      go_simp
      exact hK _ _ (kstep_grow (Below.refl _ _)) rfl
    exact steps_nil
  · intro ev w6 f hS hval hall
    replace hS : Keep (fun b => b = gs) W1 w6 := ⟨hS.os, hS.tape, hS.output, hS.size, hS.block⟩
    have e22 : ev (.tmp 22) = .int .i64 (most : Int) := hval 4 22 (by decide) rfl
    have e26 : ev (.tmp 26) = .pointer (some ⟨gs, 1, none⟩) := hval 9 26 (by decide) rfl
    simp only [putsOf, List.foldl_cons, List.foldl_nil, Act.put, List.setIfInBounds_toArray, List.set_cons_zero, List.set_cons_succ]
    rw [e22]
    rw [e26]
    clear hval
    obtain ⟨vJ, pJ0⟩ := hall 7 (by decide)
    have pJ : (fun _ w2 => Bk w2 gs 61 #[.pointer (some ⟨gl', 0, none⟩), .int .i64 (most : Int)]) vJ w6 := pJ0
    clear pJ0 hall
    have hb6 := pJ
    have f10 := hb6.frozen 1
    have c10 := hb6.cell 1
    have Hb6 := Lib.hid hb6
    have Hk6 := Lib.hid hS
    clear hb6
    change wpAny Tryz.prog Region.Mode.any _ _ (1 + f) (firstN 10 11) _ w6
    rw [Nat.add_comm 1 f]
    refine wpAny_one (f := f) (i := 10) (by kernel_rfl) ?_
    refine wpOp_run rfl rfl ?_
    generalize hK : wpAny Tryz.prog _ _ _ f _ = K5
    go_simp
    subst hK
    refine wpAny_all (by kernel_rfl) ?_
    have hk7 : Keep (fun b => b = gs) W1 (w6.setCell ⟨gs, 1, none⟩ (.int .i64 (most : Int))) := Hk6.out.setCell (p := ⟨gs, 1, none⟩) (.inl rfl) _
    have hbk7 := Hb6.out.set 1 (.int .i64 (most : Int))
    have Hk7 := Lib.hid hk7
    have Hb7 := Lib.hid hbk7
    have hH := H.out
    go_wp2_with fail
    go_ret
    have hsame : ∀ b t' cs, t' ≠ 61 → Bk W1 b t' cs → Bk (w6.setCell ⟨gs, 1, none⟩ (.int .i64 (most : Int))) b t' cs := fun b t' cs ht hb => Hk7.out.bk hb (fun e => by have e' : b = gs := e; subst e'; exact ht (bk_type hb Hb1.out))
    have hw1 := Hal.out.size
    have hbw : Bw ≤ w.heap.size := by have := hH.low; omega
    refine ⟨rfl, ⟨gl', Hb7.out, hH.low, (Ht1.out.sameS hsame).mono hbw, hH.len, hH.max, hH.r1, hH.r2⟩, ?_⟩
    refine ⟨((VB.to_below Hv1.out (Nat.le_refl _)).mono hbw).trans (((Hal.out.mono (by omega))).trans (hk7.to_below (by omega) (fun b hb e => by have e' : b = gs := e; have := hH.low; omega))), ((FrS.of_vis Hv1.out.1).trans (FrS.of_below Hal.out)).trans fun b t' cs _ _ h3 hb => hsame b t' cs h3 hb⟩
end Go.Proofs.YtnileogagoipiaaGreatDoor
namespace Go.Proofs.YtnileogagoipiaaGreatDoor
open Go.RowKit
set_option linter.unusedVariables false
set_option linter.unusedSimpArgs false
theorem ShelfRow.sameR {w w' : World} {B : Nat} {v : Value} {L : List Nat} {lv m : Nat} (h : ShelfRow w B v L lv m) (k : ∀ b t cs, t ≠ 41 → Bk w b t cs → Bk w' b t cs) : ShelfRow w' B v L lv m := by
  obtain ⟨G, h1, h2⟩ := h
  exact ⟨G, own_same h1 fun b cs _ hb => k _ _ _ (by decide) hb, fun p hp => ⟨(h2 p hp).1, (h2 p hp).2.same fun b t cs ht hb => k _ _ _ (by rintro rfl; revert ht; decide) hb⟩⟩
theorem WalkAt.sameR {w w' : World} {B gk : Nat} {L : List Nat} (h : WalkAt w B gk L) (k : ∀ b t cs, t ≠ 41 → Bk w b t cs → Bk w' b t cs) : WalkAt w' B gk L := by
  obtain ⟨gv, gt, h1, ⟨hB, S, v, h2, h3⟩, h4⟩ := h
  exact ⟨gv, gt, k _ _ _ (by decide) h1, ⟨hB, S, v, k _ _ _ (by decide) h2, fun lv hl => (h3 lv hl).sameR k⟩, k _ _ _ (by decide) h4⟩
theorem PermAt.sameR {w w' : World} {B gp ga : Nat} {vl vo vt vf : Value} {R P : Nat} {ks : List Nat} {C : List (Nat × Nat)} {tk : List Bool} {fr : List Nat} (h : PermAt w B gp ga vl vo vt vf R P ks C tk fr) (k : ∀ b t cs, t ≠ 41 → Bk w b t cs → Bk w' b t cs) : PermAt w' B gp ga vl vo vt vf R P ks C tk fr :=
  ⟨k _ _ _ (by decide) h.blk, own_same h.lrow fun b cs _ hb => k _ _ _ (by decide) hb, own_same h.orow fun b cs _ hb => k _ _ _ (by decide) hb, k _ _ _ (by decide) h.ar, own_same h.trow fun b cs _ hb => k _ _ _ (by decide) hb, own_same h.frow fun b cs _ hb => k _ _ _ (by decide) hb, h.apart, h.lt, h.lo⟩
theorem TpAt.sameR {w w' : World} {Bw gl rate : Nat} {t : List UInt8} (h : TpAt w Bw gl t rate) (k : ∀ b t cs, t ≠ 41 → Bk w b t cs → Bk w' b t cs) : TpAt w' Bw gl t rate := by
  obtain ⟨rs, gk, gp, ga, vl, vo, vt, B, tk, h1, h2, h3⟩ := h
  exact ⟨rs, gk, gp, ga, vl, vo, vt, B, tk, h1, ⟨k _ _ _ (by decide) h2.blk, h2.walk.sameR k, h2.perm.sameR k⟩, h3⟩
theorem StAt.far {w : World} {Bw gs gl most rate g i : Nat} {t : List UInt8} {cs : Array Value} (h : StAt w Bw gs gl most rate t) (hb : Bk w g 41 cs) (u : Value) : StAt (w.setCell ⟨g, i, none⟩ u) Bw gs gl most rate t := by
  have hf : ∀ b t' cs', t' ≠ 41 → Bk w b t' cs' → Bk (w.setCell ⟨g, i, none⟩ u) b t' cs' := fun b t' cs' ht hb' => hb'.far (fun e => by
    have e' : b = g := e
    subst e'
    exact ht (bk_type hb' hb)) u
  exact ⟨hf _ _ _ (by decide) h.blk, h.low, h.tp.sameR hf, h.len, h.max, h.r1, h.r2⟩
theorem FrS.far {w w1 : World} {g i : Nat} (h : FrS w w1) (hg : w.heap.size ≤ g) (u : Value) : FrS w (w1.setCell ⟨g, i, none⟩ u) := fun b t cs h1 h2 h3 hb => (h b t cs h1 h2 h3 hb).far (fun e => by
    have e' : b = g := e
    have := hb.lt
    omega) u
/-- An answer of a code alone. -/
def resZ (k : Int) : Array Value := #[.int .i64 k, .int .i64 0, .slice none 0 0, .slice none 0 0]
theorem stdo_ret {w' : World} {tmps : Array Value} {s : Nat} {k : Int} {ex : Exit} {Q : World → Prop} (hex : ex = .ret ∨ ex = .normal) (hp : tmps.getD 4 undef = .pointer (some ⟨s, 0, none⟩)) (hb : Bk w' s 41 (resZ k)) (hQ : Q w') :
    bodyPost Tryz.prog Tryz.f24 (fun e w' => e = .returned (.agg (resZ k)) ∧ Q w') ex ⟨tmps, []⟩ w' := by
  have hr := results_cell_row (P := Tryz.prog) (fn := Tryz.f24) (p := 4) (ty := 41) rfl tmps w' s 41 (resZ k) (0, 0) _ hp hb Tryz.underlying41 rfl (by kernel_rfl)
  rcases hex with rfl | rfl
  · exact bodyPost_ret hr rfl ⟨rfl, hQ⟩
  · exact bodyPost_end hr rfl ⟨rfl, hQ⟩
set_option maxRecDepth 100000 in
theorem StDoNo_any (Bw gs gl most rate N : Nat) (t : List UInt8) (kind p n : Int) (A : Option Addr) (m c : Nat) (w : World) (h : StAt w Bw gs gl most rate t) (hN : t.length = N) (hk : kind = 1 ∨ kind = 2 ∨ kind = 3) (hno : stHas N p (stEditN kind n m) = false) :
    Calls Tryz.prog 24 #[.pointer (some ⟨gs, 0, none⟩), .agg #[.int .i64 kind, .int .i64 p, .int .i64 n, .slice A m c]] w fun e w' => e = .returned (.agg (resZ 2)) ∧ Below w.heap.size w w' := by
  obtain ⟨gx, hgx⟩ : ∃ g, w.heap.size = g := ⟨_, rfl⟩
  have hb : Below w.heap.size w ((w.alloc (.cells #[.int .i64 kind, .int .i64 p, .int .i64 n, .slice A m c] 29)).alloc (.cells #[.int .i64 0, .int .i64 0, .slice none 0 0, .slice none 0 0] 41)) := ((Below.refl _ _).alloc (Nat.le_refl _) _).alloc (by simp) _
  have he := StEditNo_any Bw gs gl most rate N t kind p n A m c _ (h.vb (Vis.of_below hb)) hN hno
  have hbk : Bk ((w.alloc (.cells #[.int .i64 kind, .int .i64 p, .int .i64 n, .slice A m c] 29)).alloc (.cells #[.int .i64 0, .int .i64 0, .slice none 0 0, .slice none 0 0] 41)) w.heap.size 29 #[.int .i64 kind, .int .i64 p, .int .i64 n, .slice A m c] := (Bk.new w _ _).alloc _
  have hbr := Bk.new (w.alloc (.cells #[.int .i64 kind, .int .i64 p, .int .i64 n, .slice A m c] 29)) 41 #[.int .i64 0, .int .i64 0, .slice none 0 0, .slice none 0 0]
  have c0 := hbk.cell 0
  have c1 := hbk.cell 1
  have c2 := hbk.cell 2
  have c3 := hbk.cell 3
  have hg : (w.alloc (.cells #[.int .i64 kind, .int .i64 p, .int .i64 n, .slice A m c] 29)).heap.size = w.heap.size + 1 := by simp
  have Hg := Lib.hid hg
  have He := Lib.hid he
  have Hb := Lib.hid hb
  have Hbr := Lib.hid hbr
  clear h he hb hbk hno hbr hgx hg
  rcases hk with rfl | rfl | rfl
  all_goals
    go_enter Tryz.func24, Tryz.ntmps24
    go_wp2_with fail
    refine He.out.mono ?_
    rintro e w1 ⟨rfl, hb1⟩
    have hbr1 := Hbr.out.below hb1 Hbr.out.lt
    have hbb := Hb.out.trans (hb1.mono Hb.out.size)
    have s1 : Bk w1 (w.heap.size + 1) 41 #[.int .i64 0, .int .i64 0, .slice none 0 0, .slice none 0 0] := Hg.out ▸ hbr1
    have j0 := s1.cell 0
    have j1 := s1.cell 1
    have j2 := s1.cell 2
    have j3 := s1.cell 3
    have f0 := s1.frozen 0
    have f1 := s1.frozen 1
    have f2 := s1.frozen 2
    have f3 := s1.frozen 3
    have S1 := Lib.hid s1
    have Hbb := Lib.hid hbb
    clear s1 hbb hbr1 hb1
    go_wp2_with fail
    have hs := (((S1.out.set 0 (.int .i64 2)).set 1 (.int .i64 0)).set 2 (.slice none 0 0)).set 3 (.slice none 0 0)
    refine stdo_ret (Q := fun w' => Below w.heap.size w w') (.inl rfl) rfl (by simpa [resZ] using hs) ?_
    exact (((Hbb.out.setCell (p := ⟨w.heap.size + 1, 0, none⟩) (by simp) _).setCell (p := ⟨w.heap.size + 1, 1, none⟩) (by simp) _).setCell (p := ⟨w.heap.size + 1, 2, none⟩) (by simp) _).setCell (p := ⟨w.heap.size + 1, 3, none⟩) (by simp) _
set_option maxRecDepth 100000 in
set_option maxHeartbeats 1000000 in
theorem StDoRe_any (Bw gs gl most rate : Nat) (t : List UInt8) (p n : Int) (A : Option Addr) (m c : Nat) (w : World) (h : StAt w Bw gs gl most rate t) :
    Calls Tryz.prog 24 #[.pointer (some ⟨gs, 0, none⟩), .agg #[.int .i64 8, .int .i64 p, .int .i64 n, .slice A m c]] w fun e w' => e = .returned (.agg (resZ 0)) ∧ ((∃ gl', StAt w' Bw gs gl' most rate t) ∧ Below Bw w w' ∧ FrS w w') := by
  obtain ⟨rs, hs, hn127⟩ : ∃ rs, IsSuf (symL t) rs ∧ t.length ≤ 127 := by
    obtain ⟨rs, gk, gp, ga, vl, vo, vt, B, tk, hs, hl, hn127⟩ := h.tp
    exact ⟨rs, hs, hn127⟩
  have hb : Below w.heap.size w ((w.alloc (.cells #[.int .i64 8, .int .i64 p, .int .i64 n, .slice A m c] 29)).alloc (.cells #[.int .i64 0, .int .i64 0, .slice none 0 0, .slice none 0 0] 41)) := ((Below.refl _ _).alloc (Nat.le_refl _) _).alloc (by simp) _
  have hst := h.vb (Vis.of_below hb)
  have hbk : Bk ((w.alloc (.cells #[.int .i64 8, .int .i64 p, .int .i64 n, .slice A m c] 29)).alloc (.cells #[.int .i64 0, .int .i64 0, .slice none 0 0, .slice none 0 0] 41)) w.heap.size 29 #[.int .i64 8, .int .i64 p, .int .i64 n, .slice A m c] := (Bk.new w _ _).alloc _
  have hbr := Bk.new (w.alloc (.cells #[.int .i64 8, .int .i64 p, .int .i64 n, .slice A m c] 29)) 41 #[.int .i64 0, .int .i64 0, .slice none 0 0, .slice none 0 0]
  have c0 := hbk.cell 0
  have hg : (w.alloc (.cells #[.int .i64 8, .int .i64 p, .int .i64 n, .slice A m c] 29)).heap.size = w.heap.size + 1 := by simp
  have hbw : Bw ≤ w.heap.size := by have := h.low; have := h.blk.lt; omega
  have hbr' : Bk ((w.alloc (.cells #[.int .i64 8, .int .i64 p, .int .i64 n, .slice A m c] 29)).alloc (.cells #[.int .i64 0, .int .i64 0, .slice none 0 0, .slice none 0 0] 41)) (w.heap.size + 1) 41 #[.int .i64 0, .int .i64 0, .slice none 0 0, .slice none 0 0] := hg ▸ hbr
  have Hst := Lib.hid hst
  have Hb := Lib.hid hb
  have Hbr := Lib.hid hbr'
  have Hs := Lib.hid hs
  clear h hb hbk hst hbr hg hbr' hs
  go_enter Tryz.func24, Tryz.ntmps24
  go_wp2_with fail
  have hsv := StSave_any Bw gs gl most rate t rs _ Hst.out Hs.out
  unfold SavePost at hsv
  refine hsv.mono ?_
  clear hsv
  rintro e w1 ⟨A1, c1, rfl, hm1, hv1⟩
  have Hst1 := Lib.hid (Hst.out.vb hv1.1)
  have Hbr1 := Lib.hid (hv1.1.bk Hbr.out (by decide) (by decide))
  have Hb1 := Lib.hid ((Hb.out.mono hbw).trans (VB.to_below hv1 (by have := Hb.out.size; omega)))
  have Hf1 := Lib.hid ((FrS.of_below Hb.out).trans (FrS.of_vis hv1.1))
  have Hm1 := Lib.hid hm1
  obtain ⟨nb, hnb⟩ : ∃ nb, (snapB (lastL (symL t) rs) rs most rate t.length).length = nb := ⟨_, rfl⟩
  have hld := StLoad_any Bw gs gl most rate A1 _ c1 t rs w1 Hst1.out Hs.out hn127 rfl hm1.rd hm1.cap hm1.max
  rw [hnb] at hld ⊢
  have Hld := Lib.hid hld
  clear hm1 hv1 Hst Hbr Hb hld hnb
  go_wp2_with fail
  refine Hld.out.mono ?_
  rintro e w2 ⟨rfl, ⟨gl', hst2⟩, hb2, hf2⟩
  have s1 := hf2 _ _ _ (by decide) (by decide) (by decide) Hbr1.out
  have hb12 := Hb1.out.trans hb2
  have Hf2 := Lib.hid (Hf1.out.trans hf2)
  have Hst2 := Lib.hid hst2
  have Hb2 := Lib.hid hb12
  have j0 := s1.cell 0
  have j1 := s1.cell 1
  have j2 := s1.cell 2
  have j3 := s1.cell 3
  have f0 := s1.frozen 0
  have f1 := s1.frozen 1
  have f2 := s1.frozen 2
  have f3 := s1.frozen 3
  have S1 := Lib.hid s1
  clear s1 hb2 hf2 hst2 hb12 Hld Hbr1 Hb1 Hf1 Hm1 Hst1
  go_wp2_with fail
  have hs := (((S1.out.set 0 (.int .i64 0)).set 1 (.int .i64 0)).set 2 (.slice none 0 0)).set 3 (.slice none 0 0)
  refine stdo_ret (Q := fun w' => (∃ gl', StAt w' Bw gs gl' most rate t) ∧ Below Bw w w' ∧ FrS w w') (.inl rfl) rfl (by simpa [resZ] using hs) ?_
  have b1 := S1.out.set 0 (.int .i64 0)
  have b2 := b1.set 1 (.int .i64 0)
  have b3 := b2.set 2 (.slice none 0 0)
  exact ⟨⟨gl', ((((Hst2.out.far S1.out _).far b1 _).far b2 _).far b3 _)⟩,
    (((Hb2.out.setCell (p := ⟨w.heap.size + 1, 0, none⟩) (by show Bw ≤ w.heap.size + 1; omega) _).setCell (p := ⟨w.heap.size + 1, 1, none⟩) (by show Bw ≤ w.heap.size + 1; omega) _).setCell (p := ⟨w.heap.size + 1, 2, none⟩) (by show Bw ≤ w.heap.size + 1; omega) _).setCell (p := ⟨w.heap.size + 1, 3, none⟩) (by show Bw ≤ w.heap.size + 1; omega) _,
    (((Hf2.out.far (by omega) _).far (by omega) _).far (by omega) _).far (by omega) _⟩
end Go.Proofs.YtnileogagoipiaaGreatDoor
namespace Go.Proofs.YtnileogagoipiaaGreatDoor
open Go.RowKit
set_option linter.unusedVariables false
set_option linter.unusedSimpArgs false
set_option maxRecDepth 100000 in
set_option maxHeartbeats 1000000 in
theorem StNew_any (most rate : Nat) (w : World) (hm : most ≤ 2147483648) (h1 : 1 ≤ rate) (h2 : rate ≤ 64) :
    Calls Tryz.prog 15 #[.int .i64 (most : Int), .int .i64 (rate : Int)] w fun e w' => ∃ gs gl, e = .returned (.tuple #[.pointer (some ⟨gs, 0, none⟩), .int .i64 0]) ∧ StAt w' w.heap.size gs gl most rate [] ∧ Below w.heap.size w w' := by
  have hnew := LiveNew_any rate none 0 0 w.heap.size [] [] 0 rfl rfl w (Rd.nil _ _ _ _) (fun s hs => by cases hs) (Nat.le_refl _) (by omega) (by omega) h1 h2
  have n1 : ¬ ((most : Int) < 0) := by omega
  have n2 : ¬ ((most : Int) > 2147483648) := by omega
  have n3 : decide ((most : Int) > 2147483648) = false := decide_eq_false n2
  have Hnew := Lib.hid hnew
  clear hnew
  go_enter Tryz.func15, Tryz.ntmps15
  go_wp2_with fail
  refine Hnew.out.mono ?_
  rintro e w1 ⟨gl, gk, gp, ga, vl, vo, vt, B', tk, rs, hs, rfl, hgl, hla, htk, hb⟩
  have hal : Below w1.heap.size w1 (w1.alloc (.cells #[.pointer (some ⟨gl, 0, none⟩), .int .i64 (most : Int)] 61)) := (Below.refl _ _).alloc (Nat.le_refl _) _
  have htp : TpAt w1 w.heap.size gl [] rate := ⟨rs, gk, gp, ga, vl, vo, vt, B', tk, hs, ⟨hla.blk, hla.walk, hla.perm⟩, by decide⟩
  have hst : StAt (w1.alloc (.cells #[.pointer (some ⟨gl, 0, none⟩), .int .i64 (most : Int)] 61)) w.heap.size w1.heap.size gl most rate [] :=
    ⟨Bk.new _ _ _, hb.size, htp.vis (Vis.of_below hal), by simp, hm, h1, h2⟩
  have Hst := Lib.hid hst
  have Hb := Lib.hid (hb.trans (hal.mono hb.size))
  clear hst hal hb hla hs htk htp Hnew
  go_wp2_with fail
  go_ret2
  exact ⟨_, gl, rfl, Hst.out, Hb.out⟩
end Go.Proofs.YtnileogagoipiaaGreatDoor
