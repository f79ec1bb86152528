/- The walk of the wave's New: the wave owns its blocks (WaveE). Conditions: at most 128 symbols, below 257. The walk of the wave's Insert. Conditions: symbols below 257; at most 127 ahead of it. The walk of the wave's Delete. Conditions: a place that is there; symbols below 257; at most 128. The walk of the tally's Add of -1. Conditions: the symbol stands there. A walk that owns its blocks (WalkE), over a tally of its own; the walks of walk's Back, Put, Cut, Change, Count. Conditions: symbols below 257; at most 128. -/
import Derived.Test.YthkkcelfgcholaaGreatQFnWNew
import Derived.Test.YthkkcelfgcholaaGreatPkEB
import Derived.Test.YthkkcelfgcholaaGreatQFnWGet2
import Derived.Test.YthkkcelfgcholaaGreatPkF
import Derived.Test.YthkkcelfgcholaaGreatQFnBack
namespace Go.Proofs.YthkkcelfgcholaaGreat
open Go.RowKit
set_option linter.unusedVariables false
set_option linter.unusedSimpArgs false
theorem TreeE.keepT {w w' : World} {F P : Nat → Prop} {gt : Nat} {bs : List Bool} (h : TreeE w P gt bs) (k : Keep F w w') (hf : ∀ b, F b → ∃ t cs, Bk w b t cs ∧ (t = 82 ∨ t = 85)) : TreeE w' P gt bs :=
  h.keep k fun b t cs ht hb _ f => by
    obtain ⟨t', cs', hb', h'⟩ := hf b f
    rw [(bk_inj hb hb').1] at ht
    rcases h' with rfl | rfl <;> (revert ht; decide)
/-- A tree's blocks are of a tree's types. -/
theorem TreeE.typed {w : World} {F : Nat → Prop} {gt : Nat} {bs : List Bool} (h : TreeE w F gt bs) : TreeE w (fun b => F b ∧ ∃ t cs, Bk w b t cs ∧ t ∈ [117, 108, 120, 147, 4, 3]) gt bs := by
  have har : ∀ {ga : Nat} {tk : List Bool} {fr : List Nat}, ArenaE w F ga tk fr → ArenaE w (fun b => F b ∧ ∃ t cs, Bk w b t cs ∧ t ∈ [117, 108, 120, 147, 4, 3]) ga tk fr := fun ⟨h0, At, ct, Af, cf, h1, h2, h3, h4, h5⟩ =>
    ⟨⟨h0, _, _, h1, by decide⟩, At, ct, Af, cf, h1, h2, h3, fun b hb => ⟨h4 b hb, by obtain ⟨cs, hc⟩ := own_ty h2 hb; exact ⟨_, cs, hc, by decide⟩⟩, fun b hb => ⟨h5 b hb, by obtain ⟨cs, hc⟩ := own_ty h3 hb; exact ⟨_, cs, hc, by decide⟩⟩⟩
  obtain ⟨h0, ga, v, ⟨h1, h2, h3, h4⟩ | ⟨h1, gl, cl, l8, h2, h3, h4, h5⟩ | ⟨h1, h2, gl, cl, gb, h3, h4, h5, h6⟩⟩ := h
  · exact ⟨⟨h0, _, _, h3, by decide⟩, ga, v, .inl ⟨h1, ⟨h2, _, _, h4, by decide⟩, h3, h4⟩⟩
  · exact ⟨⟨h0, _, _, h3, by decide⟩, ga, v, .inr (.inl ⟨h1, gl, cl, l8, ⟨h2, by obtain ⟨cs, hc⟩ := own_ty h4 (b := gl) rfl; exact ⟨_, cs, hc, by decide⟩⟩, h3, h4, har h5⟩)⟩
  · exact ⟨⟨h0, _, _, h5.tree, by decide⟩, ga, v, .inr (.inr ⟨h1, h2, gl, cl, gb, ⟨h3, by obtain ⟨cs, hc⟩ := own_ty h5.row (b := gl) rfl; exact ⟨_, cs, hc, by decide⟩⟩, ⟨h4, _, _, h5.blk, by decide⟩, h5, har h6⟩)⟩
/-- The first m trees of the level lv, each in its colour. -/
def ShelfE (w : World) (own : Nat → Nat) (B : Nat) (v : Value) (L : List Nat) (lv m : Nat) : Prop :=
  ∃ G : Nat → Nat, w.ownsRow B 85 3 v m (shelfL G lv m) ∧ (∀ b, v.ownBlock = some b → own b = 2) ∧ ∀ p, p < m → TreeE w (fun b => own b = TC lv p) (G p) (bitsOf L lv p)
theorem ShelfE.keepW {w w' : World} {gv B : Nat} {own : Nat → Nat} {cs : Array Value} {v : Value} {L : List Nat} {lv m : Nat} (h : ShelfE w own B v L lv m) (k : Keep (fun b => b = gv) w w') (hw : Bk w gv 82 cs) : ShelfE w' own B v L lv m := by
  obtain ⟨G, h1, h2, h3⟩ := h
  refine ⟨G, own_same h1 fun b cs' _ hb => k.bk hb fun e => ?_, h2, fun p hp => (h3 p hp).keepT k fun b e => ?_⟩
  · have e' : b = gv := e
    subst e'
    exact absurd (bk_inj hb hw).1 (by decide)
  · have e' : b = gv := e
    subst e'
    exact ⟨_, cs, hw, .inl rfl⟩
theorem ShelfE.mono {w : World} {own own' : Nat → Nat} {B B' : Nat} {v : Value} {L : List Nat} {lv m : Nat} (h : ShelfE w own B v L lv m) (hB : B' ≤ B) (ho : ∀ b, b < w.heap.size → own b ≠ 0 → own' b = own b) : ShelfE w own' B' v L lv m := by
  obtain ⟨G, h1, h2, h3⟩ := h
  refine ⟨G, own_mono h1 hB, fun b hb => ?_, fun p hp => (h3 p hp).mono fun b hlt f => ?_⟩
  · have := h2 b hb
    rw [ho b (h1.lt b hb).2 (by omega)]
    exact this
  · have f' : own b = TC lv p := f
    rw [ho b hlt (by rw [f']; unfold TC; omega)]
    exact f'
structure RowsE (w : World) (own : Nat → Nat) (B gv : Nat) (S : Nat → Value) (L : List Nat) (lv : Nat) : Prop where
  bnd : ∀ b, own b ≠ 0 → B ≤ b ∧ b < w.heap.size
  gv2 : own gv = 2
  rows : ∀ j, j < lv → ShelfE w own B (S j) L j (2 ^ j)
theorem one_bnd {gv B n : Nat} (h : B ≤ gv ∧ gv < n) : ∀ b, (if b = gv then 2 else 0) ≠ 0 → B ≤ b ∧ b < n := fun b hb => by
  by_cases c : b = gv
  · subst c
    exact h
  · rw [if_neg c] at hb
    exact absurd rfl hb
/-- One tree more. -/
def ownT (own : Nat → Nat) (n : Nat) (v : Option Nat) (m c b : Nat) : Nat := if b < n then own b else if v = some b then 2 else if b < m then c else 0
theorem ShelfE.next {w w' : World} {own : Nat → Nat} {B gt lv p : Nat} {v v' : Value} {L : List Nat} {G : Nat → Nat} {H : Nat → Prop} (hlv : lv < 9) (hp : p < 2 ^ lv) (hown : w.ownsRow B 85 3 v p (shelfL G lv p)) (h2 : ∀ b, v.ownBlock = some b → own b = 2) (h3 : ∀ q, q < p → TreeE w (fun b => own b = TC lv q) (G q) (bitsOf L lv q))
    (hbn : ∀ b, own b ≠ 0 → b < w.heap.size) (k : Keep H w w') (hH : ∀ b, H b → ∃ t cs, Bk w b t cs ∧ (t = 82 ∨ t = 85)) (ht : TreeE w' (fun b => w.heap.size ≤ b) gt (bitsOf L lv p)) (hown' : w'.ownsRow B 85 3 v' (p + 1) (shelfL G lv p ++ [.pointer (some ⟨gt, 0, none⟩), .int .i64 (lv : Int), .int .i64 (p : Int)]))
    (hv : v'.ownBlock = v.ownBlock ∨ ∃ g, v'.ownBlock = some g ∧ w.heap.size ≤ g) : ShelfE w' (ownT own w.heap.size v'.ownBlock w'.heap.size (TC lv p)) B v' L lv (p + 1) := by
  have hold : ∀ b, b < w.heap.size → ownT own w.heap.size v'.ownBlock w'.heap.size (TC lv p) b = own b := fun b hb => by unfold ownT; rw [if_pos hb]
  refine ⟨fun i => if i = p then gt else G i, ?_, fun b hb => ?_, fun q hq => ?_⟩
  · rw [shelfL_succ, shelfL_congr (fun i => if i = p then gt else G i) G lv p (fun i hi => if_neg (by omega)), if_pos rfl]
    exact hown'
  · rcases hv with e | ⟨g, e, hg⟩
    · rw [e] at hb
      rw [hold b (hown.lt b hb).2]
      exact h2 b hb
    · rw [e] at hb
      injection hb with hb
      subst hb
      unfold ownT
      rw [if_neg (by omega), if_pos e]
  · show TreeE w' _ (if q = p then gt else G q) _
    by_cases c : q = p
    · subst c
      rw [if_pos rfl]
      refine ht.typed.mono fun b hlt f => ?_
      obtain ⟨f1, t, cs, hb, hty⟩ := f
      unfold ownT
      rw [if_neg (by omega), if_neg (fun e => ?_), if_pos hlt]
      obtain ⟨cs', hc⟩ := own_ty hown' e
      rw [(bk_inj hb hc).1] at hty
      revert hty
      decide
    · rw [if_neg c]
      refine ((h3 q (by omega)).keepT k hH).mono fun b hlt f => ?_
      have f' : own b = TC lv q := f
      have hb := hbn b (by rw [f']; unfold TC; omega)
      rw [hold b hb]
      exact f'
theorem ownT_bnd {own : Nat → Nat} {n m c B : Nat} {v : Option Nat} (hb : ∀ b, own b ≠ 0 → B ≤ b ∧ b < n) (hn : n ≤ m) (hB : B ≤ n) (hv : ∀ b, v = some b → b < m) : ∀ b, ownT own n v m c b ≠ 0 → B ≤ b ∧ b < m := fun b hne => by
  unfold ownT at hne
  by_cases c1 : b < n
  · rw [if_pos c1] at hne
    have := hb b hne
    exact ⟨this.1, by omega⟩
  · rw [if_neg c1] at hne
    by_cases c2 : v = some b
    · have := hv b c2
      exact ⟨by omega, this⟩
    · rw [if_neg c2] at hne
      by_cases c3 : b < m
      · exact ⟨by omega, c3⟩
      · rw [if_neg c3] at hne
        exact absurd rfl hne
set_option maxRecDepth 100000 in
set_option maxHeartbeats 4000000 in
theorem WaveNewE_any (A : Option Addr) (m0 c B : Nat) (L : List Nat) (w : World) (hr : Rd w B 1 A m0 (L.map sv)) (hB : B ≤ w.heap.size) (hm : m0 ≤ 128) (hL : ∀ s ∈ L, s < 257) :
    Calls Tryz.prog 74 #[.slice A m0 c] w fun e w' => ∃ gv own, e = .returned (.tuple #[.pointer (some ⟨gv, 0, none⟩), .int .i64 0]) ∧ WaveE w' w.heap.size own gv L ∧ Below w.heap.size w w' := by
  have hll : L.length = m0 := by simpa using hr.1
  have Hr := Lib.hid hr
  have HL := Lib.hid hL
  have Hll := Lib.hid hll
  have HB := Lib.hid hB
  obtain ⟨gv, hgv⟩ : ∃ gv, w.heap.size = gv := ⟨_, rfl⟩
  obtain ⟨W, hW⟩ : ∃ W, w.alloc (.cells #[.slice none 0 0, .slice none 0 0, .slice none 0 0, .slice none 0 0, .slice none 0 0, .slice none 0 0, .slice none 0 0, .slice none 0 0, .slice none 0 0, .int .i64 (m0 : Int), .int .i64 0] 82) = W := ⟨_, rfl⟩
  have hbw : Bk W gv 82 (wcells (fun _ => .slice none 0 0) (m0 : Int) 0) := by
    rw [← hW, ← hgv]
    have h := Bk.new w 82 #[.slice none 0 0, .slice none 0 0, .slice none 0 0, .slice none 0 0, .slice none 0 0, .slice none 0 0, .slice none 0 0, .slice none 0 0, .slice none 0 0, .int .i64 (m0 : Int), .int .i64 0]
    unfold wcells
    exact h
  have hbW : Below w.heap.size w W := by
    rw [← hW]
    exact (Below.refl _ _).alloc (Nat.le_refl _) _
  have Hbw := Lib.hid hbw
  have HbW := Lib.hid hbW
  have HW := Lib.hid hW
  have Hgv := Lib.hid hgv
  clear hr hL hll hbw hbW hW hB
  go_enter Tryz.func74, Tryz.ntmps74
  go_wp2_with fail
  rw [HW.out]
  try rw [Hgv.out]
  go_loopw [20] (fun i wr => ∃ k : Nat, k ≤ m0 ∧ i = .int .i64 k ∧ Below W.heap.size W wr) (fun i _ => m0 - (intOf i).toNat)
  case atStart => exact ⟨0, by omega, rfl, Below.refl _ _⟩
  case round =>
    obtain ⟨k, hk, rfl, hb⟩ := hrel
    have hsz := hb.size
    have hsW := HbW.out.size
    by_cases hlt : k < m0
    · have hkl : k < L.length := by rw [Hll.out]; exact hlt
      obtain ⟨s, hs⟩ : ∃ s, L[k]? = some s := ⟨L[k], List.getElem?_eq_getElem hkl⟩
      obtain ⟨b, off, u, rfl, hbl, hu, hc⟩ := (((Hr.out.mono HB.out).below HbW.out).below (hb.mono hsW)).get hlt
      rw [List.getElem?_map, hs] at hu
      simp at hu
      subst hu
      have hs257 : s < 257 := HL.out s (List.mem_of_getElem? hs)
      unfold sv at hc
      clear hs
      go_wp2_with fail
      refine (SymIs_any s _ hs257).mono ?_
      rintro e w1 ⟨rfl, hb1⟩
      have hb2 := hb.trans (hb1.mono hsz)
      go_wp2_with fail
      go_roundw
      case rel => exact ⟨k + 1, by omega, by go_num, hb2⟩
      case measure => simp [intOf]; omega
    · have hkm : k = m0 := by omega
      subst hkm
      have HB1 := Lib.hid hb
      clear hb
      go_wp2_with fail
      go_loopw [28] (fun i wr => ∃ lv : Nat, lv ≤ 9 ∧ i = .int .i64 lv ∧ Below w.heap.size w wr ∧ W.heap.size ≤ wr.heap.size ∧ ∃ S own0, Bk wr gv 82 (wcells S (k : Int) 0) ∧ RowsE wr own0 w.heap.size gv S L lv ∧ (∀ j, lv ≤ j → S j = .slice none 0 0)) (fun i _ => 9 - (intOf i).toNat)
      case atStart => exact ⟨0, by omega, rfl, HbW.out.trans (HB1.out.mono hsW), hsz, _, fun b => if b = gv then 2 else 0, Hbw.out.below HB1.out Hbw.out.lt, ⟨one_bnd ⟨by have := Hgv.out; omega, Nat.lt_of_lt_of_le Hbw.out.lt hsz⟩, if_pos rfl, fun j hj => absurd hj (by omega)⟩, fun j _ => rfl⟩
      case round =>
        obtain ⟨lv, hlv, rfl, hbw, hWr, S, own0, hbS, hrows, hnils⟩ := hrel
        by_cases hl9 : lv < 9
        · obtain ⟨Wv, hWv⟩ : ∃ Wv, Wv = wr := ⟨_, rfl⟩
          subst hWv
          obtain ⟨m, hm⟩ : ∃ m, 2 ^ lv = m := ⟨_, rfl⟩
          have hm9 : m ≤ 512 := by
            rw [← hm]
            exact Nat.le_trans (Nat.pow_le_pow_right (by decide) (by omega : lv ≤ 9)) (by decide)
          have hmk := run_bits m (by omega)
          have hm1 : (2 : Int) ^ lv = (m : Int) := by
            rw [← hm]
            push_cast
            rfl
          obtain ⟨gB, hgB⟩ : ∃ gB, Wv.heap.size = gB := ⟨_, rfl⟩
          obtain ⟨Wl, hWl⟩ : ∃ Wl, Wv.alloc (.cells (rowC (fun _ => .slice none 0 0) m) 106) = Wl := ⟨_, rfl⟩
          have hbl0 : Bk Wl gB 106 (rowC (fun _ => .slice none 0 0) m) := by
            rw [← hWl, ← hgB]
            exact Bk.new _ _ _
          have hbits0 := Bits.start Wl Wv.heap.size gB m hbl0
          have hbWl : Below Wv.heap.size Wv Wl := by
            rw [← hWl]
            exact (Below.refl _ _).alloc (Nat.le_refl _) _
          have Hbits0 := Lib.hid hbits0
          have HbWl := Lib.hid hbWl
          have HbS := Lib.hid hbS
          have Hrows := Lib.hid hrows
          have Hnils := Lib.hid hnils
          have Hbw2 := Lib.hid hbw
          have HWl := Lib.hid hWl
          have HgB := Lib.hid hgB
          have Hm := Lib.hid hm
          clear hbits0 hbWl hbS hrows hnils hbw hWl hbl0 hm
          go_wp2_with fail
          rw [HWl.out]
          obtain ⟨i0, hi0, hz0, hz1, hz2⟩ := info_parts bool_info
          have hd9 : decide ((lv : Int) < 9) = true := decide_eq_true (by omega)
          rw [hd9]
          go_loopw [37] (fun i wr2 => ∃ (j : Nat) (T : Nat → Value), j ≤ k ∧ i = .int .i64 j ∧ Bits wr2 Wv.heap.size gB m T (fun p => bitsOf (L.take j) lv p) ∧ Below Wv.heap.size Wv wr2 ∧ Wl.heap.size ≤ wr2.heap.size) (fun i _ => k - (intOf i).toNat)
          case atStart => exact ⟨0, _, by omega, rfl, by rw [List.take_zero]; exact Hbits0.out, HbWl.out, Nat.le_refl _⟩
          case round =>
            obtain ⟨j, T, hj, rfl, hbits, hb2, hs2⟩ := hrel
            have hsz2 := hb2.size
            by_cases hjk : j < k
            · have hjl : j < L.length := by rw [Hll.out]; exact hjk
              obtain ⟨s, hs⟩ : ∃ s, L[j]? = some s := ⟨L[j], List.getElem?_eq_getElem hjl⟩
              have hb3 : Below w.heap.size w wr := Hbw2.out.trans (hb2.mono Hbw2.out.size)
              obtain ⟨b0, off, u, rfl, hbl, hu, hc⟩ := ((Hr.out.mono HB.out).below hb3).get hjk
              rw [List.getElem?_map, hs] at hu
              simp at hu
              subst hu
              have hs257 : s < 257 := HL.out s (List.mem_of_getElem? hs)
              have htk : L.take (j + 1) = L.take j ++ [s] := by rw [List.take_add_one, hs]; rfl
              have htl : (L.take j).length ≤ 128 := by rw [List.length_take]; omega
              unfold sv at hc
              have Hbits := Lib.hid hbits
              have HTK := Lib.hid htk
              have Hb2 := Lib.hid hb2
              have hbW2 := hb3
              clear hs hbits htk hb2 hb3
              go_wp2_with fail
              refine (SymPath_any s lv _ hs257 (by omega)).mono ?_
              rintro e w1 ⟨rfl, hb4⟩
              obtain ⟨p, hp⟩ : ∃ p, pathN s lv = p := ⟨_, rfl⟩
              rw [hp]
              have hpm : p < m := by rw [← Hm.out, ← hp]; exact path_lt s lv hs257 (by omega)
              have hpI : (p : Int) < (m : Int) := by omega
              have hbits1 := Hbits.out.below hb4
              obtain ⟨xs, hxs⟩ : ∃ xs, bitsOf (L.take j) lv p = xs := ⟨_, rfl⟩
              obtain ⟨q, hq⟩ : ∃ q, xs.length = q := ⟨_, rfl⟩
              have hq128 : q ≤ 128 := by
                rw [← hq, ← hxs, bits_len]
                exact Nat.le_trans List.countP_le_length htl
              have hown := hbits1.own p hpm
              simp only [hxs, hq] at hown
              obtain ⟨A9, c9, hTp, hqc, _⟩ := own_shape hown
              have hTlt := hown.lt
              rw [hTp] at hown hTlt
              have ownB : Wv.heap.size ≤ w1.heap.size := Nat.le_trans hsz2 hb4.size
              have ow16 : (Value.slice A9 q c9).ownBlock ≠ some gB := fun e => own_bk_ne hown hbits1.blk (by decide) e.symm
              have hbk1 := hbits1.blk
              have hcp : w1.cell? ⟨gB, p, none⟩ = some (.slice A9 q c9) := by
                rw [← hTp]
                exact (hbk1.cell p).trans (rowC_get _ _ _ hpm)
              have hgBlt := hbk1.lt
              obtain ⟨b, hbb⟩ : ∃ b, bitB s lv = b := ⟨_, rfl⟩
              have Hbb := Lib.hid hbb
              have Hown := Lib.hid hown
              have Hbk1 := Lib.hid hbk1
              have Hbits1 := Lib.hid hbits1
              have Hp := Lib.hid hp
              have Hxs := Lib.hid hxs
              have Hq := Lib.hid hq
              have HTp := Lib.hid hTp
              have Hcp := Lib.hid hcp
              have Hb4 := Lib.hid hb4
              clear hbb hown hbk1 hbits1 hp hxs hq hTp hcp hb4
              go_wp2_with fail
              refine wp_region_any (by kernel_rfl) ?_
              refine wpAny_keep_tail 12 [44, 45, 46, 47, 48, 49, 50, 51, 52, 53, 54, 55] (fun b => (Value.slice A9 q c9).ownBlock = some b) 10 [10] (fun w2 => w2.ownsRow Wv.heap.size 4 1 (.slice A9 q c9) q (xs.map Value.bool)) (fun v w2 => w2.ownsRow Wv.heap.size 4 1 v (q + 1) (xs.map Value.bool ++ [.bool b]) ∧ (v.ownBlock = (Value.slice A9 q c9).ownBlock ∨ ∃ g, v.ownBlock = some g ∧ w1.heap.size ≤ g)) [is (.slice (some ⟨gB, 0, none⟩) m m), is (.int .i64 (p : Int)), is (.slice (some ⟨gB, 0, none⟩) m m), is (.int .i64 (p : Int)), is (.pointer (some ⟨gB, p, none⟩)), is (.slice A9 q c9), is (.int .i64 (s : Int)), is (.int .i64 (lv : Int)), is (.bool b), newBk (fun b => (Value.slice A9 q c9).ownBlock = some b) 4 #[.bool b] fun g => .slice (some ⟨g, 0, none⟩) 1 1, anyV, is (.pointer (some ⟨gB, p, none⟩))] _ _ rfl (by decide) (by kernel_rfl) (by kernel_rfl) (by kernel_rfl) (Hown.out) (fun w2 w3 h _ hg => own_below h hg) (fun _ _ _ ⟨h1, h2⟩ k => ⟨own_below h1 k, h2⟩) (by repeat' (first | exact stbk_is _ _ | exact stbk_any _ | exact stbk_newBk _ _ _ _ | (refine List.forall_mem_cons.2 ⟨?_, ?_⟩) | (intro p hp; cases hp))) ?_ ?_
              · refine steps_of_n ?_
                refine steps_cons ?_ ?_
                · refine step_on3 rfl rfl ?_
                  intro ev w5 hS hU hc hf hold hval a K ha hK
                  replace hS : Keep (fun b => (Value.slice A9 q c9).ownBlock = some b) w1 w5 := ⟨hS.os, hS.tape, hS.output, hS.size, hS.block⟩
                  clear hU
                  have e8 : ev (.tmp 8) = .slice (some ⟨gB, 0, none⟩) m m := hold 8 (by kernel_rfl)
                  go_simp
                  exact hK _ _ (kstep_grow (Below.refl _ _)) rfl
                refine steps_cons ?_ ?_
                · refine step_on3 rfl rfl ?_
                  intro ev w5 hS hU hc hf hold hval a K ha hK
                  replace hS : Keep (fun b => (Value.slice A9 q c9).ownBlock = some b) w1 w5 := ⟨hS.os, hS.tape, hS.output, hS.size, hS.block⟩
                  clear hU
                  have e11 : ev (.tmp 11) = .int .i64 (p : Int) := hold 11 (by kernel_rfl)
                  go_simp
                  exact hK _ _ (kstep_grow (Below.refl _ _)) rfl
                refine steps_cons ?_ ?_
                · refine step_on3 rfl rfl ?_
                  intro ev w5 hS hU hc hf hold hval a K ha hK
                  replace hS : Keep (fun b => (Value.slice A9 q c9).ownBlock = some b) w1 w5 := ⟨hS.os, hS.tape, hS.output, hS.size, hS.block⟩
                  clear hU
                  have e8 : ev (.tmp 8) = .slice (some ⟨gB, 0, none⟩) m m := hold 8 (by kernel_rfl)
                  go_simp
                  exact hK _ _ (kstep_grow (Below.refl _ _)) rfl
                refine steps_cons ?_ ?_
                · refine step_on3 rfl rfl ?_
                  intro ev w5 hS hU hc hf hold hval a K ha hK
                  replace hS : Keep (fun b => (Value.slice A9 q c9).ownBlock = some b) w1 w5 := ⟨hS.os, hS.tape, hS.output, hS.size, hS.block⟩
                  clear hU
                  have e11 : ev (.tmp 11) = .int .i64 (p : Int) := hold 11 (by kernel_rfl)
                  go_simp
                  exact hK _ _ (kstep_grow (Below.refl _ _)) rfl
                refine steps_cons ?_ ?_
                · refine step_on3 rfl rfl ?_
                  intro ev w5 hS hU hc hf hold hval a K ha hK
                  replace hS : Keep (fun b => (Value.slice A9 q c9).ownBlock = some b) w1 w5 := ⟨hS.os, hS.tape, hS.output, hS.size, hS.block⟩
                  clear hU
                  have e46 : ev (.tmp 46) = .slice (some ⟨gB, 0, none⟩) m m := hval 2 46 (by kernel_rfl) rfl
                  have e47 : ev (.tmp 47) = .int .i64 (p : Int) := hval 3 47 (by kernel_rfl) rfl
                  go_simp
                  exact hK _ _ (kstep_grow (Below.refl _ _)) rfl
                refine steps_cons ?_ ?_
                · refine step_on3 rfl rfl ?_
                  intro ev w5 hS hU hc hf hold hval a K ha hK
                  replace hS : Keep (fun b => (Value.slice A9 q c9).ownBlock = some b) w1 w5 := ⟨hS.os, hS.tape, hS.output, hS.size, hS.block⟩
                  clear hU
                  have e48 : ev (.tmp 48) = .pointer (some ⟨gB, p, none⟩) := hval 4 48 (by kernel_rfl) rfl
                  have c49 : w5.cell? ⟨gB, p, none⟩ = some (.slice A9 q c9) := (hS.cell (p := ⟨gB, p, none⟩) hgBlt ow16).trans Hcp.out
                  go_simp
                  exact hK _ _ (kstep_grow (Below.refl _ _)) rfl
                refine steps_cons ?_ ?_
                · refine step_on3 rfl rfl ?_
                  intro ev w5 hS hU hc hf hold hval a K ha hK
                  replace hS : Keep (fun b => (Value.slice A9 q c9).ownBlock = some b) w1 w5 := ⟨hS.os, hS.tape, hS.output, hS.size, hS.block⟩
                  clear hU
                  have e10 : ev (.tmp 10) = .int .i64 (s : Int) := hold 10 (by kernel_rfl)
                  go_simp
                  exact hK _ _ (kstep_grow (Below.refl _ _)) rfl
                refine steps_cons ?_ ?_
                · refine step_on3 rfl rfl ?_
                  intro ev w5 hS hU hc hf hold hval a K ha hK
                  replace hS : Keep (fun b => (Value.slice A9 q c9).ownBlock = some b) w1 w5 := ⟨hS.os, hS.tape, hS.output, hS.size, hS.block⟩
                  clear hU
                  have e7 : ev (.tmp 7) = .int .i64 (lv : Int) := hold 7 (by kernel_rfl)
                  go_simp
                  exact hK _ _ (kstep_grow (Below.refl _ _)) rfl
                refine steps_cons ?_ ?_
                · refine step_on3 rfl rfl ?_
                  intro ev w5 hS hU hc hf hold hval a K ha hK
                  replace hS : Keep (fun b => (Value.slice A9 q c9).ownBlock = some b) w1 w5 := ⟨hS.os, hS.tape, hS.output, hS.size, hS.block⟩
                  clear hU
                  have e50 : ev (.tmp 50) = .int .i64 (s : Int) := hval 6 50 (by kernel_rfl) rfl
                  have e51 : ev (.tmp 51) = .int .i64 (lv : Int) := hval 7 51 (by kernel_rfl) rfl
                  go_simp
                  refine (SymBit_any s lv w5 hs257 hl9).mono ?_
                  rintro e w8 ⟨rfl, hb8⟩
                  rw [Hbb.out]
                  exact hK _ _ (kstep_grow hb8) rfl
                refine steps_cons ?_ ?_
                · refine step_on3 rfl rfl ?_
                  intro ev w5 hS hU hc hf hold hval a K ha hK
                  replace hS : Keep (fun b => (Value.slice A9 q c9).ownBlock = some b) w1 w5 := ⟨hS.os, hS.tape, hS.output, hS.size, hS.block⟩
                  clear hU
                  have e52 : ev (.tmp 52) = .bool b := hval 8 52 (by kernel_rfl) rfl
                  go_simp
                  exact hK _ _ (kstep_grow ((Below.refl _ _).alloc (Nat.le_refl _) _)) ⟨_, rfl, Bk.new _ _ _, fun h => by have := (hTlt _ h).2; have := hS.size; omega⟩
                refine steps_cons ?_ ?_
                · refine step_on3 rfl rfl ?_
                  intro ev w5 hS hU hc hf hold hval a K ha hK
                  replace hS : Keep (fun b => (Value.slice A9 q c9).ownBlock = some b) w1 w5 := ⟨hS.os, hS.tape, hS.output, hS.size, hS.block⟩
                  have hpre := hU rfl
                  clear hU
                  have e49 : ev (.tmp 49) = .slice A9 q c9 := hval 5 49 (by kernel_rfl) rfl
                  have p53 : (newBk (fun b => (Value.slice A9 q c9).ownBlock = some b) 4 #[.bool b] fun g => .slice (some ⟨g, 0, none⟩) 1 1) (ev (.tmp 53)) w5 := hval 9 53 (by kernel_rfl) rfl
                  obtain ⟨g53, e53, hb53, hn53⟩ := p53
                  subst ha
                  have hw5 : Wv.heap.size ≤ w5.heap.size := Nat.le_trans ownB hS.size
                  have hws5 := hS.size
                  refine wp_append_rd w5 (.tmp 49) (.tmp 53) _ rfl Wv.heap.size 4 i0 (.bool false) 1 1 Tryz.underlying106 hi0 hz0 hz1 hz2 rfl (by decide) (.slice A9 q c9) q (xs.map Value.bool) e49 hpre w5.heap.size (some ⟨g53, 0, none⟩) 1 1 [.bool b] e53 (rd_one hb53) (by simp [Value.oneCell']) (by unfold maxLen; omega) (by omega) hw5 ?_
                  intro v6 w6 hown6 hg6 hat6
                  refine hK _ _ (kstep_keep ⟨hg6.os, hg6.tape, hg6.output, hg6.size, fun k hk hn => hg6.block k hk (fun e => hn e.symm)⟩) ⟨hown6, ?_⟩
                  rcases hat6 with h6 | h6
                  · exact .inl h6
                  · exact .inr ⟨_, h6, hws5⟩
                refine steps_cons ?_ ?_
                · refine step_on3 rfl rfl ?_
                  intro ev w5 hS hU hc hf hold hval a K ha hK
                  replace hS : Keep (fun b => (Value.slice A9 q c9).ownBlock = some b) w1 w5 := ⟨hS.os, hS.tape, hS.output, hS.size, hS.block⟩
                  clear hU
                  have e44 : ev (.tmp 44) = .slice (some ⟨gB, 0, none⟩) m m := hval 0 44 (by kernel_rfl) rfl
                  have e45 : ev (.tmp 45) = .int .i64 (p : Int) := hval 1 45 (by kernel_rfl) rfl
                  go_simp
                  exact hK _ _ (kstep_grow (Below.refl _ _)) rfl
                exact steps_nil
              · intro ev w6 f hS hval
                replace hS : Keep (fun b => (Value.slice A9 q c9).ownBlock = some b) w1 w6 := ⟨hS.os, hS.tape, hS.output, hS.size, hS.block⟩
                have p54 : (fun v w2 => w2.ownsRow Wv.heap.size 4 1 v (q + 1) (xs.map Value.bool ++ [.bool b]) ∧ (v.ownBlock = (Value.slice A9 q c9).ownBlock ∨ ∃ g, v.ownBlock = some g ∧ w1.heap.size ≤ g)) (ev (.tmp 54)) w6 := hval 10 54 (by decide) rfl
                have e55 : ev (.tmp 55) = .pointer (some ⟨gB, p, none⟩) := hval 11 55 (by decide) rfl
                simp only [putsOf, List.foldl_cons, List.foldl_nil, Act.put, List.setIfInBounds_toArray, List.set_cons_zero, List.set_cons_succ]
                rw [e55]
                clear hval
                obtain ⟨hown6, hat6⟩ := p54
                have hpush := Bits.push (v := ev (.tmp 54)) (b := b) Hbits1.out hpm (by rw [HTp.out]; exact hS) (by simp only [Hxs.out, Hq.out]; exact hown6) (by rw [HTp.out]; exact hat6)
                obtain ⟨A8, c8, e54, _, _⟩ := own_shape hown6
                rw [e54] at hpush ⊢
                have hb6 := hS.bk Hbk1.out ow16
                have c55 : w6.cell? ⟨gB, p, none⟩ = some (.slice A9 q c9) := (hS.cell (p := ⟨gB, p, none⟩) hgBlt ow16).trans Hcp.out
                have f55 := hb6.frozen p
                have Hpush := Lib.hid hpush
                have hgB6 := hb6.lt
                clear hpush hb6 hown6 hat6
                change wpAny Tryz.prog Region.Mode.any _ _ (1 + f) (firstN 12 13) _ w6
                rw [Nat.add_comm 1 f]
                refine wpAny_one (f := f) (i := 12) (by kernel_rfl) ?_
                refine wpOp_run rfl rfl ?_
                generalize hK : wpAny Tryz.prog _ _ _ f _ = K5
                go_simp
                subst hK
                refine wpAny_all (by kernel_rfl) ?_
                have hb7 : Below Wv.heap.size Wv (w6.setCell ⟨gB, p, none⟩ (.slice A8 (q + 1) c8)) :=
                  ((Hb2.out.trans (Hb4.out.mono hsz2)).trans (hS.to_below ownB (fun b hb h => by have := (hTlt _ h).1; omega))).setCell (by rw [HgB.out]; exact Nat.le_refl _) _
                have hs7 : Wl.heap.size ≤ (w6.setCell ⟨gB, p, none⟩ (.slice A8 (q + 1) c8)).heap.size := by
                  have h1 := Hb4.out.size
                  have h2 := hS.size
                  have h3 : (w6.setCell ⟨gB, p, none⟩ (.slice A8 (q + 1) c8)).heap.size = w6.heap.size := by simp [World.setCell]
                  omega
                have hcong := Hpush.out.congr (R' := fun p' => bitsOf (L.take (j + 1)) lv p') (fun p' hp' => by
                  rw [HTK.out, bits_snoc, Hp.out, Hbb.out]
                  by_cases e : p' = p
                  · subst e
                    simp
                  · simp [e])
                have Hcong := Lib.hid hcong
                clear hcong Hpush
                go_wp2_with fail
                go_roundw
                case rel => exact ⟨j + 1, _, by omega, by go_num, Hcong.out, hb7, hs7⟩
                case measure => simp [intOf]; omega
            · have hjk2 : j = k := by omega
              subst hjk2
              have hLk : L.take j = L := List.take_of_length_le (by rw [Hll.out]; omega)
              rw [hLk] at hbits
              have Hbits := Lib.hid hbits
              obtain ⟨W3, hW3⟩ : ∃ W3, W3 = wr := ⟨_, rfl⟩
              subst hW3
              have hwW3 : w.heap.size ≤ W3.heap.size := Nat.le_trans Hbw2.out.size hb2.size
              have Hb2 := Lib.hid hb2
              clear hbits hb2
              obtain ⟨i2, gi2, gz0, gz1, gz2⟩ := info_parts shelf_info
              go_wp2_with fail
              go_loopw [59] (fun i wr4 => ∃ (p : Nat) (v : Value), p ≤ m ∧ i = .int .i64 p ∧ Bits wr4 Wv.heap.size gB m T (fun p => bitsOf L lv p) ∧ Keep (fun b => b = gv) Wv wr4 ∧ W3.heap.size ≤ wr4.heap.size ∧ Bk wr4 gv 82 (wcells (fun i => if i = lv then v else S i) (j : Int) 0) ∧ ∃ own4 : Nat → Nat, (∀ b, b < Wv.heap.size → own4 b = own0 b) ∧ (∀ b, own4 b ≠ 0 → w.heap.size ≤ b ∧ b < wr4.heap.size) ∧ ShelfE wr4 own4 W3.heap.size v L lv p) (fun i _ => m - (intOf i).toNat)
              case atStart =>
                refine ⟨0, .slice none 0 0, by omega, rfl, Hbits.out, (Keep.of_below Hb2.out), Nat.le_refl _, ?_, own0, fun _ _ => rfl, fun b hb => ⟨(Hrows.out.bnd b hb).1, Nat.lt_of_lt_of_le (Hrows.out.bnd b hb).2 Hb2.out.size⟩, (fun _ => 0), World.ownsRow_nil _ _ _ _, fun b hb => (by cases hb), fun p hp => absurd hp (by omega)⟩
                have hSe : (fun i => if i = lv then Value.slice none 0 0 else S i) = S := by
                  funext i
                  by_cases e : i = lv
                  · rw [if_pos e, e, Hnils.out lv (Nat.le_refl _)]
                  · rw [if_neg e]
                rw [hSe]
                exact HbS.out.below Hb2.out HbS.out.lt
              case round =>
                obtain ⟨p, v, hp, rfl, hbits4, hk4, hs4, hb4, own4, ho4, hbn4, hrow4⟩ := hrel
                by_cases hpm : p < m
                · have hown := hbits4.own p hpm
                  obtain ⟨xs, hxs⟩ : ∃ xs, bitsOf L lv p = xs := ⟨_, rfl⟩
                  obtain ⟨q, hq⟩ : ∃ q, xs.length = q := ⟨_, rfl⟩
                  have hq128 : q ≤ 128 := by
                    rw [← hq, ← hxs, bits_len]
                    exact Nat.le_trans List.countP_le_length (by rw [Hll.out]; exact hm)
                  simp only [hxs, hq] at hown
                  obtain ⟨A9, c9, hTp, hqc, _⟩ := own_shape hown
                  rw [hTp] at hown
                  have hcp : wr.cell? ⟨gB, p, none⟩ = some (.slice A9 q c9) := by
                    rw [← hTp]
                    exact (hbits4.blk.cell p).trans (rowC_get _ _ _ hpm)
                  obtain ⟨G, hownS, hv2, htr⟩ := hrow4
                  obtain ⟨As, cs, hv, hpc, _⟩ := own_shape hownS
                  subst hv
                  have hSlt := hownS.lt
                  have hgvF : (Value.slice As p cs).ownBlock ≠ some gv := fun e => own_bk_ne hownS hb4 (by decide) e.symm
                  have hdis : ∀ t, 85 ≠ t → ∀ b cs', Bk wr b t cs' → (Value.slice As p cs).ownBlock ≠ some b := fun t ht b cs' hb e => own_bk_ne hownS hb ht e.symm
                  have hfty : ∀ b, (Value.slice As p cs).ownBlock = some b → ∃ t cs', Bk wr b t cs' ∧ (t = 82 ∨ t = 85) := fun b hb => by
                    obtain ⟨cs', h⟩ := own_ty hownS hb
                    exact ⟨_, cs', h, .inr rfl⟩
                  have c71 : wr.cell? ⟨gv, lv, none⟩ = some (.slice As p cs) := (hb4.cell lv).trans (by rw [wcells_at _ _ _ _ hl9, if_pos rfl])
                  have hgvlt := hb4.lt
                  have hgBlt := hbits4.blk.lt
                  have hm512 : p + 1 ≤ 512 := by omega
                  have hpI : (p : Int) < (m : Int) := by omega
                  have hsWv := Hb2.out.size
                  have Hown := Lib.hid hown
                  have HownS := Lib.hid hownS
                  have Htr := Lib.hid htr
                  have Hv2 := Lib.hid hv2
                  have Ho4 := Lib.hid ho4
                  have Hbn4 := Lib.hid hbn4
                  have Hdis := Lib.hid hdis
                  have Hfty := Lib.hid hfty
                  have C71 := Lib.hid c71
                  have Hb4 := Lib.hid hb4
                  have Hk4 := Lib.hid hk4
                  have Hbits4 := Lib.hid hbits4
                  have Hxs := Lib.hid hxs
                  clear hown hownS htr hv2 ho4 hbn4 hdis hfty c71 hb4 hk4 hbits4 hxs hTp hq
                  go_wp2_with fail
                  refine wp_region_any (by kernel_rfl) ?_
                  refine wpAny_keep_tail 18 [64, 65, 66, 67, 68, 69, 70, 71, 72, 73, 74, 75, 76, 77, 78, 79, 80, 81] (fun b => (Value.slice As p cs).ownBlock = some b) 14 [14] (fun w2 => w2.ownsRow W3.heap.size 85 3 (.slice As p cs) p (shelfL G lv p)) (fun v w2 => ∃ gt, TreeB w2 wr.heap.size gt xs ∧ w2.ownsRow W3.heap.size 85 3 v (p + 1) (shelfL G lv p ++ [.pointer (some ⟨gt, 0, none⟩), .int .i64 (lv : Int), .int .i64 (p : Int)]) ∧ (v.ownBlock = (Value.slice As p cs).ownBlock ∨ ∃ g, v.ownBlock = some g ∧ wr.heap.size ≤ g)) [is (.pointer (some ⟨gv, 0, none⟩)), is (.int .i64 (lv : Int)), is (.pointer (some ⟨gv, 0, none⟩)), is (.int .i64 (lv : Int)), is (.pointer (some ⟨gv, 0, none⟩)), is (.pointer (some ⟨gv, 0, none⟩)), is (.pointer (some ⟨gv, lv, none⟩)), is (.slice As p cs), is (.slice A9 q c9), fun v w2 => ∃ gt, v = .pointer (some ⟨gt, 0, none⟩) ∧ TreeB w2 wr.heap.size gt xs, is (.int .i64 (lv : Int)), is (.int .i64 (p : Int)), fun v w2 => ∃ gt, v = .agg #[.pointer (some ⟨gt, 0, none⟩), .int .i64 (lv : Int), .int .i64 (p : Int)] ∧ TreeB w2 wr.heap.size gt xs, fun v w2 => ∃ g gt, v = .slice (some ⟨g, 0, none⟩) 1 1 ∧ Bk w2 g 85 #[.pointer (some ⟨gt, 0, none⟩), .int .i64 (lv : Int), .int .i64 (p : Int)] ∧ (Value.slice As p cs).ownBlock ≠ some g ∧ TreeB w2 wr.heap.size gt xs, anyV, is (.pointer (some ⟨gv, 0, none⟩)), is (.pointer (some ⟨gv, 0, none⟩)), is (.pointer (some ⟨gv, lv, none⟩))] _ _ rfl (by decide) (by kernel_rfl) (by kernel_rfl) (by kernel_rfl) (HownS.out) (fun w2 w3 h _ hg => own_below h hg) (fun _ _ _ ⟨gt, h1, h2, h3⟩ k => ⟨gt, h1.below k, own_below h2 k, h3⟩) (by repeat' (first | exact stbk_is _ _ | exact stbk_any _ | exact fun _ _ _ ⟨gt, h1, h2⟩ k => ⟨gt, h1, h2.keep k (fun b hb => (hSlt b hb).2)⟩ | exact fun _ _ _ ⟨g, gt, h1, h2, h3, h4⟩ k => ⟨g, gt, h1, k.bk h2 h3, h3, h4.keep k (fun b hb => (hSlt b hb).2)⟩ | (refine List.forall_mem_cons.2 ⟨?_, ?_⟩) | (intro p hp; cases hp))) ?_ ?_
                  · refine steps_of_n ?_
                    refine steps_cons ?_ ?_
                    · refine step_on3 rfl rfl ?_
                      intro ev w5 hS hU hc hf hold hval a K ha hK
                      replace hS : Keep (fun b => (Value.slice As p cs).ownBlock = some b) wr w5 := ⟨hS.os, hS.tape, hS.output, hS.size, hS.block⟩
                      clear hU
                      have e4 : ev (.tmp 4) = .pointer (some ⟨gv, 0, none⟩) := hold 4 (by kernel_rfl)
                      go_simp
                      exact hK _ _ (kstep_grow (Below.refl _ _)) rfl
                    refine steps_cons ?_ ?_
                    · refine step_on3 rfl rfl ?_
                      intro ev w5 hS hU hc hf hold hval a K ha hK
                      replace hS : Keep (fun b => (Value.slice As p cs).ownBlock = some b) wr w5 := ⟨hS.os, hS.tape, hS.output, hS.size, hS.block⟩
                      clear hU
                      have e7 : ev (.tmp 7) = .int .i64 (lv : Int) := hold 7 (by kernel_rfl)
                      go_simp
                      exact hK _ _ (kstep_grow (Below.refl _ _)) rfl
                    refine steps_cons ?_ ?_
                    · refine step_on3 rfl rfl ?_
                      intro ev w5 hS hU hc hf hold hval a K ha hK
                      replace hS : Keep (fun b => (Value.slice As p cs).ownBlock = some b) wr w5 := ⟨hS.os, hS.tape, hS.output, hS.size, hS.block⟩
                      clear hU
                      have e4 : ev (.tmp 4) = .pointer (some ⟨gv, 0, none⟩) := hold 4 (by kernel_rfl)
                      go_simp
                      exact hK _ _ (kstep_grow (Below.refl _ _)) rfl
                    refine steps_cons ?_ ?_
                    · refine step_on3 rfl rfl ?_
                      intro ev w5 hS hU hc hf hold hval a K ha hK
                      replace hS : Keep (fun b => (Value.slice As p cs).ownBlock = some b) wr w5 := ⟨hS.os, hS.tape, hS.output, hS.size, hS.block⟩
                      clear hU
                      have e7 : ev (.tmp 7) = .int .i64 (lv : Int) := hold 7 (by kernel_rfl)
                      go_simp
                      exact hK _ _ (kstep_grow (Below.refl _ _)) rfl
                    refine steps_cons ?_ ?_
                    · refine step_on3 rfl rfl ?_
                      intro ev w5 hS hU hc hf hold hval a K ha hK
                      replace hS : Keep (fun b => (Value.slice As p cs).ownBlock = some b) wr w5 := ⟨hS.os, hS.tape, hS.output, hS.size, hS.block⟩
                      clear hU
                      have e66 : ev (.tmp 66) = .pointer (some ⟨gv, 0, none⟩) := hval 2 66 (by kernel_rfl) rfl
                      go_simp
                      exact hK _ _ (kstep_grow (Below.refl _ _)) rfl
                    refine steps_cons ?_ ?_
                    · refine step_on3 rfl rfl ?_
                      intro ev w5 hS hU hc hf hold hval a K ha hK
                      replace hS : Keep (fun b => (Value.slice As p cs).ownBlock = some b) wr w5 := ⟨hS.os, hS.tape, hS.output, hS.size, hS.block⟩
                      clear hU
                      have e68 : ev (.tmp 68) = .pointer (some ⟨gv, 0, none⟩) := hval 4 68 (by kernel_rfl) rfl
                      go_simp
                      exact hK _ _ (kstep_grow (Below.refl _ _)) rfl
                    refine steps_cons ?_ ?_
                    · refine step_on3 rfl rfl ?_
                      intro ev w5 hS hU hc hf hold hval a K ha hK
                      replace hS : Keep (fun b => (Value.slice As p cs).ownBlock = some b) wr w5 := ⟨hS.os, hS.tape, hS.output, hS.size, hS.block⟩
                      clear hU
                      have e69 : ev (.tmp 69) = .pointer (some ⟨gv, 0, none⟩) := hval 5 69 (by kernel_rfl) rfl
                      have e67 : ev (.tmp 67) = .int .i64 (lv : Int) := hval 3 67 (by kernel_rfl) rfl
                      go_simp
                      exact hK _ _ (kstep_grow (Below.refl _ _)) rfl
                    refine steps_cons ?_ ?_
                    · refine step_on3 rfl rfl ?_
                      intro ev w5 hS hU hc hf hold hval a K ha hK
                      replace hS : Keep (fun b => (Value.slice As p cs).ownBlock = some b) wr w5 := ⟨hS.os, hS.tape, hS.output, hS.size, hS.block⟩
                      clear hU
                      have e70 : ev (.tmp 70) = .pointer (some ⟨gv, lv, none⟩) := hval 6 70 (by kernel_rfl) rfl
                      have c71 : w5.cell? ⟨gv, lv, none⟩ = some (.slice As p cs) := (hS.cell (p := ⟨gv, lv, none⟩) hgvlt hgvF).trans C71.out
                      go_simp
                      exact hK _ _ (kstep_grow (Below.refl _ _)) rfl
                    refine steps_cons ?_ ?_
                    · refine step_on3 rfl rfl ?_
                      intro ev w5 hS hU hc hf hold hval a K ha hK
                      replace hS : Keep (fun b => (Value.slice As p cs).ownBlock = some b) wr w5 := ⟨hS.os, hS.tape, hS.output, hS.size, hS.block⟩
                      clear hU
                      have e13 : ev (.tmp 13) = .slice A9 q c9 := hold 13 (by kernel_rfl)
                      go_simp
                      exact hK _ _ (kstep_grow (Below.refl _ _)) rfl
                    refine steps_cons ?_ ?_
                    · refine step_on3 rfl rfl ?_
                      intro ev w5 hS hU hc hf hold hval a K ha hK
                      replace hS : Keep (fun b => (Value.slice As p cs).ownBlock = some b) wr w5 := ⟨hS.os, hS.tape, hS.output, hS.size, hS.block⟩
                      clear hU
                      have e72 : ev (.tmp 72) = .slice A9 q c9 := hval 8 72 (by kernel_rfl) rfl
                      go_simp
                      have own5 := own_same Hown.out (fun b cs' hb hbk => hS.bk hbk (Hdis.out _ (by decide) b cs' hbk))
                      refine (TreeNew_any A9 q c9 w5.heap.size xs w5 (Rd.of_own own5) (Nat.le_refl _) hq128 hqc).mono ?_
                      rintro e w8 ⟨gt, rfl, htb, hb8⟩
                      exact hK _ _ (kstep_grow hb8) ⟨gt, rfl, htb.mono hS.size⟩
                    refine steps_cons ?_ ?_
                    · refine step_on3 rfl rfl ?_
                      intro ev w5 hS hU hc hf hold hval a K ha hK
                      replace hS : Keep (fun b => (Value.slice As p cs).ownBlock = some b) wr w5 := ⟨hS.os, hS.tape, hS.output, hS.size, hS.block⟩
                      clear hU
                      have e7 : ev (.tmp 7) = .int .i64 (lv : Int) := hold 7 (by kernel_rfl)
                      go_simp
                      exact hK _ _ (kstep_grow (Below.refl _ _)) rfl
                    refine steps_cons ?_ ?_
                    · refine step_on3 rfl rfl ?_
                      intro ev w5 hS hU hc hf hold hval a K ha hK
                      replace hS : Keep (fun b => (Value.slice As p cs).ownBlock = some b) wr w5 := ⟨hS.os, hS.tape, hS.output, hS.size, hS.block⟩
                      clear hU
                      have e12 : ev (.tmp 12) = .int .i64 (p : Int) := hold 12 (by kernel_rfl)
                      go_simp
                      exact hK _ _ (kstep_grow (Below.refl _ _)) rfl
                    refine steps_cons ?_ ?_
                    · refine step_on3 rfl rfl ?_
                      intro ev w5 hS hU hc hf hold hval a K ha hK
                      replace hS : Keep (fun b => (Value.slice As p cs).ownBlock = some b) wr w5 := ⟨hS.os, hS.tape, hS.output, hS.size, hS.block⟩
                      clear hU
                      have p73 : (fun v w2 => ∃ gt, v = .pointer (some ⟨gt, 0, none⟩) ∧ TreeB w2 wr.heap.size gt xs) (ev (.tmp 73)) w5 := hval 9 73 (by kernel_rfl) rfl
                      have e74 : ev (.tmp 74) = .int .i64 (lv : Int) := hval 10 74 (by kernel_rfl) rfl
                      have e75 : ev (.tmp 75) = .int .i64 (p : Int) := hval 11 75 (by kernel_rfl) rfl
                      obtain ⟨gt, e73, ht73⟩ := p73
                      go_simp
                      exact hK _ _ (kstep_grow (Below.refl _ _)) ⟨gt, rfl, ht73⟩
                    refine steps_cons ?_ ?_
                    · refine step_on3 rfl rfl ?_
                      intro ev w5 hS hU hc hf hold hval a K ha hK
                      replace hS : Keep (fun b => (Value.slice As p cs).ownBlock = some b) wr w5 := ⟨hS.os, hS.tape, hS.output, hS.size, hS.block⟩
                      clear hU
                      have p76 : (fun v w2 => ∃ gt, v = .agg #[.pointer (some ⟨gt, 0, none⟩), .int .i64 (lv : Int), .int .i64 (p : Int)] ∧ TreeB w2 wr.heap.size gt xs) (ev (.tmp 76)) w5 := hval 12 76 (by kernel_rfl) rfl
                      obtain ⟨gt, e76, ht76⟩ := p76
                      go_simp
                      exact hK _ _ (kstep_grow ((Below.refl _ _).alloc (Nat.le_refl _) _)) ⟨_, gt, rfl, Bk.new _ _ _, fun h => by have := (hSlt _ h).2; have := hS.size; omega, ht76.below ((Below.refl _ _).alloc (Nat.le_refl _) _)⟩
                    refine steps_cons ?_ ?_
                    · refine step_on3 rfl rfl ?_
                      intro ev w5 hS hU hc hf hold hval a K ha hK
                      replace hS : Keep (fun b => (Value.slice As p cs).ownBlock = some b) wr w5 := ⟨hS.os, hS.tape, hS.output, hS.size, hS.block⟩
                      have hpre := hU rfl
                      clear hU
                      have e71 : ev (.tmp 71) = .slice As p cs := hval 7 71 (by kernel_rfl) rfl
                      have p77 : (fun v w2 => ∃ g gt, v = .slice (some ⟨g, 0, none⟩) 1 1 ∧ Bk w2 g 85 #[.pointer (some ⟨gt, 0, none⟩), .int .i64 (lv : Int), .int .i64 (p : Int)] ∧ (Value.slice As p cs).ownBlock ≠ some g ∧ TreeB w2 wr.heap.size gt xs) (ev (.tmp 77)) w5 := hval 13 77 (by kernel_rfl) rfl
                      obtain ⟨g77, gt, e77, hb77, hn77, ht77⟩ := p77
                      subst ha
                      have hw5 : W3.heap.size ≤ w5.heap.size := Nat.le_trans hs4 hS.size
                      refine wp_append_rd w5 (.tmp 71) (.tmp 77) _ rfl W3.heap.size 85 i2 _ 3 24 Tryz.underlying79 gi2 gz0 gz1 gz2 rfl (by decide) (.slice As p cs) p (shelfL G lv p) e71 hpre w5.heap.size (some ⟨g77, 0, none⟩) 1 1 _ e77 (rd_eight hb77 rfl) (by simp [Value.oneCell']) (by unfold maxLen; omega) (by omega) hw5 ?_
                      intro v6 w6 hown6 hg6 hat6
                      have kF : Keep (fun b => (Value.slice As p cs).ownBlock = some b) w5 w6 := ⟨hg6.os, hg6.tape, hg6.output, hg6.size, fun k hk hn => hg6.block k hk (fun e => hn e.symm)⟩
                      exact hK _ _ (kstep_keep kF) ⟨gt, ht77.keep kF (fun b hb => (hSlt b hb).2), hown6, hat6.elim .inl fun e => .inr ⟨_, e, hS.size⟩⟩
                    refine steps_cons ?_ ?_
                    · refine step_on3 rfl rfl ?_
                      intro ev w5 hS hU hc hf hold hval a K ha hK
                      replace hS : Keep (fun b => (Value.slice As p cs).ownBlock = some b) wr w5 := ⟨hS.os, hS.tape, hS.output, hS.size, hS.block⟩
                      clear hU
                      have e64 : ev (.tmp 64) = .pointer (some ⟨gv, 0, none⟩) := hval 0 64 (by kernel_rfl) rfl
                      go_simp
                      exact hK _ _ (kstep_grow (Below.refl _ _)) rfl
                    refine steps_cons ?_ ?_
                    · refine step_on3 rfl rfl ?_
                      intro ev w5 hS hU hc hf hold hval a K ha hK
                      replace hS : Keep (fun b => (Value.slice As p cs).ownBlock = some b) wr w5 := ⟨hS.os, hS.tape, hS.output, hS.size, hS.block⟩
                      clear hU
                      have e79 : ev (.tmp 79) = .pointer (some ⟨gv, 0, none⟩) := hval 15 79 (by kernel_rfl) rfl
                      go_simp
                      exact hK _ _ (kstep_grow (Below.refl _ _)) rfl
                    refine steps_cons ?_ ?_
                    · refine step_on3 rfl rfl ?_
                      intro ev w5 hS hU hc hf hold hval a K ha hK
                      replace hS : Keep (fun b => (Value.slice As p cs).ownBlock = some b) wr w5 := ⟨hS.os, hS.tape, hS.output, hS.size, hS.block⟩
                      clear hU
                      have e80 : ev (.tmp 80) = .pointer (some ⟨gv, 0, none⟩) := hval 16 80 (by kernel_rfl) rfl
                      have e65 : ev (.tmp 65) = .int .i64 (lv : Int) := hval 1 65 (by kernel_rfl) rfl
                      go_simp
                      exact hK _ _ (kstep_grow (Below.refl _ _)) rfl
                    exact steps_nil
                  · intro ev w6 f hS hval
                    replace hS : Keep (fun b => (Value.slice As p cs).ownBlock = some b) wr w6 := ⟨hS.os, hS.tape, hS.output, hS.size, hS.block⟩
                    have p78 : (fun v w2 => ∃ gt, TreeB w2 wr.heap.size gt xs ∧ w2.ownsRow W3.heap.size 85 3 v (p + 1) (shelfL G lv p ++ [.pointer (some ⟨gt, 0, none⟩), .int .i64 (lv : Int), .int .i64 (p : Int)]) ∧ (v.ownBlock = (Value.slice As p cs).ownBlock ∨ ∃ g, v.ownBlock = some g ∧ wr.heap.size ≤ g)) (ev (.tmp 78)) w6 := hval 14 78 (by decide) rfl
                    have e81 : ev (.tmp 81) = .pointer (some ⟨gv, lv, none⟩) := hval 17 81 (by decide) rfl
                    simp only [putsOf, List.foldl_cons, List.foldl_nil, Act.put, List.setIfInBounds_toArray, List.set_cons_zero, List.set_cons_succ]
                    rw [e81]
                    clear hval
                    obtain ⟨gt, ht6, hown6, hat6⟩ := p78
                    obtain ⟨A8, c8, e78, _, _⟩ := own_shape hown6
                    rw [e78] at hown6 hat6 ⊢
                    have Hat6 := Lib.hid hat6
                    clear hat6
                    have hb6 := hS.bk Hb4.out hgvF
                    have c81 : w6.cell? ⟨gv, lv, none⟩ = some (.slice As p cs) := (hS.cell (p := ⟨gv, lv, none⟩) hgvlt hgvF).trans C71.out
                    have f81 := hb6.frozen lv
                    have Hb6 := Lib.hid hb6
                    have Hown6 := Lib.hid hown6
                    have Ht6 := Lib.hid ht6
                    have hgv6 := hb6.lt
                    clear hb6 hown6 ht6
                    change wpAny Tryz.prog Region.Mode.any _ _ (1 + f) (firstN 18 19) _ w6
                    rw [Nat.add_comm 1 f]
                    refine wpAny_one (f := f) (i := 18) (by kernel_rfl) ?_
                    refine wpOp_run rfl rfl ?_
                    generalize hK : wpAny Tryz.prog _ _ _ f _ = K5
                    go_simp
                    subst hK
                    refine wpAny_all (by kernel_rfl) ?_
                    have kset : Keep (fun b => b = gv) w6 (w6.setCell ⟨gv, lv, none⟩ (.slice A8 (p + 1) c8)) := Keep.setCell (F := fun b => b = gv) (Keep.refl _ _) (p := ⟨gv, lv, none⟩) (.inl rfl) _
                    have hset : ∀ t, 82 ≠ t → ∀ b cs', Bk w6 b t cs' → Bk (w6.setCell ⟨gv, lv, none⟩ (.slice A8 (p + 1) c8)) b t cs' := fun t ht b cs' hb => hb.far (fun e => Bk.ne Hb6.out hb ht e.symm) _
                    have kall : Keep (fun b => b = gv) Wv (w6.setCell ⟨gv, lv, none⟩ (.slice A8 (p + 1) c8)) := (Hk4.out.trans' hS (fun b hb f => by have := (hSlt b f).1; omega)).trans kset
                    have bits7 := Hbits4.out.same (w' := w6.setCell ⟨gv, lv, none⟩ (.slice A8 (p + 1) c8)) (fun b cs' hb => hset _ (by decide) _ _ (hS.bk hb (Hdis.out _ (by decide) b cs' hb))) (fun b cs' hb => hset _ (by decide) _ _ (hS.bk hb (Hdis.out _ (by decide) b cs' hb)))
                    have bk7 := Hb6.out.set lv (.slice A8 (p + 1) c8)
                    rw [wcells_set _ _ _ lv hl9] at bk7
                    have eqS : (fun j_1 => if j_1 = lv then Value.slice A8 (p + 1) c8 else if j_1 = lv then Value.slice As p cs else S j_1) = (fun i => if i = lv then Value.slice A8 (p + 1) c8 else S i) := by
                      funext i
                      by_cases e : i = lv
                      · rw [if_pos e, if_pos e]
                      · rw [if_neg e, if_neg e, if_neg e]
                    rw [eqS] at bk7
                    have kall2 : Keep (fun b => (Value.slice As p cs).ownBlock = some b ∨ b = gv) wr (w6.setCell ⟨gv, lv, none⟩ (.slice A8 (p + 1) c8)) := (hS.mono fun b _ f => .inl f).trans (kset.mono fun b _ f => .inr f)
                    have hsz67 : w6.heap.size = (w6.setCell ⟨gv, lv, none⟩ (.slice A8 (p + 1) c8)).heap.size := by simp [World.setCell]
                    have hown7 := own_same (w' := w6.setCell ⟨gv, lv, none⟩ (.slice A8 (p + 1) c8)) Hown6.out fun b cs' _ hb => hset _ (by decide) _ _ hb
                    have row7 : ShelfE (w6.setCell ⟨gv, lv, none⟩ (.slice A8 (p + 1) c8)) (ownT own4 wr.heap.size (Value.slice A8 (p + 1) c8).ownBlock (w6.setCell ⟨gv, lv, none⟩ (.slice A8 (p + 1) c8)).heap.size (TC lv p)) W3.heap.size (.slice A8 (p + 1) c8) L lv (p + 1) := by
                      refine ShelfE.next (H := fun b => (Value.slice As p cs).ownBlock = some b ∨ b = gv) hl9 (by rw [Hm.out]; exact hpm) HownS.out Hv2.out Htr.out (fun b hb => (Hbn4.out b hb).2) kall2 (fun b f => ?_) ?_ hown7 Hat6.out
                      · rcases f with f | f
                        · exact Hfty.out b f
                        · subst f
                          exact ⟨_, _, Hb4.out, .inl rfl⟩
                      · rw [Hxs.out]
                        exact Ht6.out.own.keepT kset fun b e => ⟨_, _, (show b = gv from e) ▸ Hb6.out, .inl rfl⟩
                    have old7 : ∀ b, b < Wv.heap.size → ownT own4 wr.heap.size (Value.slice A8 (p + 1) c8).ownBlock (w6.setCell ⟨gv, lv, none⟩ (.slice A8 (p + 1) c8)).heap.size (TC lv p) b = own0 b := fun b hb => by
                      unfold ownT
                      rw [if_pos (by have := Hb2.out.size; omega)]
                      exact Ho4.out b hb
                    have bnd7 := ownT_bnd (v := (Value.slice A8 (p + 1) c8).ownBlock) (c := TC lv p) Hbn4.out kall2.size (by omega) (fun b hb => (hown7.lt b hb).2)
                    have K5 := Lib.hid old7
                    have K6 := Lib.hid bnd7
                    clear old7 bnd7 hown7 kall2 hsz67
                    have size7 : W3.heap.size ≤ (w6.setCell ⟨gv, lv, none⟩ (.slice A8 (p + 1) c8)).heap.size := Nat.le_trans hs4 (Nat.le_trans hS.size kset.size)
                    have K1 := Lib.hid kall
                    have K2 := Lib.hid bits7
                    have K3 := Lib.hid bk7
                    have K4 := Lib.hid row7
                    clear kset hset kall bits7 bk7 row7 eqS
                    go_wp2_with fail
                    go_roundw
                    case rel => exact ⟨p + 1, _, by omega, by go_num, K2.out, K1.out, size7, K3.out, _, K5.out, K6.out, K4.out⟩
                    case measure => simp [intOf]; omega
                · have hpm2 : p = m := by omega
                  subst hpm2
                  have hWw : Below w.heap.size w wr := Hbw2.out.trans (hk4.to_below Hbw2.out.size (fun b hb e => by have := Hgv.out; omega))
                  have hWs : W.heap.size ≤ wr.heap.size := Nat.le_trans hWr hk4.size
                  have hrows4 : RowsE wr own4 w.heap.size gv (fun i => if i = lv then v else S i) L (lv + 1) := by
                    have hgvW : gv < Wv.heap.size := HbS.out.lt
                    refine ⟨hbn4, by rw [ho4 gv hgvW]; exact Hrows.out.gv2, fun i hi => ?_⟩
                    show ShelfE wr own4 w.heap.size (if i = lv then v else S i) L i (2 ^ i)
                    by_cases e : i = lv
                    · subst e
                      rw [if_pos rfl, Hm.out]
                      exact hrow4.mono hwW3 fun _ _ _ => rfl
                    · rw [if_neg e]
                      exact ((Hrows.out.rows i (by omega)).keepW hk4 HbS.out).mono (Nat.le_refl _) fun b _ hne => ho4 b (Hrows.out.bnd b hne).2
                  have hnil4 : ∀ i, lv + 1 ≤ i → (if i = lv then v else S i) = .slice none 0 0 := by
                    intro i hi
                    rw [if_neg (by omega)]
                    exact Hnils.out i (by omega)
                  have K1 := Lib.hid hWw
                  have K2 := Lib.hid hrows4
                  have K3 := Lib.hid hnil4
                  have K4 := Lib.hid hb4
                  clear hWw hrows4 hnil4 hb4 hbits4 hk4 hrow4 ho4 hbn4
                  go_wp2_with fail
                  go_roundw
                  case rel => exact ⟨lv + 1, by omega, by go_num, K1.out, hWs, _, own4, K4.out, K2.out, K3.out⟩
                  case measure => simp [intOf]; omega
        · have hl9' : lv = 9 := by omega
          subst hl9'
          have hfin : WaveE wr w.heap.size own0 gv L := ⟨S, 0, by rw [Hll.out]; exact hbS, ⟨by have := Hgv.out; omega, hrows.gv2⟩, fun i hi => hrows.rows i hi, hrows.bnd⟩
          have K1 := Lib.hid hfin
          have K2 := Lib.hid hbw
          clear hfin hbw hbS hrows hnils
          go_wp2_with fail
          go_ret2
          exact ⟨gv, own0, rfl, K1.out, K2.out⟩
end Go.Proofs.YthkkcelfgcholaaGreat
namespace Go.Proofs.YthkkcelfgcholaaGreat
open Go.RowKit
set_option linter.unusedVariables false
set_option linter.unusedSimpArgs false
/-- A new box. -/
def boxP (N : Nat) (e : TypeId) (cs : Array Value) : Value → World → Prop := fun v w => ∃ g, v = .pointer (some ⟨g, 0, none⟩) ∧ Bk w g e cs ∧ N ≤ g
theorem boxP_stb {B : Nat} {F : Nat → Prop} (N : Nat) (e : TypeId) (cs : Array Value) (h1 : e ≠ 117) (h2 : e ≠ 82) (hf : ∀ b, ¬ F b) : StbS (VFB B F) (boxP N e cs) := fun _ _ _ ⟨g, a1, a2, a3⟩ k => ⟨g, a1, k.1.bk a2 h1 h2 (hf g), a3⟩
theorem WaveS.cells {w : World} {B : Nat} {own : Nat → Nat} {gv : Nat} {S : Nat → Value} {Ls : Nat → List Nat} {n v : Int} (h : WaveS w B own gv S Ls n v) : (∀ i, i < 9 → w.cell? ⟨gv, i, none⟩ = some (S i)) ∧ w.cell? ⟨gv, 9, none⟩ = some (.int .i64 n) ∧ w.cell? ⟨gv, 10, none⟩ = some (.int .i64 v) := by
  obtain ⟨d0, d1, d2, d3, d4, d5, d6, d7, d8, d9, d10⟩ := wcells_get S n v
  exact ⟨fun i hi => (h.blk.cell i).trans (wcells_at S n v i hi), (h.blk.cell 9).trans d9, (h.blk.cell 10).trans d10⟩
set_option maxRecDepth 100000 in
set_option maxHeartbeats 4000000 in
theorem WaveInsert_any (B gv : Nat) (own : Nat → Nat) (L : List Nat) (k s : Nat) (w : World) (h : WaveE w B own gv L) (hs : s < 257) (hk : k ≤ L.length) (hL : ∀ x ∈ L, x < 257) (hn : L.length ≤ 127) :
    Calls Tryz.prog 60 #[.pointer (some ⟨gv, 0, none⟩), .int .i64 (k : Int), .int .i64 (s : Int)] w fun e w' => e = .returned (.int .i64 0) ∧ ∃ own', WaveE w' B own' gv (insN L k s) ∧ (∀ b, b < w.heap.size → own' b = own b) ∧ (∀ b, w.heap.size ≤ b → own' b ≠ 1) ∧ Keep (fun b => b = gv ∨ 16 ≤ own b) w w' := by
  have h90 := atLv_zero L k s hk hL hs
  obtain ⟨S, v, h⟩ := h
  obtain ⟨n, hnn⟩ : ∃ n, L.length = n := ⟨_, rfl⟩
  rw [hnn] at h hk hn
  have hins : (insN L k s).length = n + 1 := by rw [insN_len _ _ (by omega), hnn]
  obtain ⟨cc, c9, c10⟩ := h.cells
  have f10 := h.blk.frozen 10
  have hlt := h.blk.lt
  have hB : B ≤ w.heap.size := Nat.le_trans h.base.1 (Nat.le_of_lt hlt)
  obtain ⟨v1, h1⟩ := h.vis ((VisK.alloc (VB.set_wave h.blk h.base.1 0) (.cells #[.int .i64 (k : Int)] 3)).1)
  have hgv_gk : gv ≠ w.heap.size := by omega
  have hgk := Bk.new (w.setCell ⟨gv, 10, none⟩ (.int .i64 0)) 3 #[.int .i64 (k : Int)]
  rw [show (w.setCell ⟨gv, 10, none⟩ (.int .i64 0)).heap.size = w.heap.size by simp [World.setCell]] at hgk
  have hk1 : Keep (fun b => b = gv ∨ 16 ≤ own b) w ((w.setCell ⟨gv, 10, none⟩ (.int .i64 0)).alloc (.cells #[.int .i64 (k : Int)] 3)) := (Keep.setCell (F := fun b => b = gv ∨ 16 ≤ own b) (Keep.refl _ _) (p := ⟨gv, 10, none⟩) (.inl (.inl rfl)) _).alloc _
  obtain ⟨W, hW⟩ : ∃ W, (w.setCell ⟨gv, 10, none⟩ (.int .i64 0)).alloc (.cells #[.int .i64 (k : Int)] 3) = W := ⟨_, rfl⟩
  rw [hW] at h1 hgk hk1
  obtain ⟨cc1, c91, c101⟩ := h1.cells
  have c0 : ∀ q, (W.drewN q).cell? ⟨gv, 0, none⟩ = some (S 0) := fun q => cc1 0 (by omega)
  have c1 : ∀ q, (W.drewN q).cell? ⟨gv, 1, none⟩ = some (S 1) := fun q => cc1 1 (by omega)
  have c2 : ∀ q, (W.drewN q).cell? ⟨gv, 2, none⟩ = some (S 2) := fun q => cc1 2 (by omega)
  have c3 : ∀ q, (W.drewN q).cell? ⟨gv, 3, none⟩ = some (S 3) := fun q => cc1 3 (by omega)
  have c4 : ∀ q, (W.drewN q).cell? ⟨gv, 4, none⟩ = some (S 4) := fun q => cc1 4 (by omega)
  have c5 : ∀ q, (W.drewN q).cell? ⟨gv, 5, none⟩ = some (S 5) := fun q => cc1 5 (by omega)
  have c6 : ∀ q, (W.drewN q).cell? ⟨gv, 6, none⟩ = some (S 6) := fun q => cc1 6 (by omega)
  have c7 : ∀ q, (W.drewN q).cell? ⟨gv, 7, none⟩ = some (S 7) := fun q => cc1 7 (by omega)
  have c8 : ∀ q, (W.drewN q).cell? ⟨gv, 8, none⟩ = some (S 8) := fun q => cc1 8 (by omega)
  have cW9 : W.cell? ⟨gv, 9, none⟩ = some (.int .i64 (n : Int)) := c91
  have cWk : W.cell? ⟨w.heap.size, 0, none⟩ = some (.int .i64 (k : Int)) := (hgk.cell 0).trans rfl
  have hk0 : decide ((k : Int) < 0) = false := by simp
  have hkn : ¬ n < k := by omega
  have hkn2 : ¬ ((k : Int) > (n : Int)) := by omega
  have hWgv := h1.blk.lt
  have hWgk := hgk.lt
  have H1 := Lib.hid h1
  have Hgk := Lib.hid hgk
  have Hk1 := Lib.hid hk1
  have H0 := Lib.hid h90
  have HL := Lib.hid hL
  have HN := Lib.hid hnn
  have Hins := Lib.hid hins
  have HW := Lib.hid hW
  have Hkl := Lib.hid hk
  have Hbase := Lib.hid h.base
  have hbnd0 := Lib.hid h.bnd
  clear h h1 hgk hk1 h90 hL hnn hins hW cc cc1 c91 c101 hk
  go_enter Tryz.func60, Tryz.ntmps60
  go_wp2_with fail
  rw [HW.out]
  clear c10 f10 c9
  refine (SymIs_any s _ hs).mono ?_
  rintro e w1 ⟨rfl, hb1⟩
  have d9 : w1.cell? ⟨gv, 9, none⟩ = some (.int .i64 (n : Int)) := (hb1.cell (p := ⟨gv, 9, none⟩) hWgv).trans cW9
  have dk : w1.cell? ⟨w.heap.size, 0, none⟩ = some (.int .i64 (k : Int)) := (hb1.cell (p := ⟨w.heap.size, 0, none⟩) hWgk).trans cWk
  obtain ⟨v2, h2⟩ := H1.out.vis (Vis.of_below hb1)
  have hgk2 := Hgk.out.below hb1 hWgk
  have hk2 : Keep (fun b => b = gv ∨ 16 ≤ own b) w w1 := Hk1.out.trans (Keep.of_below hb1)
  have e0 : ∀ q, (w1.drewN q).cell? ⟨gv, 0, none⟩ = some (S 0) := fun q => h2.cells.1 0 (by omega)
  have e1 : ∀ q, (w1.drewN q).cell? ⟨gv, 1, none⟩ = some (S 1) := fun q => h2.cells.1 1 (by omega)
  have e2 : ∀ q, (w1.drewN q).cell? ⟨gv, 2, none⟩ = some (S 2) := fun q => h2.cells.1 2 (by omega)
  have e3 : ∀ q, (w1.drewN q).cell? ⟨gv, 3, none⟩ = some (S 3) := fun q => h2.cells.1 3 (by omega)
  have e4 : ∀ q, (w1.drewN q).cell? ⟨gv, 4, none⟩ = some (S 4) := fun q => h2.cells.1 4 (by omega)
  have e5 : ∀ q, (w1.drewN q).cell? ⟨gv, 5, none⟩ = some (S 5) := fun q => h2.cells.1 5 (by omega)
  have e6 : ∀ q, (w1.drewN q).cell? ⟨gv, 6, none⟩ = some (S 6) := fun q => h2.cells.1 6 (by omega)
  have e7 : ∀ q, (w1.drewN q).cell? ⟨gv, 7, none⟩ = some (S 7) := fun q => h2.cells.1 7 (by omega)
  have e8 : ∀ q, (w1.drewN q).cell? ⟨gv, 8, none⟩ = some (S 8) := fun q => h2.cells.1 8 (by omega)
  have hgv1 := h2.blk.lt
  have hgk1 := hgk2.lt
  have d9q : ∀ q, (w1.drewN q).cell? ⟨gv, 9, none⟩ = some (.int .i64 (n : Int)) := fun q => d9
  have dkq : ∀ q, (w1.drewN q).cell? ⟨w.heap.size, 0, none⟩ = some (.int .i64 (k : Int)) := fun q => dk
  have H2 := Lib.hid h2
  have Hgk2 := Lib.hid hgk2
  have Hk2 := Lib.hid hk2
  clear h2 hgk2 hk2 hb1 H1 Hgk Hk1 c0 c1 c2 c3 c4 c5 c6 c7 c8 cW9 cWk hWgv hWgk HW
  go_wp2_with fail
  go_quiet (fail)
  clear d9 dk hk0
  go_wp2_with fail
  go_loopw [35] (fun i wr => ∃ (lv : Nat) (ow : Nat → Nat) (v3 : Int), lv ≤ 9 ∧ i = .int .i64 lv ∧ WaveS wr B ow gv S (fun l => if l < lv then insN L k s else L) (n : Int) v3 ∧ Bk wr w.heap.size 3 #[.int .i64 ((atLv L k s lv : Nat) : Int)] ∧ (∀ b, b < w.heap.size → ow b = own b) ∧ (∀ b, w.heap.size ≤ b → ow b ≠ 1) ∧ ow w.heap.size = 0 ∧ Keep (fun b => b = gv ∨ 16 ≤ own b) w wr) (fun i _ => 9 - (intOf i).toNat)
  case atStart =>
    refine ⟨0, own, v2, by omega, rfl, ?_, ?_, fun _ _ => rfl, fun b hb e => ?_, ?_, ?_⟩
    · obtain ⟨v9, h9⟩ := H2.out.vis (Vis.of_below (below_drewN (Below.refl _ _) _))
      have : v9 = v2 := by
        have a1 := h9.cells.2.2
        have a2 := H2.out.cells.2.2
        have a3 := a2.symm.trans a1
        injection a3 with a3
        injection a3 with _ a3
        exact a3.symm
      subst this
      simpa using h9
    · rw [H0.out]
      exact Hgk2.out.drewN _
    · have := (hbnd0.out b (by omega)).2
      omega
    · rcases Nat.eq_zero_or_pos (own w.heap.size) with e | e
      · exact e
      · have := (hbnd0.out w.heap.size (by omega)).2
        omega
    · exact Hk2.out.drewN _
  case round =>
    obtain ⟨lv, ow, v3, hlv, rfl, hws, hbk, hown1, hown2, hown3, hkp⟩ := hrel
    by_cases hl9 : lv < 9
    · have hix := ix9 S lv hl9
      obtain ⟨G, hown, hoz, htr⟩ := hws.rows lv hl9
      obtain ⟨m, hm⟩ : ∃ m, 2 ^ lv = m := ⟨_, rfl⟩
      obtain ⟨p, hp⟩ : ∃ p, pathN s lv = p := ⟨_, rfl⟩
      have hpm : p < m := by rw [← hm, ← hp]; exact path_lt s lv hs (by omega)
      have hpp : p < 2 ^ lv := by rw [hm]; exact hpm
      have hG0 := Lib.hid hown
      rw [hm] at hown htr
      obtain ⟨g, cap, hSl, hnc, hgl⟩ := World.ownsRow.form hown (by omega)
      rw [hSl] at hix hown
      obtain ⟨x, hx⟩ : ∃ x, atLv L k s lv = x := ⟨_, rfl⟩
      obtain ⟨y, hy⟩ : ∃ y, atLv L k s (lv + 1) = y := ⟨_, rfl⟩
      obtain ⟨b, hbb⟩ : ∃ b, bitB s lv = b := ⟨_, rfl⟩
      have hxy := atLv_step L k s lv hl9
      have hxl := atLv_le L k s lv
      have hbi := bitsOf_ins L k s lv
      have hbn := bitsOf_ins_ne L k s lv
      have hbl : (bitsOf L lv (pathN s lv)).length ≤ 127 := by
        rw [bits_len]
        exact Nat.le_trans List.countP_le_length (by rw [HN.out]; exact hn)
      rw [hp, hx, hbb, hy] at hxy
      rw [hp, hx] at hxl
      rw [hp, hx, hbb] at hbi
      rw [hp] at hbl hbn
      rw [hx] at hbk
      have htp : TreeE wr (fun b => ow b = TC lv p) (G p) (bitsOf L lv p) := by
        have := htr p hpm
        rw [if_neg (by omega)] at this
        exact this
      have hpI : (p : Int) < (m : Int) := by omega
      have Hown := Lib.hid hown
      have Htp := Lib.hid htp
      have Hxy := Lib.hid hxy
      have Hxl := Lib.hid hxl
      have Hbi := Lib.hid hbi
      have Hbn := Lib.hid hbn
      have Hbl := Lib.hid hbl
      have Hp := Lib.hid hp
      have Hbb := Lib.hid hbb
      have Hy := Lib.hid hy
      have Hws := Lib.hid hws
      have Hbk := Lib.hid hbk
      have Hown1 := Lib.hid hown1
      have Hown2 := Lib.hid hown2
      have Hown3 := Lib.hid hown3
      have Hkp := Lib.hid hkp
      clear hown htr hSl hm hp hx hy hbb hxy hxl hbi hbn hbl hws hbk hown1 hown2 hown3 hkp htp hoz
      go_wp2_with fail
      refine wp_region_any (by kernel_rfl) ?_
      refine wpAny_vis_tail wr.heap.size 11 [39, 40, 41, 42, 43, 44, 45, 46, 47, 9, 10] (fun _ => False) 8 [] (fun _ => True) (is (.bool b)) [is (.slice (some ⟨g, 0, none⟩) m cap), is (.int .i64 (s : Int)), is (.int .i64 (lv : Int)), is (.int .i64 (p : Int)), is (.pointer (some ⟨g, p * 3, none⟩)), is (.agg #[.pointer (some ⟨G p, 0, none⟩), .int .i64 (lv : Int), .int .i64 (p : Int)]), is (.int .i64 (s : Int)), is (.int .i64 (lv : Int)), anyV, boxP wr.heap.size 85 #[.pointer none, .int .i64 0, .int .i64 0], boxP wr.heap.size 4 #[.bool false]] _ _ rfl (by decide) (by kernel_rfl) (by kernel_rfl) (by kernel_rfl) (trivial) (fun _ _ _ _ _ => trivial) (stbs_is _ _) (by repeat' (first | exact stbs_is _ _ | exact stbs_any _ | exact boxP_stb _ _ _ (by decide) (by decide) (fun _ f => f) | (refine List.forall_mem_cons.2 ⟨?_, ?_⟩) | (intro p hp; cases hp))) ?_ ?_
      · refine steps_of_n ?_
        refine steps_cons ?_ ?_
        · refine step_on3 rfl rfl ?_
          intro ev w5 hS hU hc hf hold hval a K ha hK
          replace hS : VFB wr.heap.size (fun _ => False) wr w5 := ⟨⟨hS.1.os, hS.1.tape, hS.1.output, hS.1.size, hS.1.block⟩, ⟨hS.2.os, hS.2.tape, hS.2.output, hS.2.size, hS.2.block⟩⟩
          clear hU
          have e8 : ev (.tmp 8) = .slice (some ⟨g, 0, none⟩) m cap := hold 8 (by kernel_rfl)
          go_simp
          exact hK _ _ (vstep_vis (VisK.refl _ _)) rfl
        refine steps_cons ?_ ?_
        · refine step_on3 rfl rfl ?_
          intro ev w5 hS hU hc hf hold hval a K ha hK
          replace hS : VFB wr.heap.size (fun _ => False) wr w5 := ⟨⟨hS.1.os, hS.1.tape, hS.1.output, hS.1.size, hS.1.block⟩, ⟨hS.2.os, hS.2.tape, hS.2.output, hS.2.size, hS.2.block⟩⟩
          clear hU
          have e2 : ev (.tmp 2) = .int .i64 (s : Int) := hold 2 (by kernel_rfl)
          go_simp
          exact hK _ _ (vstep_vis (VisK.refl _ _)) rfl
        refine steps_cons ?_ ?_
        · refine step_on3 rfl rfl ?_
          intro ev w5 hS hU hc hf hold hval a K ha hK
          replace hS : VFB wr.heap.size (fun _ => False) wr w5 := ⟨⟨hS.1.os, hS.1.tape, hS.1.output, hS.1.size, hS.1.block⟩, ⟨hS.2.os, hS.2.tape, hS.2.output, hS.2.size, hS.2.block⟩⟩
          clear hU
          have e7 : ev (.tmp 7) = .int .i64 (lv : Int) := hold 7 (by kernel_rfl)
          go_simp
          exact hK _ _ (vstep_vis (VisK.refl _ _)) rfl
        refine steps_cons ?_ ?_
        · refine step_on3 rfl rfl ?_
          intro ev w5 hS hU hc hf hold hval a K ha hK
          replace hS : VFB wr.heap.size (fun _ => False) wr w5 := ⟨⟨hS.1.os, hS.1.tape, hS.1.output, hS.1.size, hS.1.block⟩, ⟨hS.2.os, hS.2.tape, hS.2.output, hS.2.size, hS.2.block⟩⟩
          clear hU
          have e40 : ev (.tmp 40) = .int .i64 (s : Int) := hval 1 40 (by kernel_rfl) rfl
          have e41 : ev (.tmp 41) = .int .i64 (lv : Int) := hval 2 41 (by kernel_rfl) rfl
          go_simp
          refine (SymPath_any s lv w5 hs (by omega)).mono ?_
          rintro e w8 ⟨rfl, hb8⟩
          rw [Hp.out]
          exact hK _ _ (vstep_vis (VisK.of_below hb8)) rfl
        refine steps_cons ?_ ?_
        · refine step_on3 rfl rfl ?_
          intro ev w5 hS hU hc hf hold hval a K ha hK
          replace hS : VFB wr.heap.size (fun _ => False) wr w5 := ⟨⟨hS.1.os, hS.1.tape, hS.1.output, hS.1.size, hS.1.block⟩, ⟨hS.2.os, hS.2.tape, hS.2.output, hS.2.size, hS.2.block⟩⟩
          clear hU
          have e39 : ev (.tmp 39) = .slice (some ⟨g, 0, none⟩) m cap := hval 0 39 (by kernel_rfl) rfl
          have e42 : ev (.tmp 42) = .int .i64 (p : Int) := hval 3 42 (by kernel_rfl) rfl
          go_simp
          exact hK _ _ (vstep_vis (VisK.refl _ _)) rfl
        refine steps_cons ?_ ?_
        · refine step_on3 rfl rfl ?_
          intro ev w5 hS hU hc hf hold hval a K ha hK
          replace hS : VFB wr.heap.size (fun _ => False) wr w5 := ⟨⟨hS.1.os, hS.1.tape, hS.1.output, hS.1.size, hS.1.block⟩, ⟨hS.2.os, hS.2.tape, hS.2.output, hS.2.size, hS.2.block⟩⟩
          clear hU
          have e43 : ev (.tmp 43) = .pointer (some ⟨g, p * 3, none⟩) := hval 4 43 (by kernel_rfl) rfl
          have hrow5 := hS.1.to_vis (fun _ _ f => f)
          have hrow6 := hrow5.own Hown.out (by decide) (by decide)
          obtain ⟨q0, q1, q2⟩ := shelfL_get G lv m p hpm
          have a0 : w5.cell? ⟨g, p * 3, none⟩ = _ := (World.ownsRow.cellAt hrow6 (p * 3) (by omega)).trans q0
          have a1 : w5.cell? ⟨g, p * 3 + 1, none⟩ = _ := (World.ownsRow.cellAt hrow6 (p * 3 + 1) (by omega)).trans q1
          have a2 : w5.cell? ⟨g, p * 3 + 2, none⟩ = _ := (World.ownsRow.cellAt hrow6 (p * 3 + 2) (by omega)).trans q2
          go_simp
          exact hK _ _ (vstep_vis (VisK.refl _ _)) rfl
        refine steps_cons ?_ ?_
        · refine step_on3 rfl rfl ?_
          intro ev w5 hS hU hc hf hold hval a K ha hK
          replace hS : VFB wr.heap.size (fun _ => False) wr w5 := ⟨⟨hS.1.os, hS.1.tape, hS.1.output, hS.1.size, hS.1.block⟩, ⟨hS.2.os, hS.2.tape, hS.2.output, hS.2.size, hS.2.block⟩⟩
          clear hU
          have e2 : ev (.tmp 2) = .int .i64 (s : Int) := hold 2 (by kernel_rfl)
          go_simp
          exact hK _ _ (vstep_vis (VisK.refl _ _)) rfl
        refine steps_cons ?_ ?_
        · refine step_on3 rfl rfl ?_
          intro ev w5 hS hU hc hf hold hval a K ha hK
          replace hS : VFB wr.heap.size (fun _ => False) wr w5 := ⟨⟨hS.1.os, hS.1.tape, hS.1.output, hS.1.size, hS.1.block⟩, ⟨hS.2.os, hS.2.tape, hS.2.output, hS.2.size, hS.2.block⟩⟩
          clear hU
          have e7 : ev (.tmp 7) = .int .i64 (lv : Int) := hold 7 (by kernel_rfl)
          go_simp
          exact hK _ _ (vstep_vis (VisK.refl _ _)) rfl
        refine steps_cons ?_ ?_
        · refine step_on3 rfl rfl ?_
          intro ev w5 hS hU hc hf hold hval a K ha hK
          replace hS : VFB wr.heap.size (fun _ => False) wr w5 := ⟨⟨hS.1.os, hS.1.tape, hS.1.output, hS.1.size, hS.1.block⟩, ⟨hS.2.os, hS.2.tape, hS.2.output, hS.2.size, hS.2.block⟩⟩
          clear hU
          have e45 : ev (.tmp 45) = .int .i64 (s : Int) := hval 6 45 (by kernel_rfl) rfl
          have e46 : ev (.tmp 46) = .int .i64 (lv : Int) := hval 7 46 (by kernel_rfl) rfl
          go_simp
          refine (SymBit_any s lv w5 hs (by omega)).mono ?_
          rintro e w8 ⟨rfl, hb8⟩
          rw [Hbb.out]
          exact hK _ _ (vstep_vis (VisK.of_below hb8)) rfl
        refine steps_cons ?_ ?_
        · refine step_on3 rfl rfl ?_
          intro ev w5 hS hU hc hf hold hval a K ha hK
          replace hS : VFB wr.heap.size (fun _ => False) wr w5 := ⟨⟨hS.1.os, hS.1.tape, hS.1.output, hS.1.size, hS.1.block⟩, ⟨hS.2.os, hS.2.tape, hS.2.output, hS.2.size, hS.2.block⟩⟩
          clear hU
          go_simp
          exact hK _ _ (vstep_vis (VisK.of_below ((Below.refl _ _).alloc (Nat.le_refl _) _))) ⟨_, rfl, Bk.new _ _ _, hS.1.size⟩
        refine steps_cons ?_ ?_
        · refine step_on3 rfl rfl ?_
          intro ev w5 hS hU hc hf hold hval a K ha hK
          replace hS : VFB wr.heap.size (fun _ => False) wr w5 := ⟨⟨hS.1.os, hS.1.tape, hS.1.output, hS.1.size, hS.1.block⟩, ⟨hS.2.os, hS.2.tape, hS.2.output, hS.2.size, hS.2.block⟩⟩
          clear hU
          go_simp
          exact hK _ _ (vstep_vis (VisK.of_below ((Below.refl _ _).alloc (Nat.le_refl _) _))) ⟨_, rfl, Bk.new _ _ _, hS.1.size⟩
        exact steps_nil
      · intro ev w6 f hS hval hall
        replace hS : VFB wr.heap.size (fun _ => False) wr w6 := ⟨⟨hS.1.os, hS.1.tape, hS.1.output, hS.1.size, hS.1.block⟩, ⟨hS.2.os, hS.2.tape, hS.2.output, hS.2.size, hS.2.block⟩⟩
        have e44 : ev (.tmp 44) = .agg #[.pointer (some ⟨G p, 0, none⟩), .int .i64 (lv : Int), .int .i64 (p : Int)] := hval 5 44 (by decide) rfl
        have e47 : ev (.tmp 47) = .bool b := hval 8 47 (by decide) rfl
        have p9 : (boxP wr.heap.size 85 #[.pointer none, .int .i64 0, .int .i64 0]) (ev (.tmp 9)) w6 := hval 9 9 (by decide) rfl
        have p10 : (boxP wr.heap.size 4 #[.bool false]) (ev (.tmp 10)) w6 := hval 10 10 (by decide) rfl
        obtain ⟨vJ, pJ0⟩ := hall 8 (by decide)
        have pJ : (is (.bool b)) vJ w6 := pJ0
        clear pJ0 hall
        simp only [putsOf, List.foldl_cons, List.foldl_nil, Act.put, List.setIfInBounds_toArray, List.set_cons_zero, List.set_cons_succ]
        rw [e44]
        rw [e47]
        clear hval
        obtain ⟨g9, q9, hb9, hg9⟩ := p9
        obtain ⟨g10, q10, hb10, hg10⟩ := p10
        rw [q9, q10]
        have hwr6 : Below wr.heap.size wr w6 := hS.2.to_below (Nat.le_refl _) (fun b hb f => by rcases f with f | f; exact f; omega)
        have z0 : w6.cell? ⟨g9, 0, none⟩ = some (.pointer none) := (hb9.cell 0).trans rfl
        have z1 : w6.cell? ⟨g9, 1, none⟩ = some (.int .i64 0) := (hb9.cell 1).trans rfl
        have z2 : w6.cell? ⟨g9, 2, none⟩ = some (.int .i64 0) := (hb9.cell 2).trans rfl
        have fz0 := hb9.frozen 0
        have fz1 := hb9.frozen 1
        have fz2 := hb9.frozen 2
        have y0 : w6.cell? ⟨g10, 0, none⟩ = some (.bool false) := (hb10.cell 0).trans rfl
        have fy := hb10.frozen 0
        have hne : g9 ≠ g10 := Bk.ne hb9 hb10 (by decide)
        have hl9 := hb9.lt
        have hl10 := hb10.lt
        have Hb9 := Lib.hid hb9
        have Hb10 := Lib.hid hb10
        have Hwr6 := Lib.hid hwr6
        clear hb9 hb10 hwr6 hS pJ e44 e47 q9 q10
        change wpAny Tryz.prog Region.Mode.any _ _ (2 + f) (firstN 11 13) _ w6
        rw [show 2 + f = f + 1 + 1 by omega]
        refine wpAny_one (f := f + 1) (i := 11) (by kernel_rfl) ?_
        refine wpOp_run rfl rfl ?_
        generalize hK : wpAny Tryz.prog _ _ _ (f + 1) _ = K5
        go_simp
        subst hK
        refine wpAny_one (f := f) (i := 12) (by kernel_rfl) ?_
        refine wpOp_run rfl rfl ?_
        generalize hK : wpAny Tryz.prog _ _ _ f _ = K5
        go_simp
        subst hK
        refine wpAny_all (by kernel_rfl) ?_
        obtain ⟨W7, hW7⟩ : ∃ W7, ((((w6.setCell ⟨g9, 0, none⟩ (.pointer (some ⟨G p, 0, none⟩))).setCell ⟨g9, 1, none⟩ (.int .i64 (lv : Int))).setCell ⟨g9, 2, none⟩ (.int .i64 (p : Int))).setCell ⟨g10, 0, none⟩ (.bool b)) = W7 := ⟨_, rfl⟩
        have hb97 : Bk W7 g9 85 #[.pointer (some ⟨G p, 0, none⟩), .int .i64 (lv : Int), .int .i64 (p : Int)] := by rw [← hW7]; exact (((Hb9.out.set 0 _).set 1 _).set 2 _).far (p := ⟨g10, 0, none⟩) hne _
        have hb107 : Bk W7 g10 4 #[.bool b] := by rw [← hW7]; exact (((Hb10.out.far (p := ⟨g9, 0, none⟩) (fun e => hne e.symm) _).far (p := ⟨g9, 1, none⟩) (fun e => hne e.symm) _).far (p := ⟨g9, 2, none⟩) (fun e => hne e.symm) _).set 0 _
        have hk7 : Keep (fun _ => False) wr W7 := by rw [← hW7]; exact Keep.setCell (F := fun _ => False) (Keep.setCell (F := fun _ => False) (Keep.setCell (F := fun _ => False) (Keep.setCell (F := fun _ => False) (Keep.of_below Hwr6.out) (p := ⟨g9, 0, none⟩) (.inr hg9) _) (p := ⟨g9, 1, none⟩) (.inr hg9) _) (p := ⟨g9, 2, none⟩) (.inr hg9) _) (p := ⟨g10, 0, none⟩) (.inr hg10) _
        rw [hW7]
        have hbel7 : Below wr.heap.size wr W7 := hk7.to_below (Nat.le_refl _) (fun _ _ f => f)
        have Hb97 := Lib.hid hb97
        have Hb107 := Lib.hid hb107
        have Hbel7 := Lib.hid hbel7
        clear hb97 hb107 hk7 hbel7 hW7 z0 z1 z2 fz0 fz1 fz2 y0 fy Hb9 Hb10 Hwr6 hl9 hl10
        obtain ⟨v7, h7⟩ := Hws.out.vis (Vis.of_below Hbel7.out)
        have hgk7 := Hbk.out.below Hbel7.out Hbk.out.lt
        have ht7 := Htp.out.below Hbel7.out
        have hgv0 := Hws.out.base.2
        have hbndr := Hws.out.bnd
        have hsz7 := Hbel7.out.size
        have hgkr := Hbk.out.lt
        have x0 : W7.cell? ⟨g9, 0, none⟩ = some (.pointer (some ⟨G p, 0, none⟩)) := (Hb97.out.cell 0).trans rfl
        have x1 : W7.cell? ⟨g9, 1, none⟩ = some (.int .i64 (lv : Int)) := (Hb97.out.cell 1).trans rfl
        have x2 : W7.cell? ⟨g9, 2, none⟩ = some (.int .i64 (p : Int)) := (Hb97.out.cell 2).trans rfl
        have hg97 := Hb97.out.lt
        have hmf : ∀ (fn : Fn) (first cap : Array Value) (w : World), (Instr.makeFunc fn first cap).run Tryz.prog w = .ok (.func fn first cap) w := fun _ _ _ _ => rfl
        have H7 := Lib.hid h7
        have Hgk7 := Lib.hid hgk7
        have Ht7 := Lib.hid ht7
        have Hgv0 := Lib.hid hgv0
        have Hbndr := Lib.hid hbndr
        clear h7 hgk7 ht7 hgv0 hbndr
        go_wp2_with fail
        refine (LookI_any gv (G p) w.heap.size g10 S n v7 lv p (fun b => ow b = TC lv p) (bitsOf L lv p) x b W7 H7.out.blk Ht7.out (fun f => by rw [Hgv0.out] at f; unfold TC at f; omega) (fun y hy => (H7.out.bnd y (by rw [hy]; unfold TC; omega)).2) Hgk7.out Hb107.out Hbl.out Hxl.out).mono ?_
        rintro e W8 ⟨rfl, ht8, hk8, v8, hbk8⟩
        have hed := H7.out.edit (lv := lv) (p := p) (gx := gv) hl9 hpp (own_below hG0.out Hbel7.out) (by rw [Hgv0.out]; omega) (fun cs hc => absurd (bk_inj hc H7.out.blk).1 (by decide)) ht8 (hk8.mono fun y _ f => by rcases f with f | f; exact .inl f; exact .inr (.inl f)) hbk8 (L' := insN L k s) Hbi.out (fun q hq => by rw [if_neg (Nat.lt_irrefl _)]; exact Hbn.out q (fun e => hq e.symm))
        have hfun : (fun l => if l = lv then insN L k s else if l < lv then insN L k s else L) = fun l => if l < lv + 1 then insN L k s else L := by
          funext l
          by_cases c1 : l = lv
          · rw [if_pos c1, if_pos (by omega)]
          · by_cases c2 : l < lv
            · rw [if_neg c1, if_pos c2, if_pos (by omega)]
            · rw [if_neg c1, if_neg c2, if_neg (by omega)]
        rw [hfun] at hed
        have nF : ∀ y, wr.heap.size ≤ y → ¬ (ow y = TC lv p ∨ y = gv) := fun y hy f => by
          rcases f with f | f
          · have := (Hbndr.out y (by rw [f]; unfold TC; omega)).2
            omega
          · have := Hws.out.blk.lt
            omega
        have hgk8 := hk8.bk Hgk7.out (fun f => by
          rcases f with f | f
          · rw [Hown3.out] at f
            unfold TC at f
            omega
          · exact hgv_gk f.symm)
        have hb98 := hk8.bk Hb97.out (nF g9 hg9)
        have hb108 := hk8.bk Hb107.out (nF g10 hg10)
        have y0 : W8.cell? ⟨g9, 0, none⟩ = some (.pointer (some ⟨G p, 0, none⟩)) := (hb98.cell 0).trans rfl
        have y1 : W8.cell? ⟨g9, 1, none⟩ = some (.int .i64 (lv : Int)) := (hb98.cell 1).trans rfl
        have y2 : W8.cell? ⟨g9, 2, none⟩ = some (.int .i64 (p : Int)) := (hb98.cell 2).trans rfl
        have yk : W8.cell? ⟨w.heap.size, 0, none⟩ = some (.int .i64 (x : Int)) := (hgk8.cell 0).trans rfl
        have yb : W8.cell? ⟨g10, 0, none⟩ = some (.bool b) := (hb108.cell 0).trans rfl
        have hg98 := hb98.lt
        have hg108 := hb108.lt
        have hgk8l := hgk8.lt
        have htA := ht8.at
        have hGc : ow (G p) = TC lv p := Htp.out.1
        have Hed := Lib.hid hed
        have Hk8 := Lib.hid hk8
        have Hgk8 := Lib.hid hgk8
        have HtA := Lib.hid htA
        have Hbk8 := Lib.hid hbk8
        have HGc := Lib.hid hGc
        have hxI : x ≤ (insN (bitsOf L lv p) x b).length := by rw [insN_len _ _ Hxl.out]; have := Hxl.out; omega
        clear ht8 hk8 hbk8 hed hfun nF hgk8 hb98 hb108 htA x0 x1 x2 hmf hGc
        go_wp2_with fail
        refine (WRank1_any gv (G p) S n v8 lv p (insN (bitsOf L lv p) x b) x b W8 Hbk8.out HtA.out hxI).mono ?_
        rintro e W9 ⟨rfl, hv9⟩
        rw [take_insN _ _ _ Hxl.out, Hxy.out]
        obtain ⟨v9, h9⟩ := Hed.out.vis hv9.1
        have hgk9 := hv9.1.bk Hgk8.out (by decide) (by decide)
        have zk : W9.cell? ⟨w.heap.size, 0, none⟩ = some (.int .i64 (x : Int)) := (hgk9.cell 0).trans rfl
        have fk := hgk9.frozen 0
        have hgk9l := hgk9.lt
        have hgk10 := hgk9.set 0 (.int .i64 (y : Int))
        have hrc0 : recol ow W7.heap.size W8.heap.size (TC lv p) w.heap.size = 0 := by
          unfold recol
          rw [if_pos (by omega)]
          exact Hown3.out
        have h10 := h9.far (w' := W9.setCell ⟨w.heap.size, 0, none⟩ (.int .i64 (y : Int))) (H := fun b => b = w.heap.size) (Keep.setCell (F := fun b => b = w.heap.size) (Keep.refl _ _) (p := ⟨w.heap.size, 0, none⟩) (.inl rfl) _) (fun b e => by rw [show b = w.heap.size from e, hrc0]; omega)
        have hsw := Hkp.out.size
        have hkF : Keep (fun b => b = gv ∨ 16 ≤ own b) w (W9.setCell ⟨w.heap.size, 0, none⟩ (.int .i64 (y : Int))) := Keep.setCell (F := fun b => b = gv ∨ 16 ≤ own b) (((Hkp.out.trans (Keep.of_below Hbel7.out)).trans' Hk8.out (fun b hb f => by
            rcases f with f | f
            · right
              rw [← Hown1.out b hb, f]
              unfold TC
              omega
            · exact .inl f)).trans' hv9.2 (fun b hb f => by
            rcases f with f | f
            · exact .inl f
            · right
              rw [← Hown1.out b hb, f, HGc.out]
              unfold TC
              omega)) (p := ⟨w.heap.size, 0, none⟩) (.inr (Nat.le_refl _)) _
        have H10 := Lib.hid h10
        have Hgk10 := Lib.hid hgk10
        have HkF := Lib.hid hkF
        have Hrc0 := Lib.hid hrc0
        clear hv9 h9 hgk9 hgk10 h10 hkF hrc0 y0 y1 y2 yk yb
        go_wp2_with fail
        go_roundw
        case rel =>
          refine ⟨lv + 1, recol ow W7.heap.size W8.heap.size (TC lv p), v9, by omega, by go_num, H10.out, ?_, fun b hb => ?_, fun b hb => ?_, Hrc0.out, HkF.out⟩
          · rw [Hy.out]
            exact Hgk10.out
          · unfold recol
            rw [if_pos (by omega)]
            exact Hown1.out b hb
          · unfold recol
            by_cases c1 : b < W7.heap.size
            · rw [if_pos c1]
              exact Hown2.out b hb
            · rw [if_neg c1]
              unfold TC
              split <;> omega
        case measure => simp [intOf]; omega
    · obtain rfl : lv = 9 := by omega
      have hS9 : WaveS wr B ow gv S (fun _ => insN L k s) (n : Int) v3 := ⟨hws.blk, hws.base, fun l hl => by have := hws.rows l hl; simpa [hl] using this, hws.bnd⟩
      obtain ⟨_, x9, _⟩ := hS9.cells
      have f9 := hS9.blk.frozen 9
      have hgvr := hS9.blk.lt
      have hS10 := hS9.set_n ((n : Int) + 1)
      have e1 : wrap64 ((n : Int) + 1) = (n : Int) + 1 := by unfold wrap64; omega
      have hkf : Keep (fun b => b = gv ∨ 16 ≤ own b) w (wr.setCell ⟨gv, 9, none⟩ (.int .i64 ((n : Int) + 1))) := Keep.setCell (F := fun b => b = gv ∨ 16 ≤ own b) hkp (p := ⟨gv, 9, none⟩) (.inl (.inl rfl)) _
      have HS10 := Lib.hid hS10
      have Hkf := Lib.hid hkf
      have Hown1 := Lib.hid hown1
      have Hown2 := Lib.hid hown2
      clear hws hS9 hS10 hkp hkf hbk hown1 hown2 hown3
      go_wp2_with fail
      go_ret
      refine ⟨rfl, ow, ⟨S, v3, ?_⟩, Hown1.out, Hown2.out, Hkf.out⟩
      rw [Hins.out]
      exact HS10.out
end Go.Proofs.YthkkcelfgcholaaGreat
namespace Go.Proofs.YthkkcelfgcholaaGreat
open Go.RowKit
set_option linter.unusedVariables false
set_option linter.unusedSimpArgs false
set_option maxRecDepth 100000 in
set_option maxHeartbeats 4000000 in
theorem WaveDelete_any (B gv : Nat) (own : Nat → Nat) (L : List Nat) (k s : Nat) (w : World) (h : WaveE w B own gv L) (hks : L[k]? = some s) (hL : ∀ x ∈ L, x < 257) (hn : L.length ≤ 128) :
    Calls Tryz.prog 95 #[.pointer (some ⟨gv, 0, none⟩), .int .i64 (k : Int)] w fun e w' => e = .returned (.tuple #[.int .i64 (s : Int), .int .i64 0]) ∧ ∃ own', WaveE w' B own' gv (delN L k) ∧ (∀ b, b < w.heap.size → own' b = own b) ∧ (∀ b, w.heap.size ≤ b → own' b ≠ 1) ∧ Keep (fun b => b = gv ∨ 16 ≤ own b) w w' := by
  obtain ⟨hk, hkx⟩ := List.getElem?_eq_some_iff.1 hks
  have hs : s < 257 := by rw [← hkx]; exact hL _ (List.getElem_mem hk)
  have h90 := atLv_zero L k s (Nat.le_of_lt hk) hL hs
  have p0 := path_zero s hs
  have p9 := path_nine s
  have hat : ∀ lv, (bitsOf L lv (pathN s lv))[atLv L k s lv]? = some (bitB s lv) := fun lv => by
    have := bits_at L k lv hk
    rw [hkx] at this
    exact this
  obtain ⟨S, v, h⟩ := h
  obtain ⟨n, hnn⟩ : ∃ n, L.length = n := ⟨_, rfl⟩
  rw [hnn] at h hk hn
  have hins : (delN L k).length + 1 = n := by rw [delN_len _ (by omega), hnn]
  obtain ⟨cc, c9, c10⟩ := h.cells
  have f10 := h.blk.frozen 10
  have hlt := h.blk.lt
  have hB : B ≤ w.heap.size := Nat.le_trans h.base.1 (Nat.le_of_lt hlt)
  obtain ⟨v1, h1⟩ := h.vis ((VisK.alloc (VB.set_wave h.blk h.base.1 0) (.cells #[.int .i64 (k : Int)] 3)).1)
  have hgv_gk : gv ≠ w.heap.size := by omega
  have hgk := Bk.new (w.setCell ⟨gv, 10, none⟩ (.int .i64 0)) 3 #[.int .i64 (k : Int)]
  rw [show (w.setCell ⟨gv, 10, none⟩ (.int .i64 0)).heap.size = w.heap.size by simp [World.setCell]] at hgk
  have hk1 : Keep (fun b => b = gv ∨ 16 ≤ own b) w ((w.setCell ⟨gv, 10, none⟩ (.int .i64 0)).alloc (.cells #[.int .i64 (k : Int)] 3)) := (Keep.setCell (F := fun b => b = gv ∨ 16 ≤ own b) (Keep.refl _ _) (p := ⟨gv, 10, none⟩) (.inl (.inl rfl)) _).alloc _
  obtain ⟨W, hW⟩ : ∃ W, (w.setCell ⟨gv, 10, none⟩ (.int .i64 0)).alloc (.cells #[.int .i64 (k : Int)] 3) = W := ⟨_, rfl⟩
  rw [hW] at h1 hgk hk1
  obtain ⟨cc1, c91, c101⟩ := h1.cells
  have c0 : ∀ q, (W.drewN q).cell? ⟨gv, 0, none⟩ = some (S 0) := fun q => cc1 0 (by omega)
  have c1 : ∀ q, (W.drewN q).cell? ⟨gv, 1, none⟩ = some (S 1) := fun q => cc1 1 (by omega)
  have c2 : ∀ q, (W.drewN q).cell? ⟨gv, 2, none⟩ = some (S 2) := fun q => cc1 2 (by omega)
  have c3 : ∀ q, (W.drewN q).cell? ⟨gv, 3, none⟩ = some (S 3) := fun q => cc1 3 (by omega)
  have c4 : ∀ q, (W.drewN q).cell? ⟨gv, 4, none⟩ = some (S 4) := fun q => cc1 4 (by omega)
  have c5 : ∀ q, (W.drewN q).cell? ⟨gv, 5, none⟩ = some (S 5) := fun q => cc1 5 (by omega)
  have c6 : ∀ q, (W.drewN q).cell? ⟨gv, 6, none⟩ = some (S 6) := fun q => cc1 6 (by omega)
  have c7 : ∀ q, (W.drewN q).cell? ⟨gv, 7, none⟩ = some (S 7) := fun q => cc1 7 (by omega)
  have c8 : ∀ q, (W.drewN q).cell? ⟨gv, 8, none⟩ = some (S 8) := fun q => cc1 8 (by omega)
  have cW9 : W.cell? ⟨gv, 9, none⟩ = some (.int .i64 (n : Int)) := c91
  have cWk : W.cell? ⟨w.heap.size, 0, none⟩ = some (.int .i64 (k : Int)) := (hgk.cell 0).trans rfl
  have hk0 : decide ((k : Int) < 0) = false := by simp
  have hkn : ¬ n ≤ k := by omega
  have hWgv := h1.blk.lt
  have hWgk := hgk.lt
  have H1 := Lib.hid h1
  have Hgk := Lib.hid hgk
  have Hk1 := Lib.hid hk1
  have H0 := Lib.hid h90
  have HL := Lib.hid hL
  have HN := Lib.hid hnn
  have Hins := Lib.hid hins
  have HW := Lib.hid hW
  have Hkl := Lib.hid hk
  have Hbase := Lib.hid h.base
  have hbnd0 := Lib.hid h.bnd
  have P0 := Lib.hid p0
  have P9 := Lib.hid p9
  have Hat := Lib.hid hat
  have Hks := Lib.hid hks
  have cW9q : ∀ q, (W.drewN q).cell? ⟨gv, 9, none⟩ = some (.int .i64 (n : Int)) := fun q => cW9
  have cWkq : ∀ q, (W.drewN q).cell? ⟨w.heap.size, 0, none⟩ = some (.int .i64 (k : Int)) := fun q => cWk
  clear h h1 hgk hk1 h90 hL hnn hins hW cc cc1 c91 c101 hk p0 p9 hat hks hkx
  go_enter Tryz.func95, Tryz.ntmps95
  go_wp2_with fail
  rw [HW.out]
  clear c10 f10 c9
  go_quiet (fail)
  clear cW9 cWk hk0
  go_wp2_with fail
  go_loopw [6, 31] (fun z i wr => ∃ (lv : Nat) (ow : Nat → Nat) (v3 : Int), lv ≤ 9 ∧ i = .int .i64 lv ∧ z = .int .i64 ((pathN s lv : Nat) : Int) ∧ WaveS wr B ow gv S (fun l => if l < lv then delN L k else L) (n : Int) v3 ∧ Bk wr w.heap.size 3 #[.int .i64 ((atLv L k s lv : Nat) : Int)] ∧ (∀ b, b < w.heap.size → ow b = own b) ∧ (∀ b, w.heap.size ≤ b → ow b ≠ 1) ∧ ow w.heap.size = 0 ∧ Keep (fun b => b = gv ∨ 16 ≤ own b) w wr) (fun _ i _ => 9 - (intOf i).toNat)
  case atStart =>
    refine ⟨0, own, v1, by omega, rfl, by rw [P0.out]; rfl, ?_, ?_, fun _ _ => rfl, fun b hb e => ?_, ?_, ?_⟩
    · obtain ⟨v9, h9⟩ := H1.out.vis (Vis.of_below (below_drewN (Below.refl _ _) _))
      have : v9 = v1 := by
        have a1 := h9.cells.2.2
        have a2 := H1.out.cells.2.2
        have a3 := a2.symm.trans a1
        injection a3 with a3
        injection a3 with _ a3
        exact a3.symm
      subst this
      simpa using h9
    · rw [H0.out]
      exact Hgk.out.drewN _
    · have := (hbnd0.out b (by omega)).2
      omega
    · rcases Nat.eq_zero_or_pos (own w.heap.size) with e | e
      · exact e
      · have := (hbnd0.out w.heap.size (by omega)).2
        omega
    · exact Hk1.out.drewN _
  case round =>
    obtain ⟨lv, ow, v3, hlv, rfl, rfl, hws, hbk, hown1, hown2, hown3, hkp⟩ := hrel
    by_cases hl9 : lv < 9
    · have hix := ix9 S lv hl9
      obtain ⟨G, hown, hoz, htr⟩ := hws.rows lv hl9
      obtain ⟨m, hm⟩ : ∃ m, 2 ^ lv = m := ⟨_, rfl⟩
      obtain ⟨p, hp⟩ : ∃ p, pathN s lv = p := ⟨_, rfl⟩
      have hpm : p < m := by rw [← hm, ← hp]; exact path_lt s lv hs (by omega)
      have hpp : p < 2 ^ lv := by rw [hm]; exact hpm
      have hG0 := Lib.hid hown
      rw [hm] at hown htr
      obtain ⟨g, cap, hSl, hnc, hgl⟩ := World.ownsRow.form hown (by omega)
      rw [hSl] at hix hown
      obtain ⟨x, hx⟩ : ∃ x, atLv L k s lv = x := ⟨_, rfl⟩
      obtain ⟨y, hy⟩ : ∃ y, atLv L k s (lv + 1) = y := ⟨_, rfl⟩
      obtain ⟨b, hbb⟩ : ∃ b, bitB s lv = b := ⟨_, rfl⟩
      have hxy := atLv_step L k s lv hl9
      have hxa := Hat.out lv
      have hbi := bitsOf_del lv Hks.out
      have hbn := fun q => bitsOf_del_ne lv q Hks.out
      have hps := path_step s lv hl9
      rw [hp, hx, hbb, hy] at hxy
      rw [hp, hx, hbb] at hxa
      rw [hp, hx] at hbi
      rw [hp] at hbn
      rw [hp, hbb] at hps
      have hxl : x < (bitsOf L lv p).length := (List.getElem?_eq_some_iff.1 hxa).1
      have hxd : (bitsOf L lv p).getD x false = b := by rw [List.getD_eq_getElem?_getD, hxa]; rfl
      rw [hx] at hbk
      rw [hp]
      obtain ⟨r, hr⟩ : ∃ r, pathN s (lv + 1) = r := ⟨_, rfl⟩
      rw [hr] at hps
      have hp1000 : p ≤ 1000 := by
        have := pow9 hl9 hpp
        omega
      have htp : TreeE wr (fun b => ow b = TC lv p) (G p) (bitsOf L lv p) := by
        have := htr p hpm
        rw [if_neg (by omega)] at this
        exact this
      have hpI : (p : Int) < (m : Int) := by omega
      have Hown := Lib.hid hown
      have Htp := Lib.hid htp
      have Hxy := Lib.hid hxy
      have Hxl := Lib.hid hxl
      have Hbi := Lib.hid hbi
      have Hbn := Lib.hid hbn
      have Hxd := Lib.hid hxd
      have Hps := Lib.hid hps
      have Hr := Lib.hid hr
      have Hp := Lib.hid hp
      have Hbb := Lib.hid hbb
      have Hy := Lib.hid hy
      have Hws := Lib.hid hws
      have Hbk := Lib.hid hbk
      have Hown1 := Lib.hid hown1
      have Hown2 := Lib.hid hown2
      have Hown3 := Lib.hid hown3
      have Hkp := Lib.hid hkp
      clear htr hSl hm hp hx hy hbb hxy hxl hxa hbi hbn hxd hps hr hws hbk hown1 hown2 hown3 hkp htp hoz
      obtain ⟨q0, q1, q2⟩ := shelfL_get G lv m p hpm
      have a0 : wr.cell? ⟨g, p * 3, none⟩ = _ := (World.ownsRow.cellAt hown (p * 3) (by omega)).trans q0
      have a1 : wr.cell? ⟨g, p * 3 + 1, none⟩ = _ := (World.ownsRow.cellAt hown (p * 3 + 1) (by omega)).trans q1
      have a2 : wr.cell? ⟨g, p * 3 + 2, none⟩ = _ := (World.ownsRow.cellAt hown (p * 3 + 2) (by omega)).trans q2
      have kk : wr.cell? ⟨w.heap.size, 0, none⟩ = some (.int .i64 (x : Int)) := (Hbk.out.cell 0).trans rfl
      have hgkr := Hbk.out.lt
      clear q0 q1 q2 hown
      go_wp2_with fail
      obtain ⟨W7, hW7⟩ : ∃ W7, (wr.alloc (.cells #[.pointer (some ⟨G p, 0, none⟩), .int .i64 (lv : Int), .int .i64 (p : Int)] 85)).alloc (.cells #[.bool false] 4) = W7 := ⟨_, rfl⟩
      have hbel7 : Below wr.heap.size wr W7 := by rw [← hW7]; exact ((Below.refl _ _).alloc (Nat.le_refl _) _).alloc (by simp) _
      have hb97 : Bk W7 wr.heap.size 85 #[.pointer (some ⟨G p, 0, none⟩), .int .i64 (lv : Int), .int .i64 (p : Int)] := by rw [← hW7]; exact (Bk.new wr _ _).alloc _
      have hb107 : Bk W7 (wr.heap.size + 1) 4 #[.bool false] := by
        rw [← hW7]
        have h := Bk.new (wr.alloc (.cells #[.pointer (some ⟨G p, 0, none⟩), .int .i64 (lv : Int), .int .i64 (p : Int)] 85)) 4 #[.bool false]
        rw [World.size_alloc] at h
        exact h
      rw [hW7]
      have Hb97 := Lib.hid hb97
      have Hb107 := Lib.hid hb107
      have Hbel7 := Lib.hid hbel7
      clear hb97 hb107 hbel7 hW7 a0 a1 a2 kk
      obtain ⟨v7, h7⟩ := Hws.out.vis (Vis.of_below Hbel7.out)
      have hgk7 := Hbk.out.below Hbel7.out Hbk.out.lt
      have ht7 := Htp.out.below Hbel7.out
      have hgv0 := Hws.out.base.2
      have hbndr := Hws.out.bnd
      have hsz7 := Hbel7.out.size
      have hgvr := Hws.out.blk.lt
      have H7 := Lib.hid h7
      have Hgk7 := Lib.hid hgk7
      have Ht7 := Lib.hid ht7
      have Hgv0 := Lib.hid hgv0
      have Hbndr := Lib.hid hbndr
      clear h7 hgk7 ht7 hgv0 hbndr
      refine (WRank1_any gv (G p) S n v7 lv p (bitsOf L lv p) x true W7 H7.out.blk Ht7.out.at (Nat.le_of_lt Hxl.out)).mono ?_
      rintro e W8 ⟨rfl, hv8⟩
      obtain ⟨o1, ho1⟩ : ∃ o1, ((bitsOf L lv p).take x).count true = o1 := ⟨_, rfl⟩
      have ho1y : (if b then o1 else x - o1) = y := by
        have h1 := count_both ((bitsOf L lv p).take x)
        have h2 : ((bitsOf L lv p).take x).length = x := by rw [List.length_take]; have := Hxl.out; omega
        have h3 := Hxy.out
        cases b
        · simp; omega
        · simp; omega
      have ho1x : o1 ≤ x := by
        rw [← ho1]
        exact Nat.le_trans List.count_le_length (by rw [List.length_take]; omega)
      rw [ho1]
      obtain ⟨v8, h8⟩ := H7.out.vis hv8.1
      have ht8 := Ht7.out.vis hv8.1
      have hgk8 := hv8.1.bk Hgk7.out (by decide) (by decide)
      have hb98 := hv8.1.bk Hb97.out (by decide) (by decide)
      have hb108 := hv8.1.bk Hb107.out (by decide) (by decide)
      have hsz8 := hv8.1.size
      have x0 : W8.cell? ⟨wr.heap.size, 0, none⟩ = some (.pointer (some ⟨G p, 0, none⟩)) := (hb98.cell 0).trans rfl
      have x1 : W8.cell? ⟨wr.heap.size, 1, none⟩ = some (.int .i64 (lv : Int)) := (hb98.cell 1).trans rfl
      have x2 : W8.cell? ⟨wr.heap.size, 2, none⟩ = some (.int .i64 (p : Int)) := (hb98.cell 2).trans rfl
      have hg98 := hb98.lt
      have hg108 := hb108.lt
      have hgk8l := hgk8.lt
      have hmf : ∀ (fn : Fn) (first cap : Array Value) (w : World), (Instr.makeFunc fn first cap).run Tryz.prog w = .ok (.func fn first cap) w := fun _ _ _ _ => rfl
      have Ho1y := Lib.hid ho1y
      have H8 := Lib.hid h8
      have Ht8 := Lib.hid ht8
      have Hgk8 := Lib.hid hgk8
      have Hb98 := Lib.hid hb98
      have Hb108 := Lib.hid hb108
      have Hv8 := Lib.hid hv8
      clear ho1 ho1y h8 ht8 hgk8 hb98 hb108 hv8
      go_wp2_with fail
      have nF0 : ∀ y, wr.heap.size ≤ y → ¬ (ow y = TC lv p) := fun y hy f => by
        have := (Hbndr.out y (by rw [f]; unfold TC; omega)).2
        omega
      refine (LookD_any gv (G p) w.heap.size (wr.heap.size + 1) S n v8 lv p _ (fun b => ow b = TC lv p) (bitsOf L lv p) x W8 H8.out.blk Ht8.out (fun f => by rw [Hgv0.out] at f; unfold TC at f; omega) (nF0 _ (by omega)) (fun y hy => (H8.out.bnd y (by rw [hy]; unfold TC; omega)).2) Hgk8.out Hb108.out (fun y hy e => nF0 y (by omega) hy) Hxl.out).mono ?_
      rintro e W9 ⟨rfl, ht9, hk9, hbx9, v9, hbk9⟩
      rw [Hxd.out] at hbx9
      have hed := H8.out.edit (lv := lv) (p := p) (gx := wr.heap.size + 1) hl9 hpp (own_same (own_below hG0.out Hbel7.out) fun b cs _ hc => Hv8.out.1.bk hc (by decide) (by decide)) (by
        rcases Nat.eq_zero_or_pos (ow (wr.heap.size + 1)) with e | e
        · omega
        · have := (Hbndr.out _ (by omega : ow (wr.heap.size + 1) ≠ 0)).2
          omega) (fun cs hc => absurd (bk_inj hc Hb108.out).1 (by decide)) ht9 hk9 hbk9 (L' := delN L k) Hbi.out (fun q hq => by rw [if_neg (Nat.lt_irrefl _)]; exact Hbn.out q (fun e => hq e.symm))
      have hfun : (fun l => if l = lv then delN L k else if l < lv then delN L k else L) = fun l => if l < lv + 1 then delN L k else L := by
        funext l
        by_cases c1 : l = lv
        · rw [if_pos c1, if_pos (by omega)]
        · by_cases c2 : l < lv
          · rw [if_neg c1, if_pos c2, if_pos (by omega)]
          · rw [if_neg c1, if_neg c2, if_neg (by omega)]
      rw [hfun] at hed
      have hgk9 := hk9.bk Hgk8.out (fun f => by
        rcases f with f | f | f
        · have f' : ow w.heap.size = TC lv p := f
          rw [Hown3.out] at f'
          unfold TC at f'
          omega
        · exact hgv_gk f.symm
        · omega)
      have hb99 := hk9.bk Hb98.out (fun f => by
        rcases f with f | f | f
        · exact nF0 _ (Nat.le_refl _) f
        · omega
        · omega)
      have y0 : W9.cell? ⟨wr.heap.size, 0, none⟩ = some (.pointer (some ⟨G p, 0, none⟩)) := (hb99.cell 0).trans rfl
      have y1 : W9.cell? ⟨wr.heap.size, 1, none⟩ = some (.int .i64 (lv : Int)) := (hb99.cell 1).trans rfl
      have y2 : W9.cell? ⟨wr.heap.size, 2, none⟩ = some (.int .i64 (p : Int)) := (hb99.cell 2).trans rfl
      have yb : W9.cell? ⟨wr.heap.size + 1, 0, none⟩ = some (.bool b) := (hbx9.cell 0).trans rfl
      have hg99 := hb99.lt
      have hg109 := hbx9.lt
      have hGc : ow (G p) = TC lv p := Htp.out.1
      have Hed := Lib.hid hed
      have Hk9 := Lib.hid hk9
      have Hgk9 := Lib.hid hgk9
      have Hbx9 := Lib.hid hbx9
      have HGc := Lib.hid hGc
      have HnF0 := Lib.hid nF0
      clear ht9 hk9 hbk9 hed hfun hgk9 hb99 hbx9 x0 x1 x2 hmf hGc nF0
      go_wp2_with fail
      refine (Next_any (G p) lv p b W9 hp1000).mono ?_
      rintro e W10 ⟨rfl, hb10⟩
      rw [← Hps.out]
      obtain ⟨v10, h10⟩ := Hed.out.vis (Vis.of_below hb10)
      have hgk10 := Hgk9.out.below hb10 Hgk9.out.lt
      have hbx10 := Hbx9.out.below hb10 Hbx9.out.lt
      have zb : W10.cell? ⟨wr.heap.size + 1, 0, none⟩ = some (.bool b) := (hbx10.cell 0).trans rfl
      have zk : W10.cell? ⟨w.heap.size, 0, none⟩ = some (.int .i64 (x : Int)) := (hgk10.cell 0).trans rfl
      have fk := hgk10.frozen 0
      have hgk10l := hgk10.lt
      have hbx10l := hbx10.lt
      have hgk11 := hgk10.set 0 (.int .i64 (y : Int))
      have hrc0 : recol ow W8.heap.size W9.heap.size (TC lv p) w.heap.size = 0 := by
        unfold recol
        rw [if_pos (by omega)]
        exact Hown3.out
      have h11 := h10.far (w' := W10.setCell ⟨w.heap.size, 0, none⟩ (.int .i64 (y : Int))) (H := fun b => b = w.heap.size) (Keep.setCell (F := fun b => b = w.heap.size) (Keep.refl _ _) (p := ⟨w.heap.size, 0, none⟩) (.inl rfl) _) (fun b e => by rw [show b = w.heap.size from e, hrc0]; omega)
      have hsw := Hkp.out.size
      have hkF : Keep (fun b => b = gv ∨ 16 ≤ own b) w (W10.setCell ⟨w.heap.size, 0, none⟩ (.int .i64 (y : Int))) := Keep.setCell (F := fun b => b = gv ∨ 16 ≤ own b) ((((Hkp.out.trans (Keep.of_below Hbel7.out)).trans' Hv8.out.2 (fun b hb f => by
        rcases f with f | f
        · exact .inl f
        · right
          rw [← Hown1.out b hb, f, HGc.out]
          unfold TC
          omega)).trans' Hk9.out (fun b hb f => by
        rcases f with f | f | f
        · right
          have f' : ow b = TC lv p := f
          rw [← Hown1.out b hb, f']
          unfold TC
          omega
        · exact .inl f
        · omega)).trans (Keep.of_below hb10)) (p := ⟨w.heap.size, 0, none⟩) (.inr (Nat.le_refl _)) _
      have H11 := Lib.hid h11
      have Hgk11 := Lib.hid hgk11
      have HkF := Lib.hid hkF
      have Hrc0 := Lib.hid hrc0
      clear hb10 h10 hgk10 hbx10 hgk11 h11 hkF hrc0 y0 y1 y2 yb
      have hrel : ∃ (lv' : Nat) (ow : Nat → Nat) (v3 : Int), lv' ≤ 9 ∧ Value.int .i64 ((lv + 1 : Nat) : Int) = .int .i64 lv' ∧ Value.int .i64 (r : Int) = .int .i64 ((pathN s lv' : Nat) : Int) ∧ WaveS (W10.setCell ⟨w.heap.size, 0, none⟩ (.int .i64 (y : Int))) B ow gv S (fun l => if l < lv' then delN L k else L) (n : Int) v3 ∧ Bk (W10.setCell ⟨w.heap.size, 0, none⟩ (.int .i64 (y : Int))) w.heap.size 3 #[.int .i64 ((atLv L k s lv' : Nat) : Int)] ∧ (∀ b, b < w.heap.size → ow b = own b) ∧ (∀ b, w.heap.size ≤ b → ow b ≠ 1) ∧ ow w.heap.size = 0 ∧ Keep (fun b => b = gv ∨ 16 ≤ own b) w (W10.setCell ⟨w.heap.size, 0, none⟩ (.int .i64 (y : Int))) := by
        refine ⟨lv + 1, recol ow W8.heap.size W9.heap.size (TC lv p), v10, by omega, rfl, by rw [Hr.out], H11.out, ?_, fun b hb => ?_, fun b hb => ?_, Hrc0.out, HkF.out⟩
        · rw [Hy.out]
          exact Hgk11.out
        · unfold recol
          rw [if_pos (by omega)]
          exact Hown1.out b hb
        · unfold recol
          by_cases c1 : b < W8.heap.size
          · rw [if_pos c1]
            exact Hown2.out b hb
          · rw [if_neg c1]
            unfold TC
            split <;> omega
      have Hrel := Lib.hid hrel
      clear hrel
      cases b with
      | true =>
        obtain rfl : o1 = y := by have := Ho1y.out; simpa using this
        go_wp2_with fail
        go_roundw
        case rel => exact Hrel.out
        case measure => simp [intOf]; omega
      | false =>
        have hoy : x - o1 = y := by have := Ho1y.out; simpa using this
        have e9 : IntKind.i64.wrap ((x : Int) - (o1 : Int)) = (y : Int) := by
          have h2 := Hxl.out
          have h3 : (bitsOf L lv p).length ≤ L.length := by rw [bits_len]; exact List.countP_le_length
          have h4 := HN.out
          rw [IntKind.wrap_i64]
          omega
        go_wp2_with fail
        go_roundw
        case rel => exact Hrel.out
        case measure => simp [intOf]; omega
    · obtain rfl : lv = 9 := by omega
      have hS9 : WaveS wr B ow gv S (fun _ => delN L k) (n : Int) v3 := ⟨hws.blk, hws.base, fun l hl => by have := hws.rows l hl; simpa [hl] using this, hws.bnd⟩
      obtain ⟨_, x9, _⟩ := hS9.cells
      have f9 := hS9.blk.frozen 9
      have hgvr := hS9.blk.lt
      have hS10 := hS9.set_n ((n : Int) - 1)
      have e1 : IntKind.i64.wrap ((n : Int) - 1) = (n : Int) - 1 := by rw [IntKind.wrap_i64]; omega
      have hkf : Keep (fun b => b = gv ∨ 16 ≤ own b) w (wr.setCell ⟨gv, 9, none⟩ (.int .i64 ((n : Int) - 1))) := Keep.setCell (F := fun b => b = gv ∨ 16 ≤ own b) hkp (p := ⟨gv, 9, none⟩) (.inl (.inl rfl)) _
      rw [P9.out]
      have HS10 := Lib.hid hS10
      have Hkf := Lib.hid hkf
      have Hown1 := Lib.hid hown1
      have Hown2 := Lib.hid hown2
      clear hws hS9 hS10 hkp hkf hbk hown1 hown2 hown3
      go_wp2_with fail
      go_ret2
      refine ⟨rfl, ow, ⟨S, v3, ?_⟩, Hown1.out, Hown2.out, Hkf.out⟩
      rw [show (((delN L k).length : Nat) : Int) = (n : Int) - 1 by have := Hins.out; omega]
      exact HS10.out
end Go.Proofs.YthkkcelfgcholaaGreat
namespace Go.Proofs.YthkkcelfgcholaaGreat
open Go.RowKit
set_option linter.unusedVariables false
set_option linter.unusedSimpArgs false
theorem tcells_perm {L L' : List Nat} (h : L.Perm L') : tcells L = tcells L' := by
  refine tcells_ext _ _ (tcells_size L) (fun s hs => ?_) ?_
  · rw [tcells_of L hs, h.count_eq]
  · rw [tcells_all, h.length_eq]
end Go.Proofs.YthkkcelfgcholaaGreat
namespace Go.Proofs.YthkkcelfgcholaaGreat
open Go.RowKit
set_option linter.unusedVariables false
set_option linter.unusedSimpArgs false
/-- A walk whose wave is of L, and whose tally counts T. -/
def WalkT (w : World) (B gk : Nat) (L T : List Nat) : Prop :=
  ∃ gv gt, Bk w gk 56 #[.pointer (some ⟨gv, 0, none⟩), .pointer (some ⟨gt, 0, none⟩)] ∧ WaveAt w B gv L ∧ Bk w gt 125 (tcells T)
theorem WalkT.vis {w w' : World} {B gk : Nat} {L T : List Nat} (h : WalkT w B gk L T) (k : Vis w w') : WalkT w' B gk L T := by
  obtain ⟨gv, gt, h1, h2, h3⟩ := h
  exact ⟨gv, gt, k.bk h1 (by decide) (by decide), h2.vis k, k.bk h3 (by decide) (by decide)⟩
def narT (L T : List Nat) (s k : Nat) : Nat := T.countP (fun x => decide (x < s)) + (L.take k).count s
set_option maxRecDepth 100000 in
theorem WalkLenT_any (B gk : Nat) (L T : List Nat) (w : World) (h : WalkT w B gk L T) :
    Calls Tryz.prog 50 #[.pointer (some ⟨gk, 0, none⟩)] w fun e w' => e = .returned (.int .i64 (L.length : Int)) ∧ w = w' := by
  obtain ⟨gv, gt, h1, h2, h3⟩ := h
  have c0 := h1.cell 0
  clear h1 h3
  go_enter Tryz.func50, Tryz.ntmps50
  go_wp2_with fail
  refine (WaveLen_any B gv L _ h2).mono ?_
  rintro e w' ⟨rfl, rfl⟩
  go_wp2_with fail
  go_ret
  exact ⟨rfl, rfl⟩
set_option maxRecDepth 100000 in
theorem WalkBelowT_any (B gk : Nat) (L T : List Nat) (s : Nat) (w : World) (h : WalkT w B gk L T) (hs : s < 257) (hl : T.length ≤ 1000) :
    Calls Tryz.prog 88 #[.pointer (some ⟨gk, 0, none⟩), .int .i64 (s : Int)] w fun e w' => e = .returned (.int .i64 ((T.countP (fun x => decide (x < s)) : Nat) : Int)) ∧ Below w.heap.size w w' := by
  obtain ⟨gv, gt, h1, h2, h3⟩ := h
  have c1 := h1.cell 1
  clear h1 h2
  have H3 := Lib.hid h3
  clear h3
  go_enter Tryz.func88, Tryz.ntmps88
  go_wp2_with fail
  refine (TallyBelow_any gt T s _ H3.out hs hl).mono ?_
  rintro e w' ⟨rfl, hb⟩
  obtain ⟨q, hq⟩ : ∃ q, T.countP (fun x => decide (x < s)) = q := ⟨_, rfl⟩
  rw [hq]
  go_wp2_with fail
  go_ret
  exact ⟨by rw [hq]; rfl, hb⟩
set_option maxRecDepth 100000 in
theorem WalkIsT_any (B gk : Nat) (L T : List Nat) (i : Nat) (w : World) (h : WalkT w B gk L T) (hi : i < L.length) :
    Calls Tryz.prog 87 #[.pointer (some ⟨gk, 0, none⟩), .int .i64 (i : Int)] w fun e w' => e = .returned (.bool true) ∧ w = w' := by
  obtain ⟨n, hn⟩ : ∃ n, L.length = n := ⟨_, rfl⟩
  rw [hn] at hi
  have hiI : (i : Int) < (n : Int) := by omega
  have Hn := Lib.hid hn
  have H := Lib.hid h
  clear hn h
  go_enter Tryz.func87, Tryz.ntmps87
  go_wp2_with fail
  refine (WalkLenT_any B gk L T w H.out).mono ?_
  rintro e w' ⟨rfl, rfl⟩
  rw [Hn.out]
  go_wp2_with fail
  go_ret
  exact ⟨rfl, rfl⟩
set_option maxRecDepth 100000 in
set_option maxHeartbeats 2000000 in
theorem WalkBackT_any (B gk : Nat) (L T : List Nat) (i s : Nat) (w : World) (h : WalkT w B gk L T) (his : L[i]? = some s) (hL : ∀ x ∈ L, x < 257) (hl : L.length ≤ 1000) (hT : T.length ≤ 1000) :
    Calls Tryz.prog 53 #[.pointer (some ⟨gk, 0, none⟩), .int .i64 (i : Int)] w fun e w' => e = .returned (.int .i64 ((narT L T s i : Nat) : Int)) ∧ VB B w w' := by
  have hi := (List.getElem?_eq_some_iff.1 his).1
  have hs : s < 257 := hL _ (List.mem_of_getElem? his)
  have hH := h
  obtain ⟨gv, gt, h1, h2, h3⟩ := h
  have c0 := h1.cell 0
  have hlt := h1.lt
  obtain ⟨j, hj⟩ : ∃ j, narT L T s i = j := ⟨_, rfl⟩
  obtain ⟨q1, hq1⟩ : ∃ q, T.countP (fun x => decide (x < s)) = q := ⟨_, rfl⟩
  obtain ⟨q2, hq2⟩ : ∃ q, (L.take i).count s = q := ⟨_, rfl⟩
  have hj2 : q1 + q2 = j := by rw [← hq1, ← hq2, ← hj]; rfl
  have hb1 : q1 ≤ 1000 := by rw [← hq1]; exact Nat.le_trans List.countP_le_length hT
  have hb2 : q2 ≤ 1000 := by rw [← hq2]; exact Nat.le_trans List.count_le_length (by rw [List.length_take]; omega)
  rw [hj]
  have H := Lib.hid hH
  have H1 := Lib.hid h1
  have H2 := Lib.hid h2
  have Hi := Lib.hid hi
  have His := Lib.hid his
  have HL := Lib.hid hL
  have Hl := Lib.hid hl
  have HT := Lib.hid hT
  have Hq1 := Lib.hid hq1
  have Hq2 := Lib.hid hq2
  have Hj := Lib.hid hj2
  clear hH h1 h2 h3 hi his hL hl hq1 hq2 hj hj2
  go_enter Tryz.func53, Tryz.ntmps53
  go_wp2_with fail
  refine (WalkIsT_any B gk L T i w H.out Hi.out).mono ?_
  rintro e w1 ⟨rfl, rfl⟩
  go_wp2_with fail
  refine (WaveGet_any B gv L i s w H2.out Hi.out (List.getElem?_eq_some_iff.1 His.out).2 HL.out Hl.out).mono ?_
  rintro e W ⟨rfl, hv⟩
  have hW := H.out.vis hv.1
  have h1W := hv.1.bk H1.out (by decide) (by decide)
  have h2W := H2.out.vis hv.1
  have HW := Lib.hid hW
  have H1W := Lib.hid h1W
  have H2W := Lib.hid h2W
  have Hv := Lib.hid hv
  clear hW h1W h2W hv c0
  go_wp2_with fail
  refine wp_region_any (by kernel_rfl) ?_
  refine wpAny_loose2 [20, 21, 22, 23, 24, 25, 26, 27, 28, 29, 30, 4] (VB B) (Vs [is (.pointer (some ⟨gk, 0, none⟩)), is (.int .i64 (s : Int)), is (.int .i64 (q1 : Int)), is (.pointer (some ⟨gk, 0, none⟩)), is (.pointer (some ⟨gk, 0, none⟩)), is (.pointer (some ⟨gk, 0, none⟩)), is (.pointer (some ⟨gv, 0, none⟩)), is (.int .i64 (i : Int)), is (.int .i64 (s : Int)), is (.int .i64 (q2 : Int)), is (.int .i64 (j : Int)), is (.int .i64 (j : Int))]) _ _ rfl (by kernel_rfl) (VisK.refl _ _) (fun _ _ => VisK.trans) (stbs_all (by repeat' (first | exact stbs_is _ _ | exact stbs_any _ | (refine List.forall_mem_cons.2 ⟨?_, ?_⟩) | (intro p hp; cases hp)))) ?_ ?_
  · refine steps_of ?_
    refine steps_cons ?_ ?_
    · refine step_on rfl rfl ?_
      intro ev w5 hS hc hf hold hval a K ha hK
      have e0 : ev (.tmp 0) = .pointer (some ⟨gk, 0, none⟩) := hold 0 (by kernel_rfl)
      replace hS : (VB B) W w5 := ⟨⟨hS.1.os, hS.1.tape, hS.1.output, hS.1.size, hS.1.block⟩, ⟨hS.2.os, hS.2.tape, hS.2.output, hS.2.size, hS.2.block⟩⟩
      go_simp
      exact hK _ _ ((VisK.refl _ _)) rfl
    refine steps_cons ?_ ?_
    · refine step_on rfl rfl ?_
      intro ev w5 hS hc hf hold hval a K ha hK
      have e5 : ev (.tmp 5) = .int .i64 (s : Int) := hold 5 (by kernel_rfl)
      replace hS : (VB B) W w5 := ⟨⟨hS.1.os, hS.1.tape, hS.1.output, hS.1.size, hS.1.block⟩, ⟨hS.2.os, hS.2.tape, hS.2.output, hS.2.size, hS.2.block⟩⟩
      go_simp
      exact hK _ _ ((VisK.refl _ _)) rfl
    refine steps_cons ?_ ?_
    · refine step_on rfl rfl ?_
      intro ev w5 hS hc hf hold hval a K ha hK
      have e20 : ev (.tmp 20) = .pointer (some ⟨gk, 0, none⟩) := hval 0 20 (by kernel_rfl) rfl
      have e21 : ev (.tmp 21) = .int .i64 (s : Int) := hval 1 21 (by kernel_rfl) rfl
      replace hS : (VB B) W w5 := ⟨⟨hS.1.os, hS.1.tape, hS.1.output, hS.1.size, hS.1.block⟩, ⟨hS.2.os, hS.2.tape, hS.2.output, hS.2.size, hS.2.block⟩⟩
      go_simp
      refine (WalkBelowT_any B gk L T s w5 (HW.out.vis hS.1) hs HT.out).mono ?_
      rintro e w8 ⟨rfl, hb8⟩
      rw [Hq1.out]
      exact hK _ _ (VisK.of_below hb8) rfl
    refine steps_cons ?_ ?_
    · refine step_on rfl rfl ?_
      intro ev w5 hS hc hf hold hval a K ha hK
      have e0 : ev (.tmp 0) = .pointer (some ⟨gk, 0, none⟩) := hold 0 (by kernel_rfl)
      replace hS : (VB B) W w5 := ⟨⟨hS.1.os, hS.1.tape, hS.1.output, hS.1.size, hS.1.block⟩, ⟨hS.2.os, hS.2.tape, hS.2.output, hS.2.size, hS.2.block⟩⟩
      go_simp
      exact hK _ _ ((VisK.refl _ _)) rfl
    refine steps_cons ?_ ?_
    · refine step_on rfl rfl ?_
      intro ev w5 hS hc hf hold hval a K ha hK
      have e23 : ev (.tmp 23) = .pointer (some ⟨gk, 0, none⟩) := hval 3 23 (by kernel_rfl) rfl
      replace hS : (VB B) W w5 := ⟨⟨hS.1.os, hS.1.tape, hS.1.output, hS.1.size, hS.1.block⟩, ⟨hS.2.os, hS.2.tape, hS.2.output, hS.2.size, hS.2.block⟩⟩
      go_simp
      exact hK _ _ ((VisK.refl _ _)) rfl
    refine steps_cons ?_ ?_
    · refine step_on rfl rfl ?_
      intro ev w5 hS hc hf hold hval a K ha hK
      have e24 : ev (.tmp 24) = .pointer (some ⟨gk, 0, none⟩) := hval 4 24 (by kernel_rfl) rfl
      replace hS : (VB B) W w5 := ⟨⟨hS.1.os, hS.1.tape, hS.1.output, hS.1.size, hS.1.block⟩, ⟨hS.2.os, hS.2.tape, hS.2.output, hS.2.size, hS.2.block⟩⟩
      go_simp
      exact hK _ _ ((VisK.refl _ _)) rfl
    refine steps_cons ?_ ?_
    · refine step_on rfl rfl ?_
      intro ev w5 hS hc hf hold hval a K ha hK
      have e25 : ev (.tmp 25) = .pointer (some ⟨gk, 0, none⟩) := hval 5 25 (by kernel_rfl) rfl
      replace hS : (VB B) W w5 := ⟨⟨hS.1.os, hS.1.tape, hS.1.output, hS.1.size, hS.1.block⟩, ⟨hS.2.os, hS.2.tape, hS.2.output, hS.2.size, hS.2.block⟩⟩
      have c26 : w5.cell? ⟨gk, 0, none⟩ = some (.pointer (some ⟨gv, 0, none⟩)) := ((hS.1.bk H1W.out (by decide) (by decide)).cell 0).trans rfl
      go_simp
      exact hK _ _ ((VisK.refl _ _)) rfl
    refine steps_cons ?_ ?_
    · refine step_on rfl rfl ?_
      intro ev w5 hS hc hf hold hval a K ha hK
      have e1 : ev (.tmp 1) = .int .i64 (i : Int) := hold 1 (by kernel_rfl)
      replace hS : (VB B) W w5 := ⟨⟨hS.1.os, hS.1.tape, hS.1.output, hS.1.size, hS.1.block⟩, ⟨hS.2.os, hS.2.tape, hS.2.output, hS.2.size, hS.2.block⟩⟩
      go_simp
      exact hK _ _ ((VisK.refl _ _)) rfl
    refine steps_cons ?_ ?_
    · refine step_on rfl rfl ?_
      intro ev w5 hS hc hf hold hval a K ha hK
      have e5 : ev (.tmp 5) = .int .i64 (s : Int) := hold 5 (by kernel_rfl)
      replace hS : (VB B) W w5 := ⟨⟨hS.1.os, hS.1.tape, hS.1.output, hS.1.size, hS.1.block⟩, ⟨hS.2.os, hS.2.tape, hS.2.output, hS.2.size, hS.2.block⟩⟩
      go_simp
      exact hK _ _ ((VisK.refl _ _)) rfl
    refine steps_cons ?_ ?_
    · refine step_on rfl rfl ?_
      intro ev w5 hS hc hf hold hval a K ha hK
      have e26 : ev (.tmp 26) = .pointer (some ⟨gv, 0, none⟩) := hval 6 26 (by kernel_rfl) rfl
      have e27 : ev (.tmp 27) = .int .i64 (i : Int) := hval 7 27 (by kernel_rfl) rfl
      have e28 : ev (.tmp 28) = .int .i64 (s : Int) := hval 8 28 (by kernel_rfl) rfl
      replace hS : (VB B) W w5 := ⟨⟨hS.1.os, hS.1.tape, hS.1.output, hS.1.size, hS.1.block⟩, ⟨hS.2.os, hS.2.tape, hS.2.output, hS.2.size, hS.2.block⟩⟩
      go_simp
      refine (WaveRank_any B gv L i s w5 (H2W.out.vis hS.1) hs (Nat.le_of_lt Hi.out) HL.out Hl.out).mono ?_
      rintro e w8 ⟨rfl, hv8⟩
      rw [Hq2.out]
      exact hK _ _ hv8 rfl
    refine steps_cons ?_ ?_
    · refine step_on rfl rfl ?_
      intro ev w5 hS hc hf hold hval a K ha hK
      have e22 : ev (.tmp 22) = .int .i64 (q1 : Int) := hval 2 22 (by kernel_rfl) rfl
      have e29 : ev (.tmp 29) = .int .i64 (q2 : Int) := hval 9 29 (by kernel_rfl) rfl
      replace hS : (VB B) W w5 := ⟨⟨hS.1.os, hS.1.tape, hS.1.output, hS.1.size, hS.1.block⟩, ⟨hS.2.os, hS.2.tape, hS.2.output, hS.2.size, hS.2.block⟩⟩
      have hx1 : IntKind.i64.wrap ((q1 : Int) + (q2 : Int)) = (j : Int) := by rw [IntKind.wrap_i64]; have := Hj.out; omega
      go_simp
      exact hK _ _ ((VisK.refl _ _)) rfl
    refine steps_cons ?_ ?_
    · refine step_on rfl rfl ?_
      intro ev w5 hS hc hf hold hval a K ha hK
      have e30 : ev (.tmp 30) = .int .i64 (j : Int) := hval 10 30 (by kernel_rfl) rfl
      replace hS : (VB B) W w5 := ⟨⟨hS.1.os, hS.1.tape, hS.1.output, hS.1.size, hS.1.block⟩, ⟨hS.2.os, hS.2.tape, hS.2.output, hS.2.size, hS.2.block⟩⟩
      go_simp
      exact hK _ _ ((VisK.refl _ _)) rfl
    exact steps_nil
  · intro ev w6 hS hval
    replace hS : (VB B) W w6 := ⟨⟨hS.1.os, hS.1.tape, hS.1.output, hS.1.size, hS.1.block⟩, ⟨hS.2.os, hS.2.tape, hS.2.output, hS.2.size, hS.2.block⟩⟩
    have e4 : ev (.tmp 4) = .int .i64 (j : Int) := hval 11 4 rfl
    simp only [putsOf, List.foldl_cons, List.foldl_nil, Act.put, List.setIfInBounds_toArray, List.set_cons_zero, List.set_cons_succ]
    rw [e4]
    clear hval
    have hv6 := Hv.out.trans hS
    go_wp2_with fail
    go_ret
    exact ⟨rfl, hv6⟩
/-- It owns its blocks. -/
def WalkE (w : World) (B : Nat) (own : Nat → Nat) (gk : Nat) (L T : List Nat) : Prop :=
  ∃ gv gt, Bk w gk 56 #[.pointer (some ⟨gv, 0, none⟩), .pointer (some ⟨gt, 0, none⟩)] ∧ own gk = 2 ∧ WaveE w B own gv L ∧ Bk w gt 125 (tcells T) ∧ own gt = 2
section
variable {w w' : World} {B : Nat} {own own' : Nat → Nat} {gk : Nat} {L T : List Nat}
theorem WalkE.atT (h : WalkE w B own gk L T) : WalkT w B gk L T := by
  obtain ⟨gv, gt, h1, _, h2, h3, _⟩ := h
  exact ⟨gv, gt, h1, h2.at, h3⟩
theorem WalkE.at (h : WalkE w B own gk L T) (hp : T.Perm L) : WalkAt w B gk L := by
  obtain ⟨gv, gt, h1, _, h2, h3, _⟩ := h
  rw [tcells_perm hp] at h3
  exact ⟨gv, gt, h1, h2.at, h3⟩
theorem WalkE.vis (h : WalkE w B own gk L T) (k : Vis w w') : WalkE w' B own gk L T := by
  obtain ⟨gv, gt, h1, h2, h3, h4, h5⟩ := h
  exact ⟨gv, gt, k.bk h1 (by decide) (by decide), h2, h3.vis k, k.bk h4 (by decide) (by decide), h5⟩
theorem WalkE.far (h : WalkE w B own gk L T) {H : Nat → Prop} (k : Keep H w w') (hH : ∀ b, H b → own b ≠ 2 ∧ own b < 16) : WalkE w' B own gk L T := by
  obtain ⟨gv, gt, h1, h2, h3, h4, h5⟩ := h
  exact ⟨gv, gt, k.bk h1 (fun f => by have := hH _ f; omega), h2, h3.far k hH, k.bk h4 (fun f => by have := hH _ f; omega), h5⟩
theorem WalkE.paint (h : WalkE w B own gk L T) (h1 : ∀ b, b < w.heap.size → 2 ≤ own b → own' b = own b) (h2 : ∀ b, own' b ≠ 0 → B ≤ b ∧ b < w.heap.size) : WalkE w B own' gk L T := by
  obtain ⟨gv, gt, g1, g2, g3, g4, g5⟩ := h
  exact ⟨gv, gt, g1, by rw [h1 _ g1.lt (by omega)]; exact g2, g3.paint h1 h2, g4, by rw [h1 _ g4.lt (by omega)]; exact g5⟩
theorem WalkE.tally {T' : List Nat} (h : WalkE w B own gk L T) (hp : T.Perm T') : WalkE w B own gk L T' := by
  obtain ⟨gv, gt, g1, g2, g3, g4, g5⟩ := h
  rw [tcells_perm hp] at g4
  exact ⟨gv, gt, g1, g2, g3, g4, g5⟩
theorem WaveE.bnd (h : WaveE w B own gk L) : ∀ b, own b ≠ 0 → B ≤ b ∧ b < w.heap.size := by
  obtain ⟨S, v, h⟩ := h
  exact h.bnd
theorem WalkE.bnd (h : WalkE w B own gk L T) : ∀ b, own b ≠ 0 → B ≤ b ∧ b < w.heap.size := by
  obtain ⟨gv, gt, g1, g2, g3, g4, g5⟩ := h
  exact g3.bnd
end
/-- What an edit of a walk leaves: the colours of old blocks; new blocks are no pairs' (1). -/
structure Grew (w w' : World) (own own' : Nat → Nat) : Prop where
  old : ∀ b, b < w.heap.size → own' b = own b
  new : ∀ b, w.heap.size ≤ b → own' b ≠ 1
  keep : Keep (fun b => own b = 2 ∨ 16 ≤ own b) w w'
theorem Grew.refl {w : World} {own : Nat → Nat} (h : ∀ b, own b ≠ 0 → b < w.heap.size) : Grew w w own own := ⟨fun _ _ => rfl, fun b hb e => by have := h b (by omega); omega, Keep.refl _ _⟩
theorem Grew.trans {w w1 w' : World} {own own1 own' : Nat → Nat} (h : Grew w w1 own own1) (k : Grew w1 w' own1 own') : Grew w w' own own' := by
  have hs := h.keep.size
  refine ⟨fun b hb => (k.old b (by omega)).trans (h.old b hb), fun b hb => ?_, h.keep.trans' k.keep fun b hb f => by rw [← h.old b hb]; exact f⟩
  by_cases c : b < w1.heap.size
  · rw [k.old b c]
    exact h.new b hb
  · exact k.new b (by omega)
theorem Grew.of_vb {B : Nat} {w w' : World} {own : Nat → Nat} (k : Keep (fun b => own b = 2 ∨ 16 ≤ own b) w w') (h : ∀ b, own b ≠ 0 → b < w.heap.size) : Grew w w' own own := ⟨fun _ _ => rfl, fun b hb e => by have := h b (by omega); omega, k⟩
set_option maxRecDepth 100000 in
theorem WalkPut_any (B gk : Nat) (own : Nat → Nat) (L T : List Nat) (k s : Nat) (w : World) (h : WalkE w B own gk L T) (hs : s < 257) (hk : k ≤ L.length) (hL : ∀ x ∈ L, x < 257) (hn : L.length ≤ 127) :
    Calls Tryz.prog 26 #[.pointer (some ⟨gk, 0, none⟩), .int .i64 (k : Int), .int .i64 (s : Int)] w fun e w' => e = .returned (.tuple #[]) ∧ ∃ own', WalkE w' B own' gk (insN L k s) T ∧ Grew w w' own own' := by
  obtain ⟨gv, gt, h1, h2, h3, h4, h5⟩ := h
  have c0 : w.cell? ⟨gk, 0, none⟩ = some (.pointer (some ⟨gv, 0, none⟩)) := (h1.cell 0).trans rfl
  have hgk := h1.lt
  have hgv2 : own gv = 2 := by obtain ⟨S, v, h⟩ := h3; exact h.base.2
  have hgkv : gk ≠ gv := by obtain ⟨S, v, h⟩ := h3; exact Bk.ne h1 h.blk (by decide)
  have hgtv : gt ≠ gv := by obtain ⟨S, v, h⟩ := h3; exact Bk.ne h4 h.blk (by decide)
  have H1 := Lib.hid h1
  have H3 := Lib.hid h3
  have H4 := Lib.hid h4
  clear h1 h3 h4
  go_enter Tryz.func26, Tryz.ntmps26
  go_wp2_with fail
  refine (WaveInsert_any B gv own L k s w H3.out hs hk hL hn).mono ?_
  rintro e w1 ⟨rfl, own', hw1, ho1, ho2, hk1⟩
  have hb1 := hk1.bk H1.out (fun f => by rcases f with f | f; exact hgkv f; omega)
  have ht1 := hk1.bk H4.out (fun f => by rcases f with f | f; exact hgtv f; omega)
  have hg : Grew w w1 own own' := ⟨ho1, ho2, hk1.mono fun b _ f => by rcases f with f | f; left; rw [f, hgv2]; right; exact f⟩
  have HG := Lib.hid hg
  have hE : WalkE w1 B own' gk (insN L k s) T := ⟨gv, gt, hb1, by rw [ho1 _ hgk]; exact h2, hw1, ht1, by rw [ho1 _ H4.out.lt]; exact h5⟩
  have HE := Lib.hid hE
  clear hw1 ho1 ho2 hk1 hb1 ht1 hg hE c0
  go_wp2_with fail
  go_end0
  exact ⟨rfl, own', HE.out, HG.out⟩
set_option maxRecDepth 100000 in
theorem WalkCut_any (B gk : Nat) (own : Nat → Nat) (L T : List Nat) (k s : Nat) (w : World) (h : WalkE w B own gk L T) (hks : L[k]? = some s) (hL : ∀ x ∈ L, x < 257) (hn : L.length ≤ 128) :
    Calls Tryz.prog 59 #[.pointer (some ⟨gk, 0, none⟩), .int .i64 (k : Int)] w fun e w' => e = .returned (.int .i64 (s : Int)) ∧ ∃ own', WalkE w' B own' gk (delN L k) T ∧ Grew w w' own own' := by
  obtain ⟨gv, gt, h1, h2, h3, h4, h5⟩ := h
  have c0 : w.cell? ⟨gk, 0, none⟩ = some (.pointer (some ⟨gv, 0, none⟩)) := (h1.cell 0).trans rfl
  have hgk := h1.lt
  have hgv2 : own gv = 2 := by obtain ⟨S, v, h⟩ := h3; exact h.base.2
  have hgkv : gk ≠ gv := by obtain ⟨S, v, h⟩ := h3; exact Bk.ne h1 h.blk (by decide)
  have hgtv : gt ≠ gv := by obtain ⟨S, v, h⟩ := h3; exact Bk.ne h4 h.blk (by decide)
  have H1 := Lib.hid h1
  have H3 := Lib.hid h3
  have H4 := Lib.hid h4
  have Hks := Lib.hid hks
  clear h1 h3 h4 hks
  go_enter Tryz.func59, Tryz.ntmps59
  go_wp2_with fail
  refine (WaveDelete_any B gv own L k s w H3.out Hks.out hL hn).mono ?_
  rintro e w1 ⟨rfl, own', hw1, ho1, ho2, hk1⟩
  have hb1 := hk1.bk H1.out (fun f => by rcases f with f | f; exact hgkv f; omega)
  have ht1 := hk1.bk H4.out (fun f => by rcases f with f | f; exact hgtv f; omega)
  have hg : Grew w w1 own own' := ⟨ho1, ho2, hk1.mono fun b _ f => by rcases f with f | f; left; rw [f, hgv2]; right; exact f⟩
  have HG := Lib.hid hg
  have hE : WalkE w1 B own' gk (delN L k) T := ⟨gv, gt, hb1, by rw [ho1 _ hgk]; exact h2, hw1, ht1, by rw [ho1 _ H4.out.lt]; exact h5⟩
  have HE := Lib.hid hE
  clear hw1 ho1 ho2 hk1 hb1 ht1 hg hE c0
  go_wp2_with fail
  go_ret
  exact ⟨rfl, own', HE.out, HG.out⟩
set_option maxRecDepth 100000 in
theorem WalkChange_any (B gk : Nat) (own : Nat → Nat) (L T : List Nat) (k s0 s : Nat) (w : World) (h : WalkE w B own gk L T) (hks : L[k]? = some s0) (hs : s < 257) (hL : ∀ x ∈ L, x < 257) (hn : L.length ≤ 128) :
    Calls Tryz.prog 24 #[.pointer (some ⟨gk, 0, none⟩), .int .i64 (k : Int), .int .i64 (s : Int)] w fun e w' => e = .returned (.tuple #[]) ∧ ∃ own', WalkE w' B own' gk (L.set k s) T ∧ Grew w w' own own' := by
  have hkl := (List.getElem?_eq_some_iff.1 hks).1
  have hdl := delN_len L hkl
  have hset : insN (delN L k) k s = L.set k s := by
    apply List.ext_getElem?
    intro j
    rw [insN_get _ _ (by omega), List.getElem?_set]
    by_cases c1 : j < k
    · rw [if_pos c1, if_neg (by omega), delN_get _ hkl, if_pos c1]
    · rw [if_neg c1]
      by_cases c2 : j = k
      · subst c2
        rw [if_pos rfl, if_pos rfl, if_pos hkl]
      · rw [if_neg c2, if_neg (fun e => c2 e.symm), delN_get _ hkl, if_neg (by omega), show j - 1 + 1 = j by omega]
  have H := Lib.hid h
  have Hks := Lib.hid hks
  have Hset := Lib.hid hset
  clear h hks hset
  go_enter Tryz.func24, Tryz.ntmps24
  go_wp2_with fail
  refine (WalkCut_any B gk own L T k s0 w H.out Hks.out hL hn).mono ?_
  rintro e w1 ⟨rfl, own1, h1, g1⟩
  have H1 := Lib.hid h1
  have G1 := Lib.hid g1
  clear h1 g1
  go_wp2_with fail
  refine (WalkPut_any B gk own1 (delN L k) T k s w1 H1.out hs (by omega) (delN_lt hL) (by omega)).mono ?_
  rintro e w2 ⟨rfl, own2, h2, g2⟩
  rw [Hset.out] at h2
  have H2 := Lib.hid h2
  have G2 := Lib.hid (G1.out.trans g2)
  clear h2 g2
  go_wp2_with fail
  go_end0
  exact ⟨rfl, own2, H2.out, G2.out⟩
set_option maxRecDepth 100000 in
theorem WalkCountIn_any (B gk : Nat) (own : Nat → Nat) (L T : List Nat) (s : Nat) (w : World) (h : WalkE w B own gk L T) (hs : s < 257) (hT : T.length ≤ 1000) :
    Calls Tryz.prog 27 #[.pointer (some ⟨gk, 0, none⟩), .int .i64 (s : Int), .int .i64 1] w fun e w' => e = .returned (.tuple #[]) ∧ WalkE w' B own gk L (T ++ [s]) ∧ Grew w w' own own := by
  have hbnd := h.bnd
  obtain ⟨gv, gt, h1, h2, h3, h4, h5⟩ := h
  have c1 : w.cell? ⟨gk, 1, none⟩ = some (.pointer (some ⟨gt, 0, none⟩)) := (h1.cell 1).trans rfl
  have hgk := h1.lt
  have hgkt : gk ≠ gt := Bk.ne h1 h4 (by decide)
  have H1 := Lib.hid h1
  have H3 := Lib.hid h3
  have H4 := Lib.hid h4
  clear h1 h3 h4
  go_enter Tryz.func27, Tryz.ntmps27
  go_wp2_with fail
  refine (TallyAdd_any gt T s w H4.out hs hT).mono ?_
  rintro e w1 ⟨rfl, ht, hk⟩
  have hb1 := hk.bk H1.out hgkt
  have hw1 : WaveE w1 B own gv L := by
    obtain ⟨S, v, h⟩ := H3.out
    refine ⟨S, v, hk.bk h.blk (Bk.ne h.blk H4.out (by decide)), h.base, fun lv hl => ?_, fun b hb => ⟨(h.bnd b hb).1, Nat.lt_of_lt_of_le (h.bnd b hb).2 hk.size⟩⟩
    obtain ⟨G, g1, g2, g3⟩ := h.rows lv hl
    exact ⟨G, own_same g1 fun b cs _ hk' => hk.bk hk' (Bk.ne hk' H4.out (by decide)), g2, fun p hp => (g3 p hp).keep hk fun b t cs hin hk' _ e => by
      have e' : b = gt := e
      subst e'
      rw [(bk_inj hk' H4.out).1] at hin
      exact absurd hin (by decide)⟩
  have hE : WalkE w1 B own gk L (T ++ [s]) := ⟨gv, gt, hb1, h2, hw1, ht, h5⟩
  have hg : Grew w w1 own own := Grew.of_vb (B := B) (hk.mono fun b _ e => by left; rw [show b = gt from e, h5]) fun b hb => (hbnd b hb).2
  have HE := Lib.hid hE
  have HG := Lib.hid hg
  clear ht hk hb1 hw1 hE hg
  go_wp2_with fail
  go_end0
  exact ⟨rfl, HE.out, HG.out⟩
end Go.Proofs.YthkkcelfgcholaaGreat
