/- The walk of perm's Add (a row behind all others, a place that has none yet). Conditions: at most 2^20 pairs; no number is free. -/
import Derived.Test.YtdpknieiigibfaaFnPerm4
namespace Go.Proofs.Ytdpknieiigibfaa
open Go.RowKit
set_option linter.unusedVariables false
set_option linter.unusedSimpArgs false
theorem pair_info : (Try.prog.info? 67).map (fun i => (i.zero, i.size, i.bytes)) = some (some (.agg #[.int .i64 0, .int .i64 0]), 2, 16) := by kernel_rfl
/-- The blocks that Add may write. -/
def PF (gp ga : Nat) (vl vo vt : Value) (b : Nat) : Prop := b = gp ∨ b = ga ∨ vl.ownBlock = some b ∨ vo.ownBlock = some b ∨ vt.ownBlock = some b
theorem pairsL_snoc (C : List (Nat × Nat)) (x : Nat × Nat) : pairsL (C ++ [x]) = pairsL C ++ pairV x := by simp [pairsL]
theorem PermAt.below {w w' : World} {B gp ga : Nat} {vl vo vt vf : Value} {R P : Nat} {ks : List Nat} {C : List (Nat × Nat)} {tk : List Bool} {fr : List Nat} (h : PermAt w B gp ga vl vo vt vf R P ks C tk fr) (k : Below w.heap.size w w') : PermAt w' B gp ga vl vo vt vf R P ks C tk fr :=
  ⟨h.blk.below k h.blk.lt, own_below h.lrow k, own_below h.orow k, h.ar.below k h.ar.lt, own_below h.trow k, own_below h.frow k, h.apart, h.lt, h.lo⟩
/-- A row stays, if the blocks of its type do. -/
theorem own_keepT {F : Nat → Prop} {w w' : World} {B : Nat} {e : TypeId} {sz n : Nat} {v : Value} {xs : List Value} (h : w.ownsRow B e sz v n xs) (k : Keep F w w') (hf : ∀ b cs, F b → Bk w b e cs → False) : w'.ownsRow B e sz v n xs :=
  own_same h fun b cs _ hb => k.bk hb (fun f => hf b cs f hb)
/-- The last pair of a row is written. -/
theorem own_pair {w : World} {B g cap : Nat} {C : List (Nat × Nat)} {y : Nat × Nat} (h : w.ownsRow B 67 2 (.slice (some ⟨g, 0, none⟩) (C.length + 1) cap) (C.length + 1) (pairsL (C ++ [y]))) (x : Nat × Nat) :
    ((w.setCell ⟨g, C.length * 2, none⟩ (.int .i64 (x.1 : Int))).setCell ⟨g, C.length * 2 + 1, none⟩ (.int .i64 (x.2 : Int))).ownsRow B 67 2 (.slice (some ⟨g, 0, none⟩) (C.length + 1) cap) (C.length + 1) (pairsL (C ++ [x])) := by
  rcases h.2 with ⟨h1, _⟩ | ⟨g', cap', cur, h1, h2, h3, h4, h5, h6, h7⟩
  · cases h1
  · injection h1 with h8 h9 h10
    injection h8 with h8
    injection h8 with h8 _
    subst h8 h10
    have hb : Bk w g 67 cur := h3
    have hb2 := (hb.set (C.length * 2) (.int .i64 (x.1 : Int))).set (C.length * 2 + 1) (.int .i64 (x.2 : Int))
    refine ⟨by rw [pairsL_len]; simp, .inr ⟨g, cap, _, rfl, h2, hb2, h4, h5, by simpa using h6, ?_⟩⟩
    rw [pairsL_snoc] at h7 ⊢
    have hl := pairsL_len C
    apply List.ext_getElem?
    intro i
    have hi := congrArg (fun l => l[i]?) h7
    simp only [List.getElem?_take, Array.getElem?_toList] at hi
    rw [List.getElem?_take, Array.getElem?_toList, Array.getElem?_setIfInBounds, Array.getElem?_setIfInBounds]
    by_cases c1 : i < C.length * 2
    · rw [if_pos (by omega)] at hi ⊢
      rw [if_neg (by omega), if_neg (by omega), hi, List.getElem?_append_left (by omega), List.getElem?_append_left (by omega)]
    · by_cases c2 : i = C.length * 2
      · subst c2
        rw [if_pos (by omega), if_neg (by omega), if_pos rfl, if_pos (by omega), List.getElem?_append_right (by omega), hl, Nat.sub_self]
        rfl
      · by_cases c3 : i = C.length * 2 + 1
        · subst c3
          rw [if_pos (by omega), if_pos rfl, if_pos (by simp; omega), List.getElem?_append_right (by omega), hl, show C.length * 2 + 1 - C.length * 2 = 1 by omega]
          rfl
        · rw [if_neg (by omega), List.getElem?_eq_none (by simp [pairV]; omega)]
set_option maxRecDepth 100000 in
set_option maxHeartbeats 4000000 in
theorem PermAdd_any (B gp ga : Nat) (vl vo vt : Value) (R P : Nat) (ks : List Nat) (C : List (Nat × Nat)) (tk : List Bool) (row pos : Nat) (w : World) (h : PermAt w B gp ga vl vo vt (.slice none 0 0) R P ks C tk []) (hs : ks.Pairwise (fun a b => rowK C a < rowK C b))
    (hr : ∀ k ∈ ks, rowK C k < row) (hp : ∀ k ∈ ks, posK C k ≠ pos) (hR : row < R) (hP : pos < P) (ht : tk.length = C.length) (hC : C.length ≤ 900000) (hk : ks.length ≤ 900000) (hB : B ≤ w.heap.size) :
    Calls Try.prog 18 #[.pointer (some ⟨gp, 0, none⟩), .int .i64 (row : Int), .int .i64 (pos : Int)] w fun e w' => e = .returned (.int .i64 0) ∧ Keep (PF gp ga vl vo vt) w w' ∧ ∃ vl' vo' vt', PermAt w' B gp ga vl' vo' vt' (.slice none 0 0) R P (ks ++ [C.length]) (C ++ [(row, pos)]) (tk ++ [true]) [] ∧ (vo'.ownBlock = vo.ownBlock ∨ ∃ g, vo'.ownBlock = some g ∧ w.heap.size ≤ g) ∧ (vl'.ownBlock = vl.ownBlock ∨ ∃ g, vl'.ownBlock = some g ∧ w.heap.size ≤ g) ∧ (vt'.ownBlock = vt.ownBlock ∨ ∃ g, vt'.ownBlock = some g ∧ w.heap.size ≤ g) := by
  obtain ⟨i0, hi0, hz0, hz1, hz2⟩ := info_parts pair_info
  have hcnt : ks.countP (fun k => decide (rowK C k < row)) = ks.length := List.countP_eq_length.2 fun k hk => by simpa using hr k hk
  have hfnd : decide (∃ k ∈ ks, rowK C k = row) = false := by
    rw [decide_eq_false_iff_not]
    rintro ⟨k, hk, e⟩
    have := hr k hk
    omega
  have hhas : firstI (fun k => decide (posK C k = pos)) ks 0 = -1 := firstI_none (fun k hk => by simpa using hp k hk) 0
  have c3 : w.cell? ⟨gp, 3, none⟩ = some (.int .i64 (R : Int)) := (h.blk.cell 3).trans rfl
  have c4 : w.cell? ⟨gp, 4, none⟩ = some (.int .i64 (P : Int)) := (h.blk.cell 4).trans rfl
  have hat := PermAt_any B gp ga vl vo vt (.slice none 0 0) R P ks C tk [] row w h hs (by omega)
  rw [hcnt, hfnd] at hat
  have hhs := fun W hW => PermHas_any B gp ga vl vo vt (.slice none 0 0) R P ks C tk [] pos W hW (by omega)
  simp only [hhas] at hhs
  obtain ⟨n, hn⟩ : ∃ n, ks.length = n := ⟨_, rfl⟩
  obtain ⟨N, hN⟩ : ∃ n, C.length = n := ⟨_, rfl⟩
  rw [hn] at hat
  have Hhs := Lib.hid hhs
  have H := Lib.hid h
  have Hn := Lib.hid hn
  have HN := Lib.hid hN
  have Ht := Lib.hid ht
  have hN9 : N ≤ 900000 := by omega
  have hn9 : n ≤ 900000 := by omega
  have HB := Lib.hid hB
  clear hcnt hfnd hhas hhs hs hr hp h hn hN ht hC hk hB
  go_enter Try.func18, Try.ntmps18
  go_wp2_with fail
  refine hat.mono ?_
  clear hat
  rintro e w1 ⟨rfl, hb1⟩
  have h1 := H.out.below hb1
  have H1 := Lib.hid h1
  have Hb1 := Lib.hid hb1
  clear h1 hb1 c3 c4
  go_wp2_with fail
  refine (Hhs.out w1 H1.out).mono ?_
  rintro e w2 ⟨rfl, hb2⟩
  have h2 := H1.out.below hb2
  have hb12 := Hb1.out.trans (hb2.mono Hb1.out.size)
  have c0 : w2.cell? ⟨gp, 0, none⟩ = some (.pointer (some ⟨ga, 0, none⟩)) := (h2.blk.cell 0).trans rfl
  have H2 := Lib.hid h2
  have Hb2 := Lib.hid hb12
  clear h2 hb12 hb2 H1 Hb1 Hhs
  go_wp2_with fail
  obtain ⟨At, ct, hvt, _⟩ := own_shape H2.out.trow
  have htk : tk.length = N := by rw [Ht.out, HN.out]
  have hT := TakeMore_any B ga At ct none 0 N tk w2 (by have := H2.out.ar; rw [hvt, htk] at this; exact this) (by have := H2.out.trow; rw [hvt, htk] at this; exact this) (by have := HB.out; have := Hb2.out.size; omega) (by omega)
  have hvt' : vt = .slice At N ct := by rw [hvt, htk]
  rw [← hvt'] at hT
  refine hT.mono ?_
  clear hT hvt hvt' htk
  rintro e w3 ⟨rfl, hk3, vt', hbk3, hown3, hfr3⟩
  have hgp3 := hk3.bk H2.out.blk (fun f => by
    rcases f with f | f
    · exact Bk.ne H2.out.blk H2.out.ar (by decide) f
    · exact own_bk_ne H2.out.trow H2.out.blk (by decide) f.symm)
  have hvl3 := own_keepT H2.out.lrow hk3 (fun b cs f hb => by
    rcases f with f | f
    · subst f; exact Bk.ne hb H2.out.ar (by decide) rfl
    · exact own_bk_ne H2.out.trow hb (by decide) f.symm)
  have hvo3 := own_keepT H2.out.orow hk3 (fun b cs f hb => by
    rcases f with f | f
    · subst f; exact Bk.ne hb H2.out.ar (by decide) rfl
    · exact own_bk_ne H2.out.trow hb (by decide) f.symm)
  obtain ⟨Al, cl, hvl, _⟩ := own_shape hvl3
  have hvl' : vl = .slice Al N cl := by rw [hvl, HN.out]
  have d1 : w3.cell? ⟨gp, 1, none⟩ = some vl := (hgp3.cell 1).trans rfl
  have fp := hgp3.frozen 1
  rw [hvl'] at d1
  have hgp3l := hgp3.lt
  rw [HN.out] at hvl3
  have hB3 : B ≤ w3.heap.size := by have := hk3.size; have := HB.out; have := Hb2.out.size; omega
  have Hk3 := Lib.hid hk3
  have Hbk3 := Lib.hid hbk3
  have Hown3 := Lib.hid hown3
  have Hfr3 := Lib.hid hfr3
  have Hgp3 := Lib.hid hgp3
  have Hvl3 := Lib.hid hvl3
  have Hvo3 := Lib.hid hvo3
  have Hvl := Lib.hid hvl'
  have e1 := (World.cell?_alloc_lt w3 (Obj.cells #[.int .i64 0, .int .i64 0] 67) ⟨gp, 1, none⟩ hgp3l).trans d1
  clear hk3 hbk3 hown3 hfr3 hgp3 hvl3 hvo3 hvl hvl' c0
  go_wp2_with fail
  refine wp_loop_rounds 2 ?_
  rw [rounds_succ]
  go_wp2_with (at_builtin; refine wpList_push _ rfl (.tmp 72) (.tmp 74) _ rfl B 67 i0 (.agg #[.int .i64 0, .int .i64 0]) 2 16 Try.underlying61 hi0 hz0 hz1 hz2 rfl (by decide) vl N _ Hvl.out.symm Hvl3.out rfl rfl (by simp [Value.oneCell']) (by unfold maxLen; omega) (by omega) hB3 ?_; intro v5 w5 hown5 hg5 hs5 hat5; have hbk5 := Hgp3.out.grown hg5 (own_bk_ne Hvl3.out Hgp3.out (by decide)); have d5 : w5.cell? ⟨gp, 1, none⟩ = some vl := (hbk5.cell 1).trans rfl; have f5 := hbk5.frozen 1; rw [Hvl.out] at d5; obtain ⟨A9, c9, rfl, hm9⟩ := made_of_own hown5; have Hbk5 := Lib.hid hbk5; have Hown5 := Lib.hid hown5; have Hg5 := Lib.hid hg5; have Hat5 := Lib.hid hat5; clear hm9 hown5 hg5 hat5 hbk5)
  obtain ⟨g9, cur9, rfl, hg9, hb9, hcz9⟩ : ∃ g9, ∃ cur : Array Value, A9 = some ⟨g9, 0, none⟩ ∧ B ≤ g9 ∧ Bk w5 g9 67 cur ∧ N * 2 + 1 < cur.size := by
    rcases Hown5.out.2 with ⟨h1, h2⟩ | ⟨g, cap, cur, h1, h2, h3, h4, h5, h6, h7⟩
    · omega
    · injection h1 with h1 _ _
      exact ⟨g, cur, h1, h2, h3, by omega⟩
  have hgpn : gp ≠ g9 := Bk.ne Hbk5.out hb9 (by decide)
  have hgp6 := Hbk5.out.set 1 (.slice (some ⟨g9, 0, none⟩) (N + 1) c9)
  have hb96 := hb9.far (p := ⟨gp, 1, none⟩) (fun e => hgpn e.symm) (.slice (some ⟨g9, 0, none⟩) (N + 1) c9)
  have hk6 : Keep (PF gp ga vl vo vt) w2 (w5.setCell ⟨gp, 1, none⟩ (.slice (some ⟨g9, 0, none⟩) (N + 1) c9)) :=
    ((Hk3.out.mono (G := PF gp ga vl vo vt) (fun b _ f => by rcases f with f | f; exact .inr (.inl f); exact .inr (.inr (.inr (.inr f))))).grown Hg5.out (fun k hk => .inl (.inr (.inr (.inl hk))))).setCell (.inl (.inl rfl)) _
  have hvl6 := own_same (w' := w5.setCell ⟨gp, 1, none⟩ (.slice (some ⟨g9, 0, none⟩) (N + 1) c9)) Hown5.out fun b cs _ hb => hb.far (p := ⟨gp, 1, none⟩) (Bk.ne hb Hbk5.out (by decide)) _
  have hvo5 := own_same (w' := w5) Hvo3.out fun b cs _ hb => hb.grown Hg5.out (own_bk_ne Hvl3.out hb (by decide))
  have hvo6 := own_same (w' := w5.setCell ⟨gp, 1, none⟩ (.slice (some ⟨g9, 0, none⟩) (N + 1) c9)) hvo5 fun b cs _ hb => hb.far (p := ⟨gp, 1, none⟩) (Bk.ne hb Hbk5.out (by decide)) _
  have hga5 := Hbk3.out.grown Hg5.out (own_bk_ne Hvl3.out Hbk3.out (by decide))
  have hga6 := hga5.far (p := ⟨gp, 1, none⟩) (Bk.ne hga5 Hbk5.out (by decide)) (.slice (some ⟨g9, 0, none⟩) (N + 1) c9)
  have hvt5 := own_same (w' := w5) Hown3.out fun b cs _ hb => hb.grown Hg5.out (own_bk_ne Hvl3.out hb (by decide))
  have hvt6 := own_same (w' := w5.setCell ⟨gp, 1, none⟩ (.slice (some ⟨g9, 0, none⟩) (N + 1) c9)) hvt5 fun b cs _ hb => hb.far (p := ⟨gp, 1, none⟩) (Bk.ne hb Hbk5.out (by decide)) _
  have hfr6 : (Value.slice (some ⟨g9, 0, none⟩) (N + 1) c9).ownBlock = vl.ownBlock ∨ ∃ g, (Value.slice (some ⟨g9, 0, none⟩) (N + 1) c9).ownBlock = some g ∧ w2.heap.size ≤ g := by
    rcases Hat5.out with f | f
    · exact .inl f
    · exact .inr ⟨_, f, by have := Hk3.out.size; omega⟩
  clear Hk3 Hbk3 Hown3 Hgp3 Hvl3 Hvo3 Hbk5 Hown5 Hg5 Hat5 d1 fp e1 f5 d5 hvo5 hga5 hvt5
  generalize w5.setCell ⟨gp, 1, none⟩ (.slice (some ⟨g9, 0, none⟩) (N + 1) c9) = w6 at hgp6 hb96 hk6 hvl6 hvo6 hga6 hvt6 ⊢
  have d1 : w6.cell? ⟨gp, 1, none⟩ = some (.slice (some ⟨g9, 0, none⟩) (N + 1) c9) := (hgp6.cell 1).trans rfl
  have x0 := hb96.cell (N * 2)
  have x1 := hb96.cell (N * 2 + 1)
  rw [Array.getElem?_eq_getElem (by omega)] at x0 x1
  have y0 := hb96.frozen (N * 2)
  have y1 := hb96.frozen (N * 2 + 1)
  generalize cur9[N * 2]'(by omega) = u0 at x0
  generalize cur9[N * 2 + 1]'(by omega) = u1 at x1
  have Hgp6 := Lib.hid hgp6
  have Hb96 := Lib.hid hb96
  have Hk6 := Lib.hid hk6
  have Hvl6 := Lib.hid hvl6
  have Hvo6 := Lib.hid hvo6
  have Hga6 := Lib.hid hga6
  have Hvt6 := Lib.hid hvt6
  have Hfr6 := Lib.hid hfr6
  have hlt1 : decide (N + 1 ≤ N) = false := by simp
  have hlt2 : decide ((N : Int) + 1 ≤ (N : Int)) = false := by simp; omega
  have d2 : w6.cell? ⟨gp, 2, none⟩ = some vo := (hgp6.cell 2).trans rfl
  obtain ⟨Ao, co, hvo, _⟩ := own_shape hvo6
  have hvo' : vo = .slice Ao n co := by rw [hvo, Hn.out]
  have Hvo := Lib.hid hvo'
  rw [hvo'] at d2
  clear hgp6 hb96 hk6 hvl6 hvo6 hga6 hvt6 hfr6 hvo hvo' hb9 hcz9
  rw [rounds_succ]
  go_wp2_with fail
  have hvl7 := own_pair (C := C) (y := (0, 0)) (g := g9) (cap := c9) (w := w6) (B := B) (by
    rw [HN.out, pairsL_snoc]
    exact Hvl6.out) (row, pos)
  rw [HN.out] at hvl7
  have hkk : Keep (fun b => b = g9) w6 ((w6.setCell ⟨g9, N * 2, none⟩ (.int .i64 (row : Int))).setCell ⟨g9, N * 2 + 1, none⟩ (.int .i64 (pos : Int))) := ((Keep.refl (fun b => b = g9) w6).setCell (p := ⟨g9, N * 2, none⟩) (.inl rfl) _).setCell (p := ⟨g9, N * 2 + 1, none⟩) (.inl rfl) _
  have hsz7 : ((w6.setCell ⟨g9, N * 2, none⟩ (.int .i64 (row : Int))).setCell ⟨g9, N * 2 + 1, none⟩ (.int .i64 (pos : Int))).heap.size = w6.heap.size := by simp [World.setCell]
  rw [← hsz7]
  clear x0 x1 y0 y1 d1 d2 hlt1 hlt2
  generalize (w6.setCell ⟨g9, N * 2, none⟩ (.int .i64 (row : Int))).setCell ⟨g9, N * 2 + 1, none⟩ (.int .i64 (pos : Int)) = w7 at hvl7 hkk hsz7 ⊢
  have hgp7 := hkk.bk Hgp6.out (fun f => hgpn f)
  have hga7 := hkk.bk Hga6.out (fun f => by subst f; exact Bk.ne Hga6.out Hb96.out (by decide) rfl)
  have hvo7 := own_keepT Hvo6.out hkk (fun b cs f hb => by subst f; exact Bk.ne hb Hb96.out (by decide) rfl)
  have hvt7 := own_keepT Hvt6.out hkk (fun b cs f hb => by subst f; exact Bk.ne hb Hb96.out (by decide) rfl)
  have hB2 : B ≤ w2.heap.size := by have := HB.out; have := Hb2.out.size; omega
  have hB6 := Hk6.out.size
  have hB7 : B ≤ (w7.alloc (.cells #[.int .i64 (N : Int)] 3)).heap.size := by simp; omega
  have hz8 : w7.heap.size < (w7.alloc (.cells #[.int .i64 (N : Int)] 3)).heap.size := by simp
  have hrd8 : Rd (w7.alloc (.cells #[.int .i64 (N : Int)] 3)) (w7.alloc (.cells #[.int .i64 (N : Int)] 3)).heap.size 1 (some ⟨w7.heap.size, 0, none⟩) 1 [sv N] := (Rd.new_ w7 3 1 #[.int .i64 (N : Int)] rfl).mono (by simp)
  have hvo8 := hvo7.alloc (.cells #[.int .i64 (N : Int)] 3)
  have hvl8 := hvl7.alloc (.cells #[.int .i64 (N : Int)] 3)
  have hvt8 := hvt7.alloc (.cells #[.int .i64 (N : Int)] 3)
  have hgp8 := hgp7.alloc (.cells #[.int .i64 (N : Int)] 3)
  have hga8 := hga7.alloc (.cells #[.int .i64 (N : Int)] 3)
  have hb78 : Below w7.heap.size w7 (w7.alloc (.cells #[.int .i64 (N : Int)] 3)) := (Below.refl _ _).alloc (Nat.le_refl _) _
  obtain ⟨g7, hg7⟩ : ∃ g, w7.heap.size = g := ⟨_, rfl⟩
  rw [hg7] at hrd8 hz8
  rw [hg7]
  generalize w7.alloc (.cells #[.int .i64 (N : Int)] 3) = w8 at hB7 hrd8 hvo8 hvl8 hvt8 hgp8 hga8 hb78 hz8 ⊢
  have hk8 : Keep (PF gp ga vl vo vt) w2 w8 := (Hk6.out.trans' (hkk.trans' (Keep.of_below hb78) (fun _ _ f => f)) (fun b hb f => by
    rcases Hfr6.out with h | ⟨g, h, h'⟩
    · exact .inr (.inr (.inl (by rw [← h, f]; rfl)))
    · exfalso
      have : g9 = g := by simpa [Value.ownBlock] using h
      omega))
  rw [Hn.out, Hvo.out] at hvo8
  have hins := InsertEnd_any B Ao n co (ks.map sv) (some ⟨g7, 0, none⟩) 1 N w8 hvo8 hrd8 hB7 (by omega)
  refine hins.mono ?_
  clear hins
  rintro e w9 ⟨v9, rfl, hown9, hg9', hat9⟩
  rw [← Hvo.out] at hg9' hat9 hvo8
  have hgp9 := hgp8.grown hg9' (own_bk_ne hvo8 hgp8 (by decide))
  have hga9 := hga8.grown hg9' (own_bk_ne hvo8 hga8 (by decide))
  have hvl9 := own_same (w' := w9) hvl8 fun b cs _ hb => hb.grown hg9' (own_bk_ne hvo8 hb (by decide))
  have hvt9 := own_same (w' := w9) hvt8 fun b cs _ hb => hb.grown hg9' (own_bk_ne hvo8 hb (by decide))
  have hk9 := hk8.grown hg9' (fun k hk => .inl (.inr (.inr (.inr (.inl hk)))))
  have hfr9 : v9.ownBlock = vo.ownBlock ∨ ∃ g, v9.ownBlock = some g ∧ w2.heap.size ≤ g := by
    rcases hat9 with f | f
    · exact .inl f
    · exact .inr ⟨_, f, hk8.size⟩
  have d2 : w9.cell? ⟨gp, 2, none⟩ = some vo := (hgp9.cell 2).trans rfl
  rw [Hvo.out] at d2
  have f2 := hgp9.frozen 2
  obtain ⟨A', c', hv9, _⟩ := own_shape hown9
  have Hv9 := Lib.hid hv9
  have Hgp9 := Lib.hid hgp9
  have Hga9 := Lib.hid hga9
  have Hvl9 := Lib.hid hvl9
  have Hvt9 := Lib.hid hvt9
  have Hown9 := Lib.hid hown9
  have Hk9 := Lib.hid hk9
  have Hfr9 := Lib.hid hfr9
  clear hvl7 hkk hsz7 hgp7 hga7 hvo7 hvt7 hB7 hz8 hrd8 hvo8 hvl8 hvt8 hgp8 hga8 hb78 hg7 hk8 hg9' hat9 hgp9 hga9 hvl9 hvt9 hown9 hk9 hfr9
  subst hv9
  go_wp2_with fail
  go_ret
  have hne : ∀ b t cs, Bk w9 b t cs → t ≠ 65 → Bk (w9.setCell ⟨gp, 2, none⟩ (.slice A' (n + 1) c')) b t cs := fun b t cs hb ht => hb.far (p := ⟨gp, 2, none⟩) (Bk.ne hb Hgp9.out ht) _
  refine ⟨rfl, (Keep.of_below Hb2.out).trans' (Hk9.out.setCell (.inl (.inl rfl)) _) (fun _ _ f => f), .slice (some ⟨g9, 0, none⟩) (N + 1) c9, .slice A' (n + 1) c', vt', ⟨Hgp9.out.set 2 _, ?_, ?_, hne _ _ _ Hga9.out (by decide), ?_, ?_, ?_, ?_, H.out.lo⟩, ?_, ?_, ?_⟩
  · have := own_same (w' := w9.setCell ⟨gp, 2, none⟩ (.slice A' (n + 1) c')) Hvl9.out fun b cs _ hb => hne _ _ _ hb (by decide)
    simpa [HN.out] using this
  · have := own_same (w' := w9.setCell ⟨gp, 2, none⟩ (.slice A' (n + 1) c')) Hown9.out fun b cs _ hb => hne _ _ _ hb (by decide)
    simpa [Hn.out, HN.out] using this
  · have := own_same (w' := w9.setCell ⟨gp, 2, none⟩ (.slice A' (n + 1) c')) Hvt9.out fun b cs _ hb => hne _ _ _ hb (by decide)
    simpa [Ht.out, HN.out] using this
  · exact World.ownsRow_nil _ _ _ _
  · rcases (Value.slice A' (n + 1) c').ownBlock with _ | g
    · exact .inl rfl
    · exact .inr (by simp [Value.ownBlock])
  · intro k hk
    rcases List.mem_append.1 hk with h | h
    · have := H.out.lt k h
      simp
      omega
    · simp at h
      simp
      omega
  · rcases Hfr9.out with f | ⟨g, f, f'⟩
    · exact .inl f
    · exact .inr ⟨g, f, by have := Hb2.out.size; omega⟩
  · rcases Hfr6.out with f | ⟨g, f, f'⟩
    · exact .inl f
    · exact .inr ⟨g, f, by have := Hb2.out.size; omega⟩
  · rcases Hfr3.out with f | ⟨g, f, f'⟩
    · exact .inl f
    · exact .inr ⟨g, f, by have := Hb2.out.size; omega⟩
end Go.Proofs.Ytdpknieiigibfaa
