/- The walks of script.told and script.Run at a store, for steps that are refused or reload. The walks of script.told and script.Plain at an empty model, for steps that leave it empty. The walk of scrimshawlaw22's told. No conditions. -/
import Derived.Test.YtnileogagoipiaaGreatDoorPkY
import Derived.Test.YtnileogagoipiaaGreatDoorPkX
import Derived.Test.YtnileogagoipiaaGreatDoorPkW
namespace Go.Proofs.YtnileogagoipiaaGreatDoor
open Go.RowKit
set_option linter.unusedVariables false
set_option linter.unusedSimpArgs false
theorem res_info : (Tryz.prog.info? 41).map (fun i => (i.zero.map (·.cells.size), i.size, i.bytes)) = some (some 4, 4, 64) := by kernel_rfl
theorem res_parts : ∃ i0 z0, Tryz.prog.info? 41 = some i0 ∧ i0.zero = some z0 ∧ i0.size = 4 ∧ i0.bytes = 64 ∧ z0.cells.size = 4 := by
  have h := res_info
  cases hi : Tryz.prog.info? 41 with
  | none => rw [hi] at h; cases h
  | some i0 =>
    rw [hi] at h
    cases hz : i0.zero with
    | none => simp [hz] at h
    | some z0 =>
      simp [hz] at h
      exact ⟨i0, z0, rfl, hz, h.2.1, h.2.2, h.1⟩
theorem StpsAt.get {w : World} {B : Nat} : ∀ {L : List Sp} {xs : List Value} {k : Nat} {s : Sp}, StpsAt w B xs L → L[k]? = some s →
    ∃ A n c, xs[k * 4]? = some (.int .i64 s.kind) ∧ xs[k * 4 + 1]? = some (.int .i64 s.p) ∧ xs[k * 4 + 2]? = some (.int .i64 s.k) ∧ xs[k * 4 + 3]? = some (.slice A n c) ∧ DataAt w B A n c s.D
  | [], _, k, _, _, h => by simp at h
  | s0 :: L, xs, 0, s, ⟨A, n, c, ys, e, hd, h⟩, hk => by
    have hk' : s0 = s := by simpa using hk
    subst hk'
    exact ⟨A, n, c, by rw [e]; rfl, by rw [e]; rfl, by rw [e]; rfl, by rw [e]; rfl, hd⟩
  | s0 :: L, xs, k + 1, s, ⟨A, n, c, ys, e, hd, h⟩, hk => by
    obtain ⟨A', n', c', h0, h1, h2, h3, h4⟩ := StpsAt.get h (k := k) (s := s) (by simpa using hk)
    have e0 : ∀ j, xs[(k + 1) * 4 + j]? = ys[k * 4 + j]? := fun j => by
      rw [e, show (k + 1) * 4 + j = (k * 4 + j) + 1 + 1 + 1 + 1 by omega]
      simp
    exact ⟨A', n', c', (e0 0).trans h0, (e0 1).trans h1, (e0 2).trans h2, (e0 3).trans h3, h4⟩
theorem StpsAt.frs {w w' : World} {B : Nat} {L : List Sp} {xs : List Value} (h : StpsAt w B xs L) (k : FrS w w') : StpsAt w' B xs L := h.keep fun g cs _ hb => k _ _ _ (by decide) (by decide) (by decide) hb
/-- A step that a store of N bytes refuses, or a reload. -/
def OkS (N : Nat) (s : Sp) : Prop := ((s.kind = 1 ∨ s.kind = 2 ∨ s.kind = 3) ∧ stHas N s.p (stEditN s.kind s.k s.D.length) = false) ∨ s.kind = 8
def ansK (s : Sp) : Int := if s.kind = 8 then 0 else 2
def ansRow (L : List Sp) : List Value := L.flatMap fun s => (resZ (ansK s)).toList
theorem ansRow_snoc (L : List Sp) (s : Sp) : ansRow (L ++ [s]) = ansRow L ++ (resZ (ansK s)).toList := by simp [ansRow]
theorem StDo_ok (Bw gs gl most rate N : Nat) (t : List UInt8) (s : Sp) (A : Option Addr) (m c : Nat) (w : World) (h : StAt w Bw gs gl most rate t) (hN : t.length = N) (hm : s.D.length = m) (hok : OkS N s) :
    Calls Tryz.prog 24 #[.pointer (some ⟨gs, 0, none⟩), .agg #[.int .i64 s.kind, .int .i64 s.p, .int .i64 s.k, .slice A m c]] w fun e w' => e = .returned (.agg #[.int .i64 (ansK s), .int .i64 0, .slice none 0 0, .slice none 0 0]) ∧ ((∃ gl', StAt w' Bw gs gl' most rate t) ∧ Below Bw w w' ∧ FrS w w') := by
  have hbw : Bw ≤ w.heap.size := by have := h.low; have := h.blk.lt; omega
  rcases hok with ⟨hk, hno⟩ | hk
  · have ha : ansK s = 2 := by unfold ansK; rw [if_neg (by omega)]
    rw [ha]
    rw [hm] at hno
    exact (StDoNo_any Bw gs gl most rate N t s.kind s.p s.k A m c w h hN hk hno).mono fun e w' ⟨h1, h2⟩ => ⟨h1, ⟨gl, h.vb (Vis.of_below h2)⟩, h2.mono hbw, FrS.of_below h2⟩
  · have ha : ansK s = 0 := by unfold ansK; rw [if_pos hk]
    rw [ha, hk]
    exact StDoRe_any Bw gs gl most rate t s.p s.k A m c w h
theorem StAt.grown {w w' : World} {Bw gs gl most rate b sz n : Nat} {t : List UInt8} {v : Value} {ys : List Value} (h : StAt w Bw gs gl most rate t) (ho : w.ownsRow b 41 sz v n ys) (hg : w.grownBy w' v.ownBlock) : StAt w' Bw gs gl most rate t := by
  have hf : ∀ b t' cs', t' ≠ 41 → Bk w b t' cs' → Bk w' b t' cs' := fun b t' cs' ht hb => (hg.block b hb.lt (own_bk_ne ho hb (fun e => ht e.symm))).trans hb
  exact ⟨hf _ _ _ (by decide) h.blk, h.low, h.tp.sameR hf, h.len, h.max, h.r1, h.r2⟩
theorem FrS.grown {w w1 w' : World} {sz n : Nat} {v : Value} {ys : List Value} {e : TypeId} (h : FrS w w1) (ho : w1.ownsRow w.heap.size e sz v n ys) (hg : w1.grownBy w' v.ownBlock) : FrS w w' := fun b t cs h1 h2 h3 hb => by
  have hb1 := h b t cs h1 h2 h3 hb
  refine (hg.block b hb1.lt (fun e => ?_)).trans hb1
  have := (ho.lt b e.symm).1
  have := hb.lt
  omega
def ToldPost (w : World) (Bw gs most rate : Nat) (t : List UInt8) (L : List Sp) (n : Nat) (e : Ending) (w' : World) : Prop :=
  ∃ v, e = .returned v ∧ w'.ownsRow w.heap.size 41 4 v n (ansRow L) ∧ (∃ gl', StAt w' Bw gs gl' most rate t) ∧ Below Bw w w' ∧ FrS w w'
set_option maxRecDepth 100000 in
set_option maxHeartbeats 1000000 in
theorem ScTold_any (Bw gs gl most rate N b0 b1 : Nat) (t : List UInt8) (A : Option Addr) (n c : Nat) (xs : List Value) (L : List Sp) (w : World) (h : StAt w Bw gs gl most rate t) (hN : t.length = N)
    (hl : w.ownsRow b0 29 4 (.slice A n c) n xs) (hs : StpsAt w b1 xs L) (hn : L.length = n) (hn2 : n ≤ 100000) (hok : ∀ s ∈ L, OkS N s) :
    Calls Tryz.prog 18 #[.func (Fn.func 24) #[.pointer (some ⟨gs, 0, none⟩)] #[], .slice A n c] w (ToldPost w Bw gs most rate t L n) := by
  obtain ⟨i0, z0, hi0, hz0, hz1, hz2, hz3⟩ := res_parts
  have hbw : Bw ≤ w.heap.size := by have := h.low; have := h.blk.lt; omega
  have H := Lib.hid h
  have HL := Lib.hid hl
  have HS := Lib.hid hs
  have HN := Lib.hid hN
  have Hn := Lib.hid hn
  have HO := Lib.hid hok
  clear h hl hs hN hn hok
  go_enter Tryz.func18, Tryz.ntmps18
  go_wp2_with fail
  go_loopw [5, 10] (fun v i wr => ∃ k : Nat, k ≤ n ∧ i = .int .i64 (k : Int) ∧ wr.ownsRow w.heap.size 41 4 v k (ansRow (L.take k)) ∧ (∃ gl', StAt wr Bw gs gl' most rate t) ∧ Below Bw w wr ∧ FrS w wr ∧ w.heap.size ≤ wr.heap.size) (fun _ i _ => n - (intOf i).toNat)
  case atStart => exact ⟨0, by omega, rfl, World.ownsRow_nil _ _ _ _, ⟨gl, H.out⟩, Below.refl _ _, fun _ _ _ _ _ _ h => h, Nat.le_refl _⟩
  case round =>
    obtain ⟨k, hk, rfl, hown, ⟨gl', hst⟩, hb, hf, hsz⟩ := hrel
    by_cases hlt : k < n
    · obtain ⟨s, hsk⟩ : ∃ s, L[k]? = some s := ⟨_, List.getElem?_eq_getElem (by rw [Hn.out]; exact hlt)⟩
      have hlw := own_same HL.out fun b cs _ hb' => hf _ _ _ (by decide) (by decide) (by decide) hb'
      obtain ⟨Ad, md, cd, x0, x1, x2, x3, hd⟩ := (HS.out.frs hf).get hsk
      have hrd := Rd.of_own hlw
      obtain ⟨gl0, off, rfl, hglt, hcell⟩ := hrd.2 (by omega)
      have d0 : wr.cell? ⟨gl0, off + k * 4, none⟩ = some (.int .i64 s.kind) := hcell _ _ x0
      have d1 : wr.cell? ⟨gl0, off + k * 4 + 1, none⟩ = some (.int .i64 s.p) := hcell _ _ x1
      have d2 : wr.cell? ⟨gl0, off + k * 4 + 2, none⟩ = some (.int .i64 s.k) := hcell _ _ x2
      have d3 : wr.cell? ⟨gl0, off + k * 4 + 3, none⟩ = some (.slice Ad md cd) := hcell _ _ x3
      have Hst := Lib.hid hst
      have Hown := Lib.hid hown
      have Hb := Lib.hid hb
      have Hf := Lib.hid hf
      have Hd := Lib.hid hd
      have Hsk := Lib.hid hsk
      clear hst hown hb hf hd hsk x0 x1 x2 x3 hcell hrd hlw
      go_wp2_with fail
      have hal : Below wr.heap.size wr (wr.alloc (.cells #[.int .i64 s.kind, .int .i64 s.p, .int .i64 s.k, .slice Ad md cd] 29)) := (Below.refl _ _).alloc (Nat.le_refl _) _
      refine (StDo_ok Bw gs gl' most rate N t s Ad md cd _ (Hst.out.vb (Vis.of_below hal)) HN.out Hd.out.1 (HO.out s (List.mem_of_getElem? Hsk.out))).mono ?_
      rintro e w1 ⟨rfl, ⟨gl2, hst1⟩, hb1, hf1⟩
      have hf01 := (FrS.of_below hal).trans hf1
      have hown1 := own_same Hown.out fun b cs _ hb' => hf01 _ _ _ (by decide) (by decide) (by decide) hb'
      have hszr : wr.heap.size ≤ w1.heap.size := Nat.le_trans hal.size hb1.size
      obtain ⟨an, han⟩ : ∃ an, ansK s = an := ⟨_, rfl⟩
      rw [han]
      have hal1 : Below w1.heap.size w1 (w1.alloc (.cells #[.int .i64 an, .int .i64 0, .slice none 0 0, .slice none 0 0] 41)) := (Below.refl _ _).alloc (Nat.le_refl _) _
      have hown2 := own_below hown1 hal1
      have hst2 := hst1.vb (Vis.of_below hal1)
      have hf02 := (Hf.out.trans hf01).trans (FrS.of_below hal1)
      have hb02 := (Hb.out.trans ((hal.mono (by omega)).trans hb1)).trans (hal1.mono (by omega))
      have hsz2 : w.heap.size ≤ (w1.alloc (.cells #[.int .i64 an, .int .i64 0, .slice none 0 0, .slice none 0 0] 41)).heap.size := by have := hal1.size; omega
      have Hown2 := Lib.hid hown2
      have Hst2 := Lib.hid hst2
      have Hf2 := Lib.hid hf02
      have Hb2 := Lib.hid hb02
      have Han := Lib.hid han
      have Hs2 := Lib.hid hsz2
      clear hown1 hown2 hst1 hst2 hf01 hf02 hf1 hb1 hb02 hal hal1 Hst Hown Hf Hb han hsz2 d0 d1 d2 d3
      go_wp2_with (at_builtin; refine wpList_append_rd _ rfl (.tmp 14) (.tmp 18) _ rfl w.heap.size 41 i0 z0 4 64 Tryz.underlying36 hi0 hz0 hz1 hz2 hz3 (by decide) u5 k _ rfl Hown2.out _ _ 1 1 _ rfl (sc_rd_bk (Bk.new w1 41 #[.int .i64 an, .int .i64 0, .slice none 0 0, .slice none 0 0]) rfl) (by simp [Value.oneCell']) (by unfold maxLen; omega) (by omega) Hs2.out ?_; intro v2 w2 hown3 hg3 hat3)
      have hst3 := Hst2.out.grown Hown2.out hg3
      have hf3 := Hf2.out.grown Hown2.out hg3
      have hb3 := below_grown Hb2.out (own_mono Hown2.out hbw) hg3 (Nat.le_trans hbw Hs2.out)
      have hs3 := Nat.le_trans Hs2.out hg3.size
      go_roundw
      case rel =>
        refine ⟨k + 1, by omega, by go_num, ?_, ⟨gl2, hst3⟩, hb3, hf3, hs3⟩
        have e : L.take (k + 1) = L.take k ++ [s] := by rw [List.take_add_one, Hsk.out]; rfl
        rw [e, ansRow_snoc, Han.out]
        exact hown3
      case measure => simp [intOf]; omega
    · have hk3 : k = n := by omega
      subst hk3
      rw [List.take_of_length_le (by rw [Hn.out]; exact Nat.le_refl _)] at hown
      go_wp2_with fail
      go_ret
      exact ⟨_, rfl, hown, ⟨gl', hst⟩, hb, hf⟩
set_option maxRecDepth 100000 in
theorem ScRun_any (Bw gs gl most rate N b0 b1 : Nat) (t : List UInt8) (A : Option Addr) (n c : Nat) (xs : List Value) (L : List Sp) (w : World) (h : StAt w Bw gs gl most rate t) (hN : t.length = N)
    (hl : w.ownsRow b0 29 4 (.slice A n c) n xs) (hs : StpsAt w b1 xs L) (hn : L.length = n) (hn2 : n ≤ 100000) (hok : ∀ s ∈ L, OkS N s) :
    Calls Tryz.prog 16 #[.pointer (some ⟨gs, 0, none⟩), .slice A n c] w (ToldPost w Bw gs most rate t L n) := by
  have ht := ScTold_any Bw gs gl most rate N b0 b1 t A n c xs L w h hN hl hs hn hn2 hok
  have HT := Lib.hid ht
  clear h hl hs hn hok ht
  unfold ToldPost at HT ⊢
  go_enter Tryz.func16, Tryz.ntmps16
  go_wp2_with fail
  refine HT.out.mono ?_
  rintro e w1 ⟨v, rfl, h1, h2, h3, h4⟩
  go_wp2_with fail
  go_ret
  exact ⟨v, rfl, h1, h2, h3, h4⟩
end Go.Proofs.YtnileogagoipiaaGreatDoor
namespace Go.Proofs.YtnileogagoipiaaGreatDoor
open Go.RowKit
set_option linter.unusedVariables false
set_option linter.unusedSimpArgs false
/-- An empty model. -/
structure M0 (w : World) (g gp : Nat) (most : Int) : Prop where
  mod : Bk w g 52 #[.pointer (some ⟨gp, 0, none⟩), .int .i64 most]
  pl : ∃ A c, Bk w gp 50 #[.slice A 0 c]
  b0 : 0 ≤ most
  b1 : most ≤ 2147483648
theorem M0.pls {w : World} {g gp : Nat} {most : Int} (h : M0 w g gp most) : PlS w gp [] := by
  obtain ⟨A, c, hb⟩ := h.pl
  exact ⟨A, c, hb, ⟨rfl, fun h => absurd h (by simp)⟩, Nat.zero_le _, fun h => absurd h (by simp)⟩
theorem M0.ne {w : World} {g gp : Nat} {most : Int} (h : M0 w g gp most) : g ≠ gp := by
  obtain ⟨A, c, hb⟩ := h.pl
  intro e
  have h1 := h.mod
  rw [e] at h1
  exact absurd (bk_type h1 hb) (by decide)
theorem M0.keep {w w' : World} {g gp : Nat} {most : Int} (h : M0 w g gp most) (k : ∀ b t cs, t ≠ 41 → Bk w b t cs → Bk w' b t cs) : M0 w' g gp most := by
  obtain ⟨A, c, hb⟩ := h.pl
  exact ⟨k _ _ _ (by decide) h.mod, ⟨A, c, k _ _ _ (by decide) hb⟩, h.b0, h.b1⟩
theorem M0.below {w w' : World} {g gp : Nat} {most : Int} (h : M0 w g gp most) (k : Below w.heap.size w w') : M0 w' g gp most := h.keep fun b t cs _ hb => hb.below k hb.lt
theorem M0.grown {w w' : World} {g gp b sz n : Nat} {most : Int} {v : Value} {ys : List Value} (h : M0 w g gp most) (ho : w.ownsRow b 41 sz v n ys) (hg : w.grownBy w' v.ownBlock) : M0 w' g gp most :=
  h.keep fun b t cs ht hb => (hg.block b hb.lt (own_bk_ne ho hb (fun e => ht e.symm))).trans hb
/-- Blocks but the plain text's stand. -/
def FrM (w w' : World) : Prop := ∀ b t cs, t ≠ 50 → Bk w b t cs → Bk w' b t cs
theorem FrM.of_below {w w' : World} (k : Below w.heap.size w w') : FrM w w' := fun b t cs _ hb => hb.below k hb.lt
theorem FrM.trans {w w1 w' : World} (h : FrM w w1) (k : FrM w1 w') : FrM w w' := fun b t cs h1 hb => k b t cs h1 (h b t cs h1 hb)
theorem FrM.grown {w w1 w' : World} {sz n : Nat} {v : Value} {ys : List Value} {e : TypeId} (h : FrM w w1) (ho : w1.ownsRow w.heap.size e sz v n ys) (hg : w1.grownBy w' v.ownBlock) : FrM w w' := fun b t cs h1 hb => by
  have hb1 := h b t cs h1 hb
  refine (hg.block b hb1.lt (fun e => ?_)).trans hb1
  have := (ho.lt b e.symm).1
  have := hb.lt
  omega
/-- A step that leaves an empty text empty and tells a code alone. -/
structure OkM (most : Int) (mC : Sp → Int) (s : Sp) : Prop where
  at0 : doM [] most s.kind s.p s.k s.D = ([], ⟨mC s, 0, [], []⟩)
  pb : -9223372036854775808 ≤ s.p ∧ s.p ≤ 9223372036854775807
  kb : -9223372036854775808 ≤ s.k ∧ s.k ≤ 9223372036854775807
  db : s.D.length ≤ 549755813888
def DoZ (g gp : Nat) (most : Int) (B : Nat) (code : Int) (w : World) (e : Ending) (w' : World) : Prop :=
  ∃ A1 c1 A2 c2, e = .returned (.agg #[.int .i64 code, .int .i64 0, .slice A1 0 c1, .slice A2 0 c2]) ∧ M0 w' g gp most ∧ FrM w w' ∧ Below B w w'
theorem PlDo_ok (g gp B b1 : Nat) (most : Int) (mC : Sp → Int) (s : Sp) (A : Option Addr) (m c : Nat) (w : World) (h : M0 w g gp most) (hB : B ≤ gp) (hd : DataAt w b1 A m c s.D) (hok : OkM most mC s) :
    Calls Tryz.prog 19 #[.pointer (some ⟨g, 0, none⟩), .agg #[.int .i64 s.kind, .int .i64 s.p, .int .i64 s.k, .slice A m c]] w (DoZ g gp most B (mC s) w) := by
  obtain ⟨Ap, cp, hpl⟩ := h.pl
  have hne : 0 < m → ∀ a, A = some a → a.block ≠ gp := fun h0 a ha e => by
    obtain ⟨_, _, _, ⟨h1, _, _⟩ | ⟨g1, cs, h1, _, h2, _⟩⟩ := hd
    · rw [h1] at ha; cases ha
    · rw [h1] at ha
      injection ha with ha
      subst ha
      have e' : g1 = gp := e
      subst e'
      exact absurd (bk_type h2 hpl) (by decide)
  have hm : m ≤ 549755813888 := by have := hd.1; have := hok.db; omega
  refine (Do_any g gp A m c w.heap.size s.kind s.p s.k most [] s.D [] ⟨mC s, 0, [], []⟩ hok.at0 w h.mod h.pls hd.rd (Nat.le_refl _) hne h.ne (by simp) hm hok.pb hok.kb ⟨h.b0, h.b1⟩).mono ?_
  rintro e w' ⟨A1, c1, A2, c2, he, hk, h3, h4, h5⟩
  obtain ⟨A5, c5, h6, _⟩ := h5
  exact ⟨A1, c1, A2, c2, he, ⟨hk.bk h.mod (fun e => h.ne e), ⟨A5, c5, h6⟩, h.b0, h.b1⟩, fun b t cs ht hb => hk.bk hb (fun e => by
    have e' : b = gp := e
    subst e'
    exact ht (bk_type hb hpl)), hk.to_below (by have := hpl.lt; omega) (fun b hb e => by have e' : b = gp := e; omega)⟩
def PlainPost (w : World) (g gp B : Nat) (most : Int) (mC : Sp → Int) (L : List Sp) (n : Nat) (e : Ending) (w' : World) : Prop :=
  ∃ v ys, e = .returned v ∧ w'.ownsRow w.heap.size 41 4 v n ys ∧ (∀ k s, k < n → L[k]? = some s → ys[k * 4]? = some (.int .i64 (mC s))) ∧ M0 w' g gp most ∧ Below B w w' ∧ FrM w w'
theorem frm_own {w w' : World} {b sz n : Nat} {e : TypeId} {v : Value} {xs : List Value} (he : e ≠ 50) (h : w.ownsRow b e sz v n xs) (k : FrM w w') : w'.ownsRow b e sz v n xs := own_same h fun b cs _ hb => k _ _ _ he hb
theorem StpsAt.frm {w w' : World} {B : Nat} {L : List Sp} {xs : List Value} (h : StpsAt w B xs L) (k : FrM w w') : StpsAt w' B xs L := h.keep fun g cs _ hb => k _ _ _ (by decide) hb
set_option maxRecDepth 100000 in
set_option maxHeartbeats 1000000 in
theorem PlTold_any (g gp B b0 b1 : Nat) (most : Int) (mC : Sp → Int) (A : Option Addr) (n c : Nat) (xs : List Value) (L : List Sp) (w : World) (h : M0 w g gp most) (hB : B ≤ gp)
    (hl : w.ownsRow b0 29 4 (.slice A n c) n xs) (hs : StpsAt w b1 xs L) (hn : L.length = n) (hn2 : n ≤ 100000) (hok : ∀ s ∈ L, OkM most mC s) :
    Calls Tryz.prog 18 #[.func (Fn.func 19) #[.pointer (some ⟨g, 0, none⟩)] #[], .slice A n c] w (PlainPost w g gp B most mC L n) := by
  obtain ⟨i0, z0, hi0, hz0, hz1, hz2, hz3⟩ := res_parts
  have hbw : B ≤ w.heap.size := by obtain ⟨_, _, hp⟩ := h.pl; have := hp.lt; omega
  have H := Lib.hid h
  have HL := Lib.hid hl
  have HS := Lib.hid hs
  have Hn := Lib.hid hn
  have HO := Lib.hid hok
  have HB := Lib.hid hB
  clear h hl hs hn hok hB
  go_enter Tryz.func18, Tryz.ntmps18
  go_wp2_with fail
  go_loopw [5, 10] (fun v i wr => ∃ (k : Nat) (ys : List Value), k ≤ n ∧ i = .int .i64 (k : Int) ∧ wr.ownsRow w.heap.size 41 4 v k ys ∧ (∀ k' s, k' < k → L[k']? = some s → ys[k' * 4]? = some (.int .i64 (mC s))) ∧ M0 wr g gp most ∧ Below B w wr ∧ FrM w wr ∧ w.heap.size ≤ wr.heap.size) (fun _ i _ => n - (intOf i).toNat)
  case atStart => exact ⟨0, [], by omega, rfl, World.ownsRow_nil _ _ _ _, fun _ _ h => absurd h (by omega), H.out, Below.refl _ _, fun _ _ _ _ h => h, Nat.le_refl _⟩
  case round =>
    obtain ⟨k, ys, hk, rfl, hown, hys, hst, hb, hf, hsz⟩ := hrel
    by_cases hlt : k < n
    · obtain ⟨s, hsk⟩ : ∃ s, L[k]? = some s := ⟨_, List.getElem?_eq_getElem (by rw [Hn.out]; exact hlt)⟩
      have hlw := frm_own (by decide) HL.out hf
      obtain ⟨Ad, md, cd, x0, x1, x2, x3, hd⟩ := (HS.out.frm hf).get hsk
      have hrd := Rd.of_own hlw
      obtain ⟨gl0, off, rfl, hglt, hcell⟩ := hrd.2 (by omega)
      have d0 : wr.cell? ⟨gl0, off + k * 4, none⟩ = some (.int .i64 s.kind) := hcell _ _ x0
      have d1 : wr.cell? ⟨gl0, off + k * 4 + 1, none⟩ = some (.int .i64 s.p) := hcell _ _ x1
      have d2 : wr.cell? ⟨gl0, off + k * 4 + 2, none⟩ = some (.int .i64 s.k) := hcell _ _ x2
      have d3 : wr.cell? ⟨gl0, off + k * 4 + 3, none⟩ = some (.slice Ad md cd) := hcell _ _ x3
      have Hst := Lib.hid hst
      have Hown := Lib.hid hown
      have Hb := Lib.hid hb
      have Hf := Lib.hid hf
      have Hd := Lib.hid hd
      have Hsk := Lib.hid hsk
      have Hys := Lib.hid hys
      clear hst hown hb hf hd hsk x0 x1 x2 x3 hcell hrd hlw hys
      go_wp2_with fail
      have hal : Below wr.heap.size wr (wr.alloc (.cells #[.int .i64 s.kind, .int .i64 s.p, .int .i64 s.k, .slice Ad md cd] 29)) := (Below.refl _ _).alloc (Nat.le_refl _) _
      refine (PlDo_ok g gp B b1 most mC s Ad md cd _ (Hst.out.below hal) HB.out (Hd.out.below hal) (HO.out s (List.mem_of_getElem? Hsk.out))).mono ?_
      rintro e w1 ⟨A1, c1, A2, c2, rfl, hst1, hf1, hb1⟩
      have hf01 := (FrM.of_below hal).trans hf1
      have hown1 := frm_own (by decide) Hown.out hf01
      have hszr : wr.heap.size ≤ w1.heap.size := Nat.le_trans hal.size hb1.size
      obtain ⟨an, han⟩ : ∃ an, mC s = an := ⟨_, rfl⟩
      rw [han]
      have hal1 : Below w1.heap.size w1 (w1.alloc (.cells #[.int .i64 an, .int .i64 0, .slice A1 0 c1, .slice A2 0 c2] 41)) := (Below.refl _ _).alloc (Nat.le_refl _) _
      have hown2 := own_below hown1 hal1
      have hst2 := hst1.below hal1
      have hf02 := (Hf.out.trans hf01).trans (FrM.of_below hal1)
      have hb02 := (Hb.out.trans ((hal.mono (by omega)).trans hb1)).trans (hal1.mono (by omega))
      have hsz2 : w.heap.size ≤ (w1.alloc (.cells #[.int .i64 an, .int .i64 0, .slice A1 0 c1, .slice A2 0 c2] 41)).heap.size := by have := hal1.size; omega
      have Hown2 := Lib.hid hown2
      have Hst2 := Lib.hid hst2
      have Hf2 := Lib.hid hf02
      have Hb2 := Lib.hid hb02
      have Han := Lib.hid han
      have Hs2 := Lib.hid hsz2
      clear hown1 hown2 hst1 hst2 hf01 hf02 hf1 hb1 hb02 hal hal1 Hst Hown Hf Hb han hsz2 d0 d1 d2 d3
      go_wp2_with (at_builtin; refine wpList_append_rd _ rfl (.tmp 14) (.tmp 18) _ rfl w.heap.size 41 i0 z0 4 64 Tryz.underlying36 hi0 hz0 hz1 hz2 hz3 (by decide) u5 k _ rfl Hown2.out _ _ 1 1 _ rfl (sc_rd_bk (Bk.new w1 41 #[.int .i64 an, .int .i64 0, .slice A1 0 c1, .slice A2 0 c2]) rfl) (by simp [Value.oneCell']) (by unfold maxLen; omega) (by omega) Hs2.out ?_; intro v2 w2 hown3 hg3 hat3)
      have hst3 := Hst2.out.grown Hown2.out hg3
      have hf3 := Hf2.out.grown Hown2.out hg3
      have hb3 := below_grown Hb2.out (own_mono Hown2.out hbw) hg3 (Nat.le_trans hbw Hs2.out)
      have hs3 := Nat.le_trans Hs2.out hg3.size
      have hyl : ys.length = k * 4 := Hown2.out.1
      go_roundw
      case rel =>
        refine ⟨k + 1, _, by omega, by go_num, hown3, fun k' s' hk' hs' => ?_, hst3, hb3, hf3, hs3⟩
        by_cases e : k' = k
        · subst e
          rw [Hsk.out] at hs'
          injection hs' with hs'
          subst hs'
          rw [List.getElem?_append_right (by omega), hyl, Nat.sub_self, Han.out]
          rfl
        · rw [List.getElem?_append_left (by omega)]
          exact Hys.out k' s' (by omega) hs'
      case measure => simp [intOf]; omega
    · have hk3 : k = n := by omega
      subst hk3
      go_wp2_with fail
      go_ret
      exact ⟨_, ys, rfl, hown, hys, hst, hb, hf⟩
set_option maxRecDepth 100000 in
theorem ScPlain_any (g gp B b0 b1 : Nat) (most : Int) (mC : Sp → Int) (A : Option Addr) (n c : Nat) (xs : List Value) (L : List Sp) (w : World) (h : M0 w g gp most) (hB : B ≤ gp)
    (hl : w.ownsRow b0 29 4 (.slice A n c) n xs) (hs : StpsAt w b1 xs L) (hn : L.length = n) (hn2 : n ≤ 100000) (hok : ∀ s ∈ L, OkM most mC s) :
    Calls Tryz.prog 12 #[.pointer (some ⟨g, 0, none⟩), .slice A n c] w (PlainPost w g gp B most mC L n) := by
  have ht := PlTold_any g gp B b0 b1 most mC A n c xs L w h hB hl hs hn hn2 hok
  have HT := Lib.hid ht
  clear h hl hs hn hok ht
  unfold PlainPost at HT ⊢
  go_enter Tryz.func12, Tryz.ntmps12
  go_wp2_with fail
  refine HT.out.mono ?_
  rintro e w1 ⟨v, ys, rfl, h1, h2, h3, h4, h5⟩
  go_wp2_with fail
  go_ret
  exact ⟨v, ys, rfl, h1, h2, h3, h4, h5⟩
end Go.Proofs.YtnileogagoipiaaGreatDoor
namespace Go.Proofs.YtnileogagoipiaaGreatDoor
open Go.RowKit
set_option linter.unusedVariables false
set_option linter.unusedSimpArgs false
def t22 : List UInt8 := [0, 4, 2, 129, 200, 3, 255, 0, 1, 9]
def L22 : List Sp := [⟨1, 4, 2, [98, 98]⟩, ⟨2, 8, 3, []⟩, ⟨8, -128, -127, []⟩]
theorem t22_all : spAll t22 (t22.length / 3) = L22 := by
  unfold spAll t22 L22
  simp [List.range, List.range.loop, spAt, spOf, spK, spP, spN, spD, hasD, letD, letC]
theorem t22_ok : ∀ s ∈ L22, OkS 0 s := by
  intro s hs
  simp only [L22, List.mem_cons, List.not_mem_nil, or_false] at hs
  rcases hs with rfl | rfl | rfl
  · exact .inl ⟨.inl rfl, by decide⟩
  · exact .inl ⟨.inr (.inl rfl), by decide⟩
  · exact .inr rfl
def mC22 (s : Sp) : Int := if s.kind = 8 then 0 else 2
theorem t22_okM : ∀ s ∈ L22, OkM 9 mC22 s := by
  intro s hs
  simp only [L22, List.mem_cons, List.not_mem_nil, or_false] at hs
  rcases hs with rfl | rfl | rfl
  · exact ⟨by rfl, by decide, by decide, by decide⟩
  · exact ⟨by rfl, by decide, by decide, by decide⟩
  · exact ⟨by rfl, by decide, by decide, by decide⟩
theorem ans22 : ansRow L22 = [.int .i64 2, .int .i64 0, .slice none 0 0, .slice none 0 0, .int .i64 2, .int .i64 0, .slice none 0 0, .slice none 0 0, .int .i64 0, .int .i64 0, .slice none 0 0, .slice none 0 0] := by rfl
theorem own_cells0 {w : World} {b sz n : Nat} {e : TypeId} {v : Value} {xs : List Value} (h : w.ownsRow b e sz v n xs) (hn : 0 < n) : ∃ g c, v = .slice (some ⟨g, 0, none⟩) n c ∧ b ≤ g := by
  rcases h.2 with ⟨_, h0⟩ | ⟨g, cap, cur, e1, h2, _⟩
  · omega
  · exact ⟨g, cap, e1, h2⟩
theorem own_cells1 {w : World} {b sz n g c : Nat} {e : TypeId} {xs : List Value} (h : w.ownsRow b e sz (.slice (some ⟨g, 0, none⟩) n c) n xs) (hn : 0 < n) (j : Nat) (u : Value) (hu : xs[j]? = some u) : w.cell? ⟨g, j, none⟩ = some u := by
  obtain ⟨b', off, e1, _, hc⟩ := (Rd.of_own h).2 hn
  injection e1 with e1
  injection e1 with e1 e2
  subst e1
  subst e2
  have := hc j u hu
  rwa [Nat.zero_add] at this
set_option maxRecDepth 100000 in
set_option maxHeartbeats 4000000 in
theorem Told22_any (w : World) : Calls Tryz.prog 6 #[] w fun e w' => e = .returned (.bool true) ∧ Below w.heap.size w w' := by
  have h0 := ScAll_any (some ⟨w.heap.size, 0, none⟩) 10 10 t22 (w.alloc (.cells #[.int .u8 0, .int .u8 4, .int .u8 2, .int .u8 129, .int .u8 200, .int .u8 3, .int .u8 255, .int .u8 0, .int .u8 1, .int .u8 9] 5)) (Rd.made w 5 1 10 #[.int .u8 0, .int .u8 4, .int .u8 2, .int .u8 129, .int .u8 200, .int .u8 3, .int .u8 255, .int .u8 0, .int .u8 1, .int .u8 9] rfl) (by omega) (by omega)
  have hb0 : Below w.heap.size w (w.alloc (.cells #[.int .u8 0, .int .u8 4, .int .u8 2, .int .u8 129, .int .u8 200, .int .u8 3, .int .u8 255, .int .u8 0, .int .u8 1, .int .u8 9] 5)) := (Below.refl _ _).alloc (Nat.le_refl _) _
  unfold AllPostS at h0
  rw [t22_all, show t22.length / 3 = 3 from rfl] at h0
  have H0 := Lib.hid h0
  have Hb0 := Lib.hid hb0
  clear h0 hb0
  go_enter Tryz.func6, Tryz.ntmps6
  go_wp2_with fail
  refine H0.out.mono ?_
  rintro e w1 ⟨v1, xs, rfl, ho1, hs1, hb1⟩
  have hb01 := Hb0.out.trans (hb1.mono Hb0.out.size)
  obtain ⟨ga, ca, rfl, hga⟩ := own_cells0 ho1 (by omega)
  have Ho1 := Lib.hid ho1
  have Hs1 := Lib.hid hs1
  have Hb1 := Lib.hid hb01
  clear ho1 hs1 hb1 hb01 H0 Hb0
  go_wp2_with fail
  refine (StNew_any 9 2 w1 (by omega) (by omega) (by omega)).mono ?_
  rintro e w2 ⟨gs, gl, rfl, hst2, hb2⟩
  have Hst2 := Lib.hid hst2
  have Hb2 := Lib.hid hb2
  clear hst2 hb2
  go_wp2_with fail
  refine (New_ok 9 w2 (by omega) (by omega)).mono ?_
  rintro e w3 ⟨g, gp, rfl, hb3, hg, hgp, hne, hm, hpl⟩
  have hg1 : w1.heap.size ≤ gp := by have := Hb2.out.size; omega
  have hst3 := Hst2.out.vb (Vis.of_below hb3)
  have ho3 := own_below (own_below Ho1.out Hb2.out) hb3
  have hs3 := (Hs1.out.below Hb2.out).below hb3
  have hm3 : M0 w3 g gp 9 := ⟨hm, ⟨_, _, hpl⟩, by decide, by decide⟩
  have hb13 : Below w1.heap.size w1 w3 := Hb2.out.trans (hb3.mono Hb2.out.size)
  have Hst3 := Lib.hid hst3
  have Ho3 := Lib.hid ho3
  have Hs3 := Lib.hid hs3
  have Hm3 := Lib.hid hm3
  have Hb13 := Lib.hid hb13
  clear hst3 ho3 hs3 hm3 hb13 hb3 hg hgp hne hm hpl Hst2 Ho1 Hs1 Hb2
  go_wp2_with fail
  refine (ScRun_any w1.heap.size gs gl 9 2 0 _ _ [] _ 3 ca xs L22 w3 Hst3.out rfl Ho3.out Hs3.out rfl (by omega) t22_ok).mono ?_
  rintro e w4 ⟨v4, rfl, ho4, _, hb4, hf4⟩
  have hl4 := own_same Ho3.out fun b cs _ hb' => hf4 _ _ _ (by decide) (by decide) (by decide) hb'
  have hs4 := Hs3.out.frs hf4
  have hm4 : M0 w4 g gp 9 := by
    obtain ⟨A5, c5, h5⟩ := Hm3.out.pl
    exact ⟨hf4 _ _ _ (by decide) (by decide) (by decide) Hm3.out.mod, ⟨A5, c5, hf4 _ _ _ (by decide) (by decide) (by decide) h5⟩, by decide, by decide⟩
  have hb14 := Hb13.out.trans hb4
  obtain ⟨gr, cr, rfl, hgr⟩ := own_cells0 ho4 (by omega)
  have Ho4 := Lib.hid ho4
  have Hl4 := Lib.hid hl4
  have Hs4 := Lib.hid hs4
  have Hm4 := Lib.hid hm4
  have Hb14 := Lib.hid hb14
  clear ho4 hl4 hs4 hm4 hb14 hb4 hf4 Hst3 Ho3 Hs3 Hm3 Hb13
  go_wp2_with fail
  refine (ScPlain_any g gp w1.heap.size _ _ 9 mC22 _ 3 ca xs L22 w4 Hm4.out hg1 Hl4.out Hs4.out rfl (by omega) t22_okM).mono ?_
  rintro e w5 ⟨v5, ys, rfl, ho5, hys, _, hb5, hf5⟩
  have hl5 := frm_own (by decide) Hl4.out hf5
  have hr5 := frm_own (by decide) Ho4.out hf5
  have hs5 := Hs4.out.frm hf5
  obtain ⟨gq, cq, rfl, hgq⟩ := own_cells0 ho5 (by omega)
  have q0 := own_cells1 ho5 (by omega) 0 _ (hys 0 ⟨1, 4, 2, [98, 98]⟩ (by omega) rfl)
  have r0 := own_cells1 hr5 (by omega) 0 (.int .i64 2) (by rw [ans22]; rfl)
  have r8 := own_cells1 hr5 (by omega) 8 (.int .i64 0) (by rw [ans22]; rfl)
  obtain ⟨A6, n6, c6, x0, x1, x2, x3, hd6⟩ := hs5.get (k := 0) rfl
  obtain ⟨_, _, _, x4, _, _, _, _⟩ := hs5.get (k := 1) rfl
  obtain ⟨_, _, _, x8, x9, _, _, _⟩ := hs5.get (k := 2) rfl
  have l0 := own_cells1 hl5 (by omega) _ _ x0
  have l1 := own_cells1 hl5 (by omega) _ _ x1
  have l3 := own_cells1 hl5 (by omega) _ _ x3
  have l4 := own_cells1 hl5 (by omega) _ _ x4
  have l8 := own_cells1 hl5 (by omega) _ _ x8
  have l9 := own_cells1 hl5 (by omega) _ _ x9
  have hn6 : n6 = 2 := hd6.1.symm
  subst hn6
  have sS : (convert 22 9 (.slice A6 2 c6)).run Tryz.prog w5 = .ok (.string ⟨#[98, 98]⟩) w5 := (run_str_rd (P := Tryz.prog) 22 9 5 Tryz.underlying22 Tryz.underlying5 Tryz.underlying9 hd6.rd).trans rfl
  have hb15 := Hb14.out.trans hb5
  have hfin := Hb1.out.trans (hb15.mono Hb1.out.size)
  have Hfin := Lib.hid hfin
  have Ho5 := Lib.hid ho5
  have hem := ScAll_any (some ⟨w5.heap.size, 0, none⟩) 2 2 [1, 2] (w5.alloc (.cells #[.int .u8 1, .int .u8 2] 5)) (Rd.made w5 5 1 2 #[.int .u8 1, .int .u8 2] rfl) (by omega) (by omega)
  have hal : Below w5.heap.size w5 (w5.alloc (.cells #[.int .u8 1, .int .u8 2] 5)) := (Below.refl _ _).alloc (Nat.le_refl _) _
  unfold AllPostS at hem
  have Hem := Lib.hid hem
  have Hal := Lib.hid hal
  clear hem hal hfin hb15 hd6 x0 x1 x2 x3 x4 x8 x9 hl5 hr5 hs5 ho5 hys hb5 hf5 Hm4 Hl4 Hs4 Ho4 Hb14 Hb1
  simp only [mC22, Nat.zero_mul, Nat.one_mul, Nat.zero_add, Nat.reduceMul, Nat.reduceAdd] at q0 l0 l1 l3 l4 l8 l9
  go_wp2_with fail
  refine Hem.out.mono ?_
  rintro e w6 ⟨v6, xs6, rfl, ho6, _, hb6⟩
  have hv6 : ∃ A c, v6 = .slice A 0 c := by
    obtain ⟨A, c, e6, _⟩ := made_of_own ho6
    exact ⟨A, c, e6⟩
  obtain ⟨A7, c7, rfl⟩ := hv6
  have hb7 := Hfin.out.trans ((Hal.out.trans (hb6.mono Hal.out.size)).mono Hfin.out.size)
  have Hb7 := Lib.hid hb7
  clear hb7 hb6 ho6 Hem Hal Hfin
  go_wp2_with fail
  go_ret
  exact ⟨rfl, Hb7.out⟩
end Go.Proofs.YtnileogagoipiaaGreatDoor
