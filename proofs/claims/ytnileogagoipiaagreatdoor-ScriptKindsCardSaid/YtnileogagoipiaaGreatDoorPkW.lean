/- The walk of the model's Do, kind by kind. Conditions: sizes of at most 2^40. The walk of the model's Do, where it writes. Conditions: sizes of at most 2^39. The walk of the model's Do, where it only answers. Conditions: sizes of at most 2^39. The model's Do, whole: what every step does to the text and tells. Conditions: sizes of at most 2^39. The walks of slices.Equal of ints and of model.Same. Conditions: at most 2^40 elements. A model that the law's own call has made, and its calls. Conditions: sizes of at most 2^39. Answers' blocks; bytes of constants. No conditions. -/
import Derived.Test.YtnileogagoipiaaGreatDoorPkV
import Derived.Laws.Rows
import Derived.Lib.SlBytesConst
namespace Go.Proofs.YtnileogagoipiaaGreatDoor
open Go.RowKit
set_option linter.unusedVariables false
set_option linter.unusedSimpArgs false
/-- What a step tells: a code, a number, bytes, places. -/
structure Told where
  code : Int
  num : Int
  data : List UInt8
  places : List Nat
/-- Block gp is a plain text T. -/
def PlS (w : World) (gp : Nat) (T : List UInt8) : Prop := ∃ A c, Bk w gp 50 #[.slice A T.length c] ∧ Rd w w.heap.size 1 A T.length (T.map bv) ∧ T.length ≤ c ∧ (0 < T.length → ∀ a, A = some a → a.block ≠ gp)
/-- The answer's four cells. -/
def resC (r : Told) (A1 : Option Addr) (c1 : Nat) (A2 : Option Addr) (c2 : Nat) : Array Value := #[.int .i64 r.code, .int .i64 r.num, .slice A1 r.data.length c1, .slice A2 r.places.length c2]
/-- What Do leaves and tells. -/
def DoTold (gp : Nat) (T2 : List UInt8) (r : Told) (w w' : World) (e : Ending) : Prop :=
  ∃ A1 c1 A2 c2, e = .returned (.agg (resC r A1 c1 A2 c2)) ∧ Keep (fun b => b = gp) w w' ∧ Made w' w.heap.size 5 1 A1 r.data.length c1 (r.data.map bv) ∧ Made w' w.heap.size 3 1 A2 r.places.length c2 (r.places.map nv) ∧ PlS w' gp T2
def stepV (kind p k : Int) (AD : Option Addr) (nd cd : Nat) : Value := .agg #[.int .i64 kind, .int .i64 p, .int .i64 k, .slice AD nd cd]
theorem made_nil (w : World) (B : Nat) (e : TypeId) : Made w B e 1 none 0 0 [] := ⟨World.ownsRow_nil _ _ _ _, Rd.nil _ _ _ _, Nat.le_refl _, Nat.zero_le _⟩
/-- Do's end: its answer's cells are laid. -/
theorem do_ret {gp : Nat} {T2 : List UInt8} {r : Told} {w w' : World} {tmps : Array Value} {s : Nat} {A1 : Option Addr} {c1 : Nat} {A2 : Option Addr} {c2 : Nat} {ex : Exit} (hex : ex = .ret ∨ ex = .normal) (hp : tmps.getD 4 undef = .pointer (some ⟨s, 0, none⟩)) (hb : Bk w' s 41 (resC r A1 c1 A2 c2))
    (hk : Keep (fun b => b = gp) w w') (hm1 : Made w' w.heap.size 5 1 A1 r.data.length c1 (r.data.map bv)) (hm2 : Made w' w.heap.size 3 1 A2 r.places.length c2 (r.places.map nv)) (hpl : PlS w' gp T2) :
    bodyPost Tryz.prog Tryz.f19 (fun e w' => DoTold gp T2 r w w' e) ex ⟨tmps, []⟩ w' := by
  have hr := results_cell_row (P := Tryz.prog) (fn := Tryz.f19) (p := 4) (ty := 41) rfl tmps w' s 41 (resC r A1 c1 A2 c2) (0, 0) _ hp hb Tryz.underlying41 rfl (by kernel_rfl)
  rcases hex with rfl | rfl
  · exact bodyPost_ret hr rfl ⟨A1, c1, A2, c2, rfl, hk, hm1, hm2, hpl⟩
  · exact bodyPost_end hr rfl ⟨A1, c1, A2, c2, rfl, hk, hm1, hm2, hpl⟩
theorem PlS.keep {w w' : World} {gp : Nat} {T : List UInt8} (h : PlS w gp T) (k : Grow w w') : PlS w' gp T := by
  obtain ⟨A, c, h1, h2, h3, h4⟩ := h
  exact ⟨A, c, h1.below k h1.lt, (h2.below k).mono (Below.size k), h3, h4⟩
/-- What the walk of Do finds in every world till the text is written. -/
structure DoF (w W : World) (g gp n c nd cd : Nat) (A AD : Option Addr) (T D : List UInt8) (most kind p k : Int) : Prop where
  low : Below w.heap.size w W
  step : Bk W w.heap.size 29 #[.int .i64 kind, .int .i64 p, .int .i64 k, .slice AD nd cd]
  res : Bk W (w.heap.size + 1) 41 #[.int .i64 0, .int .i64 0, .slice none 0 0, .slice none 0 0]
  mod : Bk W g 52 #[.pointer (some ⟨gp, 0, none⟩), .int .i64 most]
  pl : Bk W gp 50 #[.slice A n c]
  rT : Rd W w.heap.size 1 A n (T.map bv)
  rD : Rd W w.heap.size 1 AD nd (D.map bv)
  gpl : gp < w.heap.size
  gne : g ≠ gp
  gll : g < w.heap.size
section
variable {w W W' : World} {g gp n c nd cd : Nat} {A AD : Option Addr} {T D : List UInt8} {most kind p k : Int}
theorem DoF.grow (F : DoF w W g gp n c nd cd A AD T D most kind p k) (h : Grow W W') : DoF w W' g gp n c nd cd A AD T D most kind p k :=
  ⟨F.low.trans (Below.mono h F.low.size), F.step.below h F.step.lt, F.res.below h F.res.lt, F.mod.below h F.mod.lt, F.pl.below h F.pl.lt, F.rT.below (Below.mono h F.low.size), F.rD.below (Below.mono h F.low.size), F.gpl, F.gne, F.gll⟩
theorem do_start {B : Nat} (hg : Bk w g 52 #[.pointer (some ⟨gp, 0, none⟩), .int .i64 most]) (hb : Bk w gp 50 #[.slice A n c]) (hr : Rd w w.heap.size 1 A n (T.map bv)) (hd : Rd w B 1 AD nd (D.map bv)) (hB : B ≤ w.heap.size) (hgne : g ≠ gp) :
    DoF w ((w.alloc (.cells #[.int .i64 kind, .int .i64 p, .int .i64 k, .slice AD nd cd] 29)).alloc (.cells #[.int .i64 0, .int .i64 0, .slice none 0 0, .slice none 0 0] 41)) g gp n c nd cd A AD T D most kind p k := by
  have hbl := ((Below.refl w.heap.size w).alloc (Nat.le_refl _) (.cells #[.int .i64 kind, .int .i64 p, .int .i64 k, .slice AD nd cd] 29)).alloc (by simp) (.cells #[.int .i64 0, .int .i64 0, .slice none 0 0, .slice none 0 0] 41)
  refine ⟨hbl, (Bk.new _ _ _).alloc _, ?_, (hg.alloc _).alloc _, (hb.alloc _).alloc _, hr.below hbl, (hd.mono hB).below hbl, hb.lt, hgne, hg.lt⟩
  simpa using Bk.new (w.alloc (.cells #[.int .i64 kind, .int .i64 p, .int .i64 k, .slice AD nd cd] 29)) 41 #[.int .i64 0, .int .i64 0, .slice none 0 0, .slice none 0 0]
/-- The answer's four cells are stored. -/
theorem res_set {s : Nat} {z0 z1 z2 z3 v0 v1 v2 v3 : Value} (h : Bk W s 41 #[z0, z1, z2, z3]) :
    Bk ((((W.setCell ⟨s, 0, none⟩ v0).setCell ⟨s, 1, none⟩ v1).setCell ⟨s, 2, none⟩ v2).setCell ⟨s, 3, none⟩ v3) s 41 #[v0, v1, v2, v3] := by
  have := (((h.set 0 v0).set 1 v1).set 2 v2).set 3 v3
  simpa using this
theorem grow_set {s : Nat} {v0 v1 v2 v3 : Value} (h : w.heap.size ≤ s) : Below w.heap.size w W → Below w.heap.size w ((((W.setCell ⟨s, 0, none⟩ v0).setCell ⟨s, 1, none⟩ v1).setCell ⟨s, 2, none⟩ v2).setCell ⟨s, 3, none⟩ v3) :=
  fun hb => (((hb.setCell (p := ⟨s, 0, none⟩) h v0).setCell (p := ⟨s, 1, none⟩) h v1).setCell (p := ⟨s, 2, none⟩) h v2).setCell (p := ⟨s, 3, none⟩) h v3
theorem keep_set {F : Nat → Prop} {s : Nat} {v0 v1 v2 v3 : Value} (h : w.heap.size ≤ s) : Keep F w W → Keep F w ((((W.setCell ⟨s, 0, none⟩ v0).setCell ⟨s, 1, none⟩ v1).setCell ⟨s, 2, none⟩ v2).setCell ⟨s, 3, none⟩ v3) :=
  fun hb => (((hb.setCell (p := ⟨s, 0, none⟩) (.inr h) v0).setCell (p := ⟨s, 1, none⟩) (.inr h) v1).setCell (p := ⟨s, 2, none⟩) (.inr h) v2).setCell (p := ⟨s, 3, none⟩) (.inr h) v3
theorem at_set {s : Nat} {v0 v1 v2 v3 : Value} : Keep (fun b => b = s) W ((((W.setCell ⟨s, 0, none⟩ v0).setCell ⟨s, 1, none⟩ v1).setCell ⟨s, 2, none⟩ v2).setCell ⟨s, 3, none⟩ v3) :=
  ((((Keep.refl (fun b => b = s) W).setCell (p := ⟨s, 0, none⟩) (.inl rfl) v0).setCell (p := ⟨s, 1, none⟩) (.inl rfl) v1).setCell (p := ⟨s, 2, none⟩) (.inl rfl) v2).setCell (p := ⟨s, 3, none⟩) (.inl rfl) v3
theorem pls_made {B N : Nat} {T2 : List UInt8} (hb : Bk W gp 50 #[.slice A N c]) (hm : Made W B 5 1 A N c (T2.map bv)) (hN : T2.length = N) (hgp : gp < B) : PlS W gp T2 := by
  subst hN
  refine ⟨A, c, hb, hm.rd, hm.cap, fun _ a ha => ?_⟩
  subst ha
  have := (hm.own.lt a.block rfl).1
  omega
end
/-- An answer of four cells, the bytes of which were made since B. -/
def ansV (B : Nat) (num : Int) (X : List UInt8) : Value → World → Prop := fun v w => ∃ A c, v = .agg (resC ⟨0, num, X, []⟩ A c none 0) ∧ Made w B 5 1 A X.length c (X.map bv)
theorem stbk_ans {F : Nat → Prop} {B : Nat} (hf : ∀ b, F b → b < B) (num : Int) (X : List UInt8) : StbK F (ansV B num X) := fun _ _ _ ⟨A, c, h1, h2⟩ k => ⟨A, c, h1, h2.keepF k hf⟩
/-- Block s is such an answer. -/
def ansW (s B : Nat) (num : Int) (X : List UInt8) : Value → World → Prop := fun _ w => ∃ A c, Bk w s 41 (resC ⟨0, num, X, []⟩ A c none 0) ∧ Made w B 5 1 A X.length c (X.map bv)
theorem ansW_stb (s B : Nat) (num : Int) (X : List UInt8) : Stb (ansW s B num X) := fun _ _ _ ⟨A, c, h1, h2⟩ k => ⟨A, c, Bk.below h1 k h1.lt, h2.below k⟩
def splV (gp B N : Nat) (T : List UInt8) : Value → World → Prop := fun v w => v = .tuple #[] ∧ plV gp B N T v w
theorem splV_stb (gp B N : Nat) (T : List UInt8) : Stb (splV gp B N T) := fun v w w' ⟨h1, h2⟩ k => ⟨h1, plV_stb _ _ _ _ v w w' h2 k⟩
theorem madeV_stb (B : Nat) (e : TypeId) (sz n : Nat) (xs : List Value) : Stb (madeV B e sz n xs) := fun _ _ _ ⟨A, c, h1, h2⟩ k => ⟨A, c, h1, h2.below k⟩
set_option maxRecDepth 100000 in
set_option maxHeartbeats 4000000 in
theorem Do_ins_range (g gp : Nat) (AD : Option Addr) (nd cd B : Nat) (p k : Int) (most : Int) (T D : List UInt8) (w : World) (hg : Bk w g 52 #[.pointer (some ⟨gp, 0, none⟩), .int .i64 most]) (hp : PlS w gp T)
    (hd : Rd w B 1 AD nd (D.map bv)) (hB : B ≤ w.heap.size) (hdne : 0 < nd → ∀ a, AD = some a → a.block ≠ gp) (hgne : g ≠ gp) (hT : T.length ≤ 549755813888) (hD : nd ≤ 549755813888) (hpb : -9223372036854775808 ≤ (p : Int) ∧ (p : Int) ≤ 9223372036854775807) (hkb : -9223372036854775808 ≤ (k : Int) ∧ (k : Int) ≤ 9223372036854775807) (hmb : 0 ≤ most ∧ most ≤ 2147483648)
    (hhas : hasB T.length p 0 = false) :
    Calls Tryz.prog 19 #[.pointer (some ⟨g, 0, none⟩), stepV 1 p k AD nd cd] w fun e w' => DoTold gp (T) ⟨2, 0, [], []⟩ w w' e := by
  have Hp := Lib.hid hp
  obtain ⟨A, c, hb, hr, hnc, hne⟩ := hp
  obtain ⟨n, hn⟩ : ∃ n, T.length = n := ⟨_, rfl⟩
  rw [hn] at hb hr hnc hT hne
  rw [hn] at hhas
  have hDl : D.length = nd := by simpa using hd.1
  have F := do_start (kind := 1) (p := p) (k := k) (cd := cd) hg hb hr hd hB hgne
  have HF := Lib.hid F
  have Hn := Lib.hid hn
  have Hne := Lib.hid hne
  have Hdne := Lib.hid hdne
  clear hb hr hd hg F hn hne hdne
  unfold stepV
  go_enter Tryz.func19, Tryz.ntmps19
  go_wp2
  obtain ⟨W, hW⟩ : ∃ W, (w.alloc (.cells #[.int .i64 1, .int .i64 p, .int .i64 k, .slice AD nd cd] 29)).alloc (.cells #[.int .i64 0, .int .i64 0, .slice none 0 0, .slice none 0 0] 41) = W := ⟨_, rfl⟩
  rw [hW] at HF ⊢
  have F := HF.out
  clear hW HF
  refine wp_region_any (by kernel_rfl) ?_
  refine wpAny_loose2 [15, 16, 17, 18, 19, 20, 21, 22, 14] Grow (Vs [is (.pointer (some ⟨g, 0, none⟩)), is (.pointer (some ⟨g, 0, none⟩)), is (.pointer (some ⟨g, 0, none⟩)), is (.pointer (some ⟨gp, 0, none⟩)), is (.pointer (some ⟨w.heap.size, 1, none⟩)), is (.int .i64 p), is (.bool false), is (.bool true), is (.bool true)]) _ _ rfl (by kernel_rfl) (Below.refl _ _) (fun _ _ => Grow.trans) (stb_all (by repeat' (first | exact stb_is _ | exact stb_row _ _ _ | (refine List.forall_mem_cons.2 ⟨?_, ?_⟩) | (intro p hp; cases hp)))) ?_ ?_
  · refine steps_of ?_
    refine steps_cons ?_ ?_
    · refine step_on rfl rfl ?_
      intro ev w5 hS hc hf hold hval a K ha hK
      have e0 : ev (.tmp 0) = .pointer (some ⟨g, 0, none⟩) := hold 0 (by kernel_rfl)
      replace hS : Grow W w5 := ⟨hS.os, hS.tape, hS.output, hS.size, hS.block⟩
      go_simp
      exact hK _ _ (Below.refl _ _) rfl
    refine steps_cons ?_ ?_
    · refine step_on rfl rfl ?_
      intro ev w5 hS hc hf hold hval a K ha hK
      have e15 : ev (.tmp 15) = .pointer (some ⟨g, 0, none⟩) := hval 0 15 (by kernel_rfl) rfl
      replace hS : Grow W w5 := ⟨hS.os, hS.tape, hS.output, hS.size, hS.block⟩
      go_simp
      exact hK _ _ (Below.refl _ _) rfl
    refine steps_cons ?_ ?_
    · refine step_on rfl rfl ?_
      intro ev w5 hS hc hf hold hval a K ha hK
      have e16 : ev (.tmp 16) = .pointer (some ⟨g, 0, none⟩) := hval 1 16 (by kernel_rfl) rfl
      replace hS : Grow W w5 := ⟨hS.os, hS.tape, hS.output, hS.size, hS.block⟩
      go_simp
      exact hK _ _ (Below.refl _ _) rfl
    refine steps_cons ?_ ?_
    · refine step_on rfl rfl ?_
      intro ev w5 hS hc hf hold hval a K ha hK
      have e17 : ev (.tmp 17) = .pointer (some ⟨g, 0, none⟩) := hval 2 17 (by kernel_rfl) rfl
      replace hS : Grow W w5 := ⟨hS.os, hS.tape, hS.output, hS.size, hS.block⟩
      have c18 : w5.cell? ⟨g, 0, none⟩ = some (.pointer (some ⟨gp, 0, none⟩)) := ((F.mod.below hS F.mod.lt).cell 0).trans rfl
      go_simp
      exact hK _ _ (Below.refl _ _) rfl
    refine steps_cons ?_ ?_
    · refine step_on rfl rfl ?_
      intro ev w5 hS hc hf hold hval a K ha hK
      have e3 : ev (.tmp 3) = .pointer (some ⟨w.heap.size, 0, none⟩) := hold 3 (by kernel_rfl)
      replace hS : Grow W w5 := ⟨hS.os, hS.tape, hS.output, hS.size, hS.block⟩
      go_simp
      exact hK _ _ (Below.refl _ _) rfl
    refine steps_cons ?_ ?_
    · refine step_on rfl rfl ?_
      intro ev w5 hS hc hf hold hval a K ha hK
      have e19 : ev (.tmp 19) = .pointer (some ⟨w.heap.size, 1, none⟩) := hval 4 19 (by kernel_rfl) rfl
      replace hS : Grow W w5 := ⟨hS.os, hS.tape, hS.output, hS.size, hS.block⟩
      have c20 : w5.cell? ⟨w.heap.size, 1, none⟩ = some (.int .i64 p) := ((F.step.below hS F.step.lt).cell 1).trans rfl
      go_simp
      exact hK _ _ (Below.refl _ _) rfl
    refine steps_cons ?_ ?_
    · refine step_on rfl rfl ?_
      intro ev w5 hS hc hf hold hval a K ha hK
      have e18 : ev (.tmp 18) = .pointer (some ⟨gp, 0, none⟩) := hval 3 18 (by kernel_rfl) rfl
      have e20 : ev (.tmp 20) = .int .i64 p := hval 5 20 (by kernel_rfl) rfl
      replace hS : Grow W w5 := ⟨hS.os, hS.tape, hS.output, hS.size, hS.block⟩
      go_simp
      refine (has_any gp A n c p (0) w5 (((F.pl.below hS F.pl.lt).cell 0).trans rfl) (by omega) hpb (by omega)).mono ?_
      rintro e w8 ⟨rfl, rfl⟩
      exact hK _ _ (Below.refl _ _) (bool_eq hhas)
    refine steps_cons ?_ ?_
    · refine step_on rfl rfl ?_
      intro ev w5 hS hc hf hold hval a K ha hK
      have e21 : ev (.tmp 21) = .bool false := hval 6 21 (by kernel_rfl) rfl
      replace hS : Grow W w5 := ⟨hS.os, hS.tape, hS.output, hS.size, hS.block⟩
      go_simp
      exact hK _ _ (Below.refl _ _) rfl
    refine steps_cons ?_ ?_
    · refine step_on rfl rfl ?_
      intro ev w5 hS hc hf hold hval a K ha hK
      have e22 : ev (.tmp 22) = .bool true := hval 7 22 (by kernel_rfl) rfl
      replace hS : Grow W w5 := ⟨hS.os, hS.tape, hS.output, hS.size, hS.block⟩
      go_simp
      exact hK _ _ (Below.refl _ _) rfl
    exact steps_nil
  · intro ev w6 hS hval
    replace hS : Grow W w6 := ⟨hS.os, hS.tape, hS.output, hS.size, hS.block⟩
    have e14 : ev (.tmp 14) = .bool true := hval 8 14 rfl
    simp only [putsOf, List.foldl_cons, List.foldl_nil, Act.put, List.setIfInBounds_toArray, List.set_cons_zero, List.set_cons_succ]
    rw [e14]
    clear hval
    have hF := F.grow hS
    have hres := hF.res
    have r0 : w6.cell? ⟨w.heap.size + 1, 0, none⟩ = some (.int .i64 0) := (hres.cell 0).trans rfl
    have f0 := hres.frozen 0
    have r1 : w6.cell? ⟨w.heap.size + 1, 1, none⟩ = some (.int .i64 0) := (hres.cell 1).trans rfl
    have f1 := hres.frozen 1
    have r2 : w6.cell? ⟨w.heap.size + 1, 2, none⟩ = some (.slice none 0 0) := (hres.cell 2).trans rfl
    have f2 := hres.frozen 2
    have r3 : w6.cell? ⟨w.heap.size + 1, 3, none⟩ = some (.slice none 0 0) := (hres.cell 3).trans rfl
    have f3 := hres.frozen 3
    go_wp2
    have hbl := grow_set (v0 := .int .i64 2) (v1 := .int .i64 0) (v2 := .slice none 0 0) (v3 := .slice none 0 0) (Nat.le_succ w.heap.size) hF.low
    exact do_ret (s := w.heap.size + 1) (A1 := none) (c1 := 0) (A2 := none) (c2 := 0) (.inl rfl) rfl (res_set hres) (Keep.of_below hbl) (made_nil _ _ _) (made_nil _ _ _) (Hp.out.keep hbl)
set_option maxRecDepth 100000 in
set_option maxHeartbeats 4000000 in
theorem Do_ins_full (g gp : Nat) (AD : Option Addr) (nd cd B : Nat) (p k : Int) (most : Int) (T D : List UInt8) (w : World) (hg : Bk w g 52 #[.pointer (some ⟨gp, 0, none⟩), .int .i64 most]) (hp : PlS w gp T)
    (hd : Rd w B 1 AD nd (D.map bv)) (hB : B ≤ w.heap.size) (hdne : 0 < nd → ∀ a, AD = some a → a.block ≠ gp) (hgne : g ≠ gp) (hT : T.length ≤ 549755813888) (hD : nd ≤ 549755813888) (hpb : -9223372036854775808 ≤ (p : Int) ∧ (p : Int) ≤ 9223372036854775807) (hkb : -9223372036854775808 ≤ (k : Int) ∧ (k : Int) ≤ 9223372036854775807) (hmb : 0 ≤ most ∧ most ≤ 2147483648)
    (hhas : hasB T.length p 0 = true) (hfull : most - (T.length : Int) < (nd : Int)) :
    Calls Tryz.prog 19 #[.pointer (some ⟨g, 0, none⟩), stepV 1 p k AD nd cd] w fun e w' => DoTold gp (T) ⟨3, 0, [], []⟩ w w' e := by
  have Hp := Lib.hid hp
  obtain ⟨A, c, hb, hr, hnc, hne⟩ := hp
  obtain ⟨n, hn⟩ : ∃ n, T.length = n := ⟨_, rfl⟩
  rw [hn] at hb hr hnc hT hne
  rw [hn] at hhas hfull
  have hDl : D.length = nd := by simpa using hd.1
  have F := do_start (kind := 1) (p := p) (k := k) (cd := cd) hg hb hr hd hB hgne
  have HF := Lib.hid F
  have Hn := Lib.hid hn
  have Hne := Lib.hid hne
  have Hdne := Lib.hid hdne
  clear hb hr hd hg F hn hne hdne
  unfold stepV
  go_enter Tryz.func19, Tryz.ntmps19
  go_wp2
  obtain ⟨W, hW⟩ : ∃ W, (w.alloc (.cells #[.int .i64 1, .int .i64 p, .int .i64 k, .slice AD nd cd] 29)).alloc (.cells #[.int .i64 0, .int .i64 0, .slice none 0 0, .slice none 0 0] 41) = W := ⟨_, rfl⟩
  rw [hW] at HF ⊢
  have F := HF.out
  clear hW HF
  refine wp_region_any (by kernel_rfl) ?_
  refine wpAny_loose2 [15, 16, 17, 18, 19, 20, 21, 22, 14] Grow (Vs [is (.pointer (some ⟨g, 0, none⟩)), is (.pointer (some ⟨g, 0, none⟩)), is (.pointer (some ⟨g, 0, none⟩)), is (.pointer (some ⟨gp, 0, none⟩)), is (.pointer (some ⟨w.heap.size, 1, none⟩)), is (.int .i64 p), is (.bool true), is (.bool false), is (.bool false)]) _ _ rfl (by kernel_rfl) (Below.refl _ _) (fun _ _ => Grow.trans) (stb_all (by repeat' (first | exact stb_is _ | exact stb_row _ _ _ | (refine List.forall_mem_cons.2 ⟨?_, ?_⟩) | (intro p hp; cases hp)))) ?_ ?_
  · refine steps_of ?_
    refine steps_cons ?_ ?_
    · refine step_on rfl rfl ?_
      intro ev w5 hS hc hf hold hval a K ha hK
      have e0 : ev (.tmp 0) = .pointer (some ⟨g, 0, none⟩) := hold 0 (by kernel_rfl)
      replace hS : Grow W w5 := ⟨hS.os, hS.tape, hS.output, hS.size, hS.block⟩
      go_simp
      exact hK _ _ (Below.refl _ _) rfl
    refine steps_cons ?_ ?_
    · refine step_on rfl rfl ?_
      intro ev w5 hS hc hf hold hval a K ha hK
      have e15 : ev (.tmp 15) = .pointer (some ⟨g, 0, none⟩) := hval 0 15 (by kernel_rfl) rfl
      replace hS : Grow W w5 := ⟨hS.os, hS.tape, hS.output, hS.size, hS.block⟩
      go_simp
      exact hK _ _ (Below.refl _ _) rfl
    refine steps_cons ?_ ?_
    · refine step_on rfl rfl ?_
      intro ev w5 hS hc hf hold hval a K ha hK
      have e16 : ev (.tmp 16) = .pointer (some ⟨g, 0, none⟩) := hval 1 16 (by kernel_rfl) rfl
      replace hS : Grow W w5 := ⟨hS.os, hS.tape, hS.output, hS.size, hS.block⟩
      go_simp
      exact hK _ _ (Below.refl _ _) rfl
    refine steps_cons ?_ ?_
    · refine step_on rfl rfl ?_
      intro ev w5 hS hc hf hold hval a K ha hK
      have e17 : ev (.tmp 17) = .pointer (some ⟨g, 0, none⟩) := hval 2 17 (by kernel_rfl) rfl
      replace hS : Grow W w5 := ⟨hS.os, hS.tape, hS.output, hS.size, hS.block⟩
      have c18 : w5.cell? ⟨g, 0, none⟩ = some (.pointer (some ⟨gp, 0, none⟩)) := ((F.mod.below hS F.mod.lt).cell 0).trans rfl
      go_simp
      exact hK _ _ (Below.refl _ _) rfl
    refine steps_cons ?_ ?_
    · refine step_on rfl rfl ?_
      intro ev w5 hS hc hf hold hval a K ha hK
      have e3 : ev (.tmp 3) = .pointer (some ⟨w.heap.size, 0, none⟩) := hold 3 (by kernel_rfl)
      replace hS : Grow W w5 := ⟨hS.os, hS.tape, hS.output, hS.size, hS.block⟩
      go_simp
      exact hK _ _ (Below.refl _ _) rfl
    refine steps_cons ?_ ?_
    · refine step_on rfl rfl ?_
      intro ev w5 hS hc hf hold hval a K ha hK
      have e19 : ev (.tmp 19) = .pointer (some ⟨w.heap.size, 1, none⟩) := hval 4 19 (by kernel_rfl) rfl
      replace hS : Grow W w5 := ⟨hS.os, hS.tape, hS.output, hS.size, hS.block⟩
      have c20 : w5.cell? ⟨w.heap.size, 1, none⟩ = some (.int .i64 p) := ((F.step.below hS F.step.lt).cell 1).trans rfl
      go_simp
      exact hK _ _ (Below.refl _ _) rfl
    refine steps_cons ?_ ?_
    · refine step_on rfl rfl ?_
      intro ev w5 hS hc hf hold hval a K ha hK
      have e18 : ev (.tmp 18) = .pointer (some ⟨gp, 0, none⟩) := hval 3 18 (by kernel_rfl) rfl
      have e20 : ev (.tmp 20) = .int .i64 p := hval 5 20 (by kernel_rfl) rfl
      replace hS : Grow W w5 := ⟨hS.os, hS.tape, hS.output, hS.size, hS.block⟩
      go_simp
      refine (has_any gp A n c p (0) w5 (((F.pl.below hS F.pl.lt).cell 0).trans rfl) (by omega) hpb (by omega)).mono ?_
      rintro e w8 ⟨rfl, rfl⟩
      exact hK _ _ (Below.refl _ _) (bool_eq hhas)
    refine steps_cons ?_ ?_
    · refine step_on rfl rfl ?_
      intro ev w5 hS hc hf hold hval a K ha hK
      have e21 : ev (.tmp 21) = .bool true := hval 6 21 (by kernel_rfl) rfl
      replace hS : Grow W w5 := ⟨hS.os, hS.tape, hS.output, hS.size, hS.block⟩
      go_simp
      exact hK _ _ (Below.refl _ _) rfl
    refine steps_cons ?_ ?_
    · refine step_on rfl rfl ?_
      intro ev w5 hS hc hf hold hval a K ha hK
      have e22 : ev (.tmp 22) = .bool false := hval 7 22 (by kernel_rfl) rfl
      replace hS : Grow W w5 := ⟨hS.os, hS.tape, hS.output, hS.size, hS.block⟩
      go_simp
      exact hK _ _ (Below.refl _ _) rfl
    exact steps_nil
  · intro ev w6 hS hval
    replace hS : Grow W w6 := ⟨hS.os, hS.tape, hS.output, hS.size, hS.block⟩
    have e14 : ev (.tmp 14) = .bool false := hval 8 14 rfl
    simp only [putsOf, List.foldl_cons, List.foldl_nil, Act.put, List.setIfInBounds_toArray, List.set_cons_zero, List.set_cons_succ]
    rw [e14]
    clear hval
    have F6 := F.grow hS
    clear F hS
    revert F6
    generalize w6 = W2
    intro F
    go_wp2
    refine wp_region_any (by kernel_rfl) ?_
    refine wpAny_loose2 [25, 26, 27, 28, 29, 30, 31, 32, 33, 34, 35, 36, 37, 38, 39, 40, 41, 24] Grow (Vs [is (.pointer (some ⟨w.heap.size, 3, none⟩)), is (.slice AD nd cd), is (.int .i64 (nd : Int)), is (.pointer (some ⟨g, 0, none⟩)), is (.pointer (some ⟨g, 0, none⟩)), is (.pointer (some ⟨g, 1, none⟩)), is (.int .i64 most), is (.pointer (some ⟨g, 0, none⟩)), is (.pointer (some ⟨g, 0, none⟩)), is (.pointer (some ⟨g, 0, none⟩)), is (.pointer (some ⟨gp, 0, none⟩)), is (.pointer (some ⟨gp, 0, none⟩)), is (.pointer (some ⟨gp, 0, none⟩)), is (.slice A n c), is (.int .i64 (n : Int)), is (.int .i64 (most - (n : Int))), is (.bool true), is (.bool true)]) _ _ rfl (by kernel_rfl) (Below.refl _ _) (fun _ _ => Grow.trans) (stb_all (by repeat' (first | exact stb_is _ | exact stb_row _ _ _ | (refine List.forall_mem_cons.2 ⟨?_, ?_⟩) | (intro p hp; cases hp)))) ?_ ?_
    · refine steps_of ?_
      refine steps_cons ?_ ?_
      · refine step_on rfl rfl ?_
        intro ev w5 hS hc hf hold hval a K ha hK
        have e3 : ev (.tmp 3) = .pointer (some ⟨w.heap.size, 0, none⟩) := hold 3 (by kernel_rfl)
        replace hS : Grow W2 w5 := ⟨hS.os, hS.tape, hS.output, hS.size, hS.block⟩
        go_simp
        exact hK _ _ (Below.refl _ _) rfl
      refine steps_cons ?_ ?_
      · refine step_on rfl rfl ?_
        intro ev w5 hS hc hf hold hval a K ha hK
        have e25 : ev (.tmp 25) = .pointer (some ⟨w.heap.size, 3, none⟩) := hval 0 25 (by kernel_rfl) rfl
        replace hS : Grow W2 w5 := ⟨hS.os, hS.tape, hS.output, hS.size, hS.block⟩
        have c26 : w5.cell? ⟨w.heap.size, 3, none⟩ = some (.slice AD nd cd) := ((F.step.below hS F.step.lt).cell 3).trans rfl
        go_simp
        exact hK _ _ (Below.refl _ _) rfl
      refine steps_cons ?_ ?_
      · refine step_on rfl rfl ?_
        intro ev w5 hS hc hf hold hval a K ha hK
        have e26 : ev (.tmp 26) = .slice AD nd cd := hval 1 26 (by kernel_rfl) rfl
        replace hS : Grow W2 w5 := ⟨hS.os, hS.tape, hS.output, hS.size, hS.block⟩
        go_simp
        exact hK _ _ (Below.refl _ _) rfl
      refine steps_cons ?_ ?_
      · refine step_on rfl rfl ?_
        intro ev w5 hS hc hf hold hval a K ha hK
        have e0 : ev (.tmp 0) = .pointer (some ⟨g, 0, none⟩) := hold 0 (by kernel_rfl)
        replace hS : Grow W2 w5 := ⟨hS.os, hS.tape, hS.output, hS.size, hS.block⟩
        go_simp
        exact hK _ _ (Below.refl _ _) rfl
      refine steps_cons ?_ ?_
      · refine step_on rfl rfl ?_
        intro ev w5 hS hc hf hold hval a K ha hK
        have e28 : ev (.tmp 28) = .pointer (some ⟨g, 0, none⟩) := hval 3 28 (by kernel_rfl) rfl
        replace hS : Grow W2 w5 := ⟨hS.os, hS.tape, hS.output, hS.size, hS.block⟩
        go_simp
        exact hK _ _ (Below.refl _ _) rfl
      refine steps_cons ?_ ?_
      · refine step_on rfl rfl ?_
        intro ev w5 hS hc hf hold hval a K ha hK
        have e29 : ev (.tmp 29) = .pointer (some ⟨g, 0, none⟩) := hval 4 29 (by kernel_rfl) rfl
        replace hS : Grow W2 w5 := ⟨hS.os, hS.tape, hS.output, hS.size, hS.block⟩
        go_simp
        exact hK _ _ (Below.refl _ _) rfl
      refine steps_cons ?_ ?_
      · refine step_on rfl rfl ?_
        intro ev w5 hS hc hf hold hval a K ha hK
        have e30 : ev (.tmp 30) = .pointer (some ⟨g, 1, none⟩) := hval 5 30 (by kernel_rfl) rfl
        replace hS : Grow W2 w5 := ⟨hS.os, hS.tape, hS.output, hS.size, hS.block⟩
        have c31 : w5.cell? ⟨g, 1, none⟩ = some (.int .i64 most) := ((F.mod.below hS F.mod.lt).cell 1).trans rfl
        go_simp
        exact hK _ _ (Below.refl _ _) rfl
      refine steps_cons ?_ ?_
      · refine step_on rfl rfl ?_
        intro ev w5 hS hc hf hold hval a K ha hK
        have e0 : ev (.tmp 0) = .pointer (some ⟨g, 0, none⟩) := hold 0 (by kernel_rfl)
        replace hS : Grow W2 w5 := ⟨hS.os, hS.tape, hS.output, hS.size, hS.block⟩
        go_simp
        exact hK _ _ (Below.refl _ _) rfl
      refine steps_cons ?_ ?_
      · refine step_on rfl rfl ?_
        intro ev w5 hS hc hf hold hval a K ha hK
        have e32 : ev (.tmp 32) = .pointer (some ⟨g, 0, none⟩) := hval 7 32 (by kernel_rfl) rfl
        replace hS : Grow W2 w5 := ⟨hS.os, hS.tape, hS.output, hS.size, hS.block⟩
        go_simp
        exact hK _ _ (Below.refl _ _) rfl
      refine steps_cons ?_ ?_
      · refine step_on rfl rfl ?_
        intro ev w5 hS hc hf hold hval a K ha hK
        have e33 : ev (.tmp 33) = .pointer (some ⟨g, 0, none⟩) := hval 8 33 (by kernel_rfl) rfl
        replace hS : Grow W2 w5 := ⟨hS.os, hS.tape, hS.output, hS.size, hS.block⟩
        go_simp
        exact hK _ _ (Below.refl _ _) rfl
      refine steps_cons ?_ ?_
      · refine step_on rfl rfl ?_
        intro ev w5 hS hc hf hold hval a K ha hK
        have e34 : ev (.tmp 34) = .pointer (some ⟨g, 0, none⟩) := hval 9 34 (by kernel_rfl) rfl
        replace hS : Grow W2 w5 := ⟨hS.os, hS.tape, hS.output, hS.size, hS.block⟩
        have c35 : w5.cell? ⟨g, 0, none⟩ = some (.pointer (some ⟨gp, 0, none⟩)) := ((F.mod.below hS F.mod.lt).cell 0).trans rfl
        go_simp
        exact hK _ _ (Below.refl _ _) rfl
      refine steps_cons ?_ ?_
      · refine step_on rfl rfl ?_
        intro ev w5 hS hc hf hold hval a K ha hK
        have e35 : ev (.tmp 35) = .pointer (some ⟨gp, 0, none⟩) := hval 10 35 (by kernel_rfl) rfl
        replace hS : Grow W2 w5 := ⟨hS.os, hS.tape, hS.output, hS.size, hS.block⟩
        go_simp
        exact hK _ _ (Below.refl _ _) rfl
      refine steps_cons ?_ ?_
      · refine step_on rfl rfl ?_
        intro ev w5 hS hc hf hold hval a K ha hK
        have e36 : ev (.tmp 36) = .pointer (some ⟨gp, 0, none⟩) := hval 11 36 (by kernel_rfl) rfl
        replace hS : Grow W2 w5 := ⟨hS.os, hS.tape, hS.output, hS.size, hS.block⟩
        go_simp
        exact hK _ _ (Below.refl _ _) rfl
      refine steps_cons ?_ ?_
      · refine step_on rfl rfl ?_
        intro ev w5 hS hc hf hold hval a K ha hK
        have e37 : ev (.tmp 37) = .pointer (some ⟨gp, 0, none⟩) := hval 12 37 (by kernel_rfl) rfl
        replace hS : Grow W2 w5 := ⟨hS.os, hS.tape, hS.output, hS.size, hS.block⟩
        have c38 : w5.cell? ⟨gp, 0, none⟩ = some (.slice A n c) := ((F.pl.below hS F.pl.lt).cell 0).trans rfl
        go_simp
        exact hK _ _ (Below.refl _ _) rfl
      refine steps_cons ?_ ?_
      · refine step_on rfl rfl ?_
        intro ev w5 hS hc hf hold hval a K ha hK
        have e38 : ev (.tmp 38) = .slice A n c := hval 13 38 (by kernel_rfl) rfl
        replace hS : Grow W2 w5 := ⟨hS.os, hS.tape, hS.output, hS.size, hS.block⟩
        go_simp
        exact hK _ _ (Below.refl _ _) rfl
      refine steps_cons ?_ ?_
      · refine step_on rfl rfl ?_
        intro ev w5 hS hc hf hold hval a K ha hK
        have e31 : ev (.tmp 31) = .int .i64 most := hval 6 31 (by kernel_rfl) rfl
        have e39 : ev (.tmp 39) = .int .i64 (n : Int) := hval 14 39 (by kernel_rfl) rfl
        replace hS : Grow W2 w5 := ⟨hS.os, hS.tape, hS.output, hS.size, hS.block⟩
        go_simp
        exact hK _ _ (Below.refl _ _) (i64_eq (by rw [IntKind.wrap_i64]; omega))
      refine steps_cons ?_ ?_
      · refine step_on rfl rfl ?_
        intro ev w5 hS hc hf hold hval a K ha hK
        have e27 : ev (.tmp 27) = .int .i64 (nd : Int) := hval 2 27 (by kernel_rfl) rfl
        have e40 : ev (.tmp 40) = .int .i64 (most - (n : Int)) := hval 15 40 (by kernel_rfl) rfl
        replace hS : Grow W2 w5 := ⟨hS.os, hS.tape, hS.output, hS.size, hS.block⟩
        go_simp
        exact hK _ _ (Below.refl _ _) (bool_eq (by simp <;> omega))
      refine steps_cons ?_ ?_
      · refine step_on rfl rfl ?_
        intro ev w5 hS hc hf hold hval a K ha hK
        have e41 : ev (.tmp 41) = .bool true := hval 16 41 (by kernel_rfl) rfl
        replace hS : Grow W2 w5 := ⟨hS.os, hS.tape, hS.output, hS.size, hS.block⟩
        go_simp
        exact hK _ _ (Below.refl _ _) rfl
      exact steps_nil
    · intro ev w6 hS hval
      replace hS : Grow W2 w6 := ⟨hS.os, hS.tape, hS.output, hS.size, hS.block⟩
      have e24 : ev (.tmp 24) = .bool true := hval 17 24 rfl
      simp only [putsOf, List.foldl_cons, List.foldl_nil, Act.put, List.setIfInBounds_toArray, List.set_cons_zero, List.set_cons_succ]
      rw [e24]
      clear hval
      have hF := F.grow hS
      have hres := hF.res
      have r0 : w6.cell? ⟨w.heap.size + 1, 0, none⟩ = some (.int .i64 0) := (hres.cell 0).trans rfl
      have f0 := hres.frozen 0
      have r1 : w6.cell? ⟨w.heap.size + 1, 1, none⟩ = some (.int .i64 0) := (hres.cell 1).trans rfl
      have f1 := hres.frozen 1
      have r2 : w6.cell? ⟨w.heap.size + 1, 2, none⟩ = some (.slice none 0 0) := (hres.cell 2).trans rfl
      have f2 := hres.frozen 2
      have r3 : w6.cell? ⟨w.heap.size + 1, 3, none⟩ = some (.slice none 0 0) := (hres.cell 3).trans rfl
      have f3 := hres.frozen 3
      go_wp2
      have hbl := grow_set (v0 := .int .i64 3) (v1 := .int .i64 0) (v2 := .slice none 0 0) (v3 := .slice none 0 0) (Nat.le_succ w.heap.size) hF.low
      exact do_ret (s := w.heap.size + 1) (A1 := none) (c1 := 0) (A2 := none) (c2 := 0) (.inl rfl) rfl (res_set hres) (Keep.of_below hbl) (made_nil _ _ _) (made_nil _ _ _) (Hp.out.keep hbl)
set_option maxRecDepth 100000 in
set_option maxHeartbeats 4000000 in
theorem Do_del_range (g gp : Nat) (AD : Option Addr) (nd cd B : Nat) (p k : Int) (most : Int) (T D : List UInt8) (w : World) (hg : Bk w g 52 #[.pointer (some ⟨gp, 0, none⟩), .int .i64 most]) (hp : PlS w gp T)
    (hd : Rd w B 1 AD nd (D.map bv)) (hB : B ≤ w.heap.size) (hdne : 0 < nd → ∀ a, AD = some a → a.block ≠ gp) (hgne : g ≠ gp) (hT : T.length ≤ 549755813888) (hD : nd ≤ 549755813888) (hpb : -9223372036854775808 ≤ (p : Int) ∧ (p : Int) ≤ 9223372036854775807) (hkb : -9223372036854775808 ≤ (k : Int) ∧ (k : Int) ≤ 9223372036854775807) (hmb : 0 ≤ most ∧ most ≤ 2147483648)
    (hhas : hasB T.length p k = false) :
    Calls Tryz.prog 19 #[.pointer (some ⟨g, 0, none⟩), stepV 2 p k AD nd cd] w fun e w' => DoTold gp (T) ⟨2, 0, [], []⟩ w w' e := by
  have Hp := Lib.hid hp
  obtain ⟨A, c, hb, hr, hnc, hne⟩ := hp
  obtain ⟨n, hn⟩ : ∃ n, T.length = n := ⟨_, rfl⟩
  rw [hn] at hb hr hnc hT hne
  rw [hn] at hhas
  have hDl : D.length = nd := by simpa using hd.1
  have F := do_start (kind := 2) (p := p) (k := k) (cd := cd) hg hb hr hd hB hgne
  have HF := Lib.hid F
  have Hn := Lib.hid hn
  have Hne := Lib.hid hne
  have Hdne := Lib.hid hdne
  clear hb hr hd hg F hn hne hdne
  unfold stepV
  go_enter Tryz.func19, Tryz.ntmps19
  go_wp2
  obtain ⟨W, hW⟩ : ∃ W, (w.alloc (.cells #[.int .i64 2, .int .i64 p, .int .i64 k, .slice AD nd cd] 29)).alloc (.cells #[.int .i64 0, .int .i64 0, .slice none 0 0, .slice none 0 0] 41) = W := ⟨_, rfl⟩
  rw [hW] at HF ⊢
  have F := HF.out
  clear hW HF
  refine wp_region_any (by kernel_rfl) ?_
  refine wpAny_loose2 [55, 56, 57, 58, 59, 60, 61, 62, 63, 64] Grow (Vs [is (.pointer (some ⟨g, 0, none⟩)), is (.pointer (some ⟨g, 0, none⟩)), is (.pointer (some ⟨g, 0, none⟩)), is (.pointer (some ⟨gp, 0, none⟩)), is (.pointer (some ⟨w.heap.size, 1, none⟩)), is (.int .i64 p), is (.pointer (some ⟨w.heap.size, 2, none⟩)), is (.int .i64 k), is (.bool false), is (.bool true)]) _ _ rfl (by kernel_rfl) (Below.refl _ _) (fun _ _ => Grow.trans) (stb_all (by repeat' (first | exact stb_is _ | exact stb_row _ _ _ | (refine List.forall_mem_cons.2 ⟨?_, ?_⟩) | (intro p hp; cases hp)))) ?_ ?_
  · refine steps_of ?_
    refine steps_cons ?_ ?_
    · refine step_on rfl rfl ?_
      intro ev w5 hS hc hf hold hval a K ha hK
      have e0 : ev (.tmp 0) = .pointer (some ⟨g, 0, none⟩) := hold 0 (by kernel_rfl)
      replace hS : Grow W w5 := ⟨hS.os, hS.tape, hS.output, hS.size, hS.block⟩
      go_simp
      exact hK _ _ (Below.refl _ _) rfl
    refine steps_cons ?_ ?_
    · refine step_on rfl rfl ?_
      intro ev w5 hS hc hf hold hval a K ha hK
      have e55 : ev (.tmp 55) = .pointer (some ⟨g, 0, none⟩) := hval 0 55 (by kernel_rfl) rfl
      replace hS : Grow W w5 := ⟨hS.os, hS.tape, hS.output, hS.size, hS.block⟩
      go_simp
      exact hK _ _ (Below.refl _ _) rfl
    refine steps_cons ?_ ?_
    · refine step_on rfl rfl ?_
      intro ev w5 hS hc hf hold hval a K ha hK
      have e56 : ev (.tmp 56) = .pointer (some ⟨g, 0, none⟩) := hval 1 56 (by kernel_rfl) rfl
      replace hS : Grow W w5 := ⟨hS.os, hS.tape, hS.output, hS.size, hS.block⟩
      go_simp
      exact hK _ _ (Below.refl _ _) rfl
    refine steps_cons ?_ ?_
    · refine step_on rfl rfl ?_
      intro ev w5 hS hc hf hold hval a K ha hK
      have e57 : ev (.tmp 57) = .pointer (some ⟨g, 0, none⟩) := hval 2 57 (by kernel_rfl) rfl
      replace hS : Grow W w5 := ⟨hS.os, hS.tape, hS.output, hS.size, hS.block⟩
      have c58 : w5.cell? ⟨g, 0, none⟩ = some (.pointer (some ⟨gp, 0, none⟩)) := ((F.mod.below hS F.mod.lt).cell 0).trans rfl
      go_simp
      exact hK _ _ (Below.refl _ _) rfl
    refine steps_cons ?_ ?_
    · refine step_on rfl rfl ?_
      intro ev w5 hS hc hf hold hval a K ha hK
      have e3 : ev (.tmp 3) = .pointer (some ⟨w.heap.size, 0, none⟩) := hold 3 (by kernel_rfl)
      replace hS : Grow W w5 := ⟨hS.os, hS.tape, hS.output, hS.size, hS.block⟩
      go_simp
      exact hK _ _ (Below.refl _ _) rfl
    refine steps_cons ?_ ?_
    · refine step_on rfl rfl ?_
      intro ev w5 hS hc hf hold hval a K ha hK
      have e59 : ev (.tmp 59) = .pointer (some ⟨w.heap.size, 1, none⟩) := hval 4 59 (by kernel_rfl) rfl
      replace hS : Grow W w5 := ⟨hS.os, hS.tape, hS.output, hS.size, hS.block⟩
      have c60 : w5.cell? ⟨w.heap.size, 1, none⟩ = some (.int .i64 p) := ((F.step.below hS F.step.lt).cell 1).trans rfl
      go_simp
      exact hK _ _ (Below.refl _ _) rfl
    refine steps_cons ?_ ?_
    · refine step_on rfl rfl ?_
      intro ev w5 hS hc hf hold hval a K ha hK
      have e3 : ev (.tmp 3) = .pointer (some ⟨w.heap.size, 0, none⟩) := hold 3 (by kernel_rfl)
      replace hS : Grow W w5 := ⟨hS.os, hS.tape, hS.output, hS.size, hS.block⟩
      go_simp
      exact hK _ _ (Below.refl _ _) rfl
    refine steps_cons ?_ ?_
    · refine step_on rfl rfl ?_
      intro ev w5 hS hc hf hold hval a K ha hK
      have e61 : ev (.tmp 61) = .pointer (some ⟨w.heap.size, 2, none⟩) := hval 6 61 (by kernel_rfl) rfl
      replace hS : Grow W w5 := ⟨hS.os, hS.tape, hS.output, hS.size, hS.block⟩
      have c62 : w5.cell? ⟨w.heap.size, 2, none⟩ = some (.int .i64 k) := ((F.step.below hS F.step.lt).cell 2).trans rfl
      go_simp
      exact hK _ _ (Below.refl _ _) rfl
    refine steps_cons ?_ ?_
    · refine step_on rfl rfl ?_
      intro ev w5 hS hc hf hold hval a K ha hK
      have e58 : ev (.tmp 58) = .pointer (some ⟨gp, 0, none⟩) := hval 3 58 (by kernel_rfl) rfl
      have e60 : ev (.tmp 60) = .int .i64 p := hval 5 60 (by kernel_rfl) rfl
      have e62 : ev (.tmp 62) = .int .i64 k := hval 7 62 (by kernel_rfl) rfl
      replace hS : Grow W w5 := ⟨hS.os, hS.tape, hS.output, hS.size, hS.block⟩
      go_simp
      refine (has_any gp A n c p (k) w5 (((F.pl.below hS F.pl.lt).cell 0).trans rfl) (by omega) hpb hkb).mono ?_
      rintro e w8 ⟨rfl, rfl⟩
      exact hK _ _ (Below.refl _ _) (bool_eq hhas)
    refine steps_cons ?_ ?_
    · refine step_on rfl rfl ?_
      intro ev w5 hS hc hf hold hval a K ha hK
      have e63 : ev (.tmp 63) = .bool false := hval 8 63 (by kernel_rfl) rfl
      replace hS : Grow W w5 := ⟨hS.os, hS.tape, hS.output, hS.size, hS.block⟩
      go_simp
      exact hK _ _ (Below.refl _ _) rfl
    exact steps_nil
  · intro ev w6 hS hval
    replace hS : Grow W w6 := ⟨hS.os, hS.tape, hS.output, hS.size, hS.block⟩
    have e64 : ev (.tmp 64) = .bool true := hval 9 64 rfl
    simp only [putsOf, List.foldl_cons, List.foldl_nil, Act.put, List.setIfInBounds_toArray, List.set_cons_zero, List.set_cons_succ]
    rw [e64]
    clear hval
    have hF := F.grow hS
    have hres := hF.res
    have r0 : w6.cell? ⟨w.heap.size + 1, 0, none⟩ = some (.int .i64 0) := (hres.cell 0).trans rfl
    have f0 := hres.frozen 0
    have r1 : w6.cell? ⟨w.heap.size + 1, 1, none⟩ = some (.int .i64 0) := (hres.cell 1).trans rfl
    have f1 := hres.frozen 1
    have r2 : w6.cell? ⟨w.heap.size + 1, 2, none⟩ = some (.slice none 0 0) := (hres.cell 2).trans rfl
    have f2 := hres.frozen 2
    have r3 : w6.cell? ⟨w.heap.size + 1, 3, none⟩ = some (.slice none 0 0) := (hres.cell 3).trans rfl
    have f3 := hres.frozen 3
    go_wp2
    have hbl := grow_set (v0 := .int .i64 2) (v1 := .int .i64 0) (v2 := .slice none 0 0) (v3 := .slice none 0 0) (Nat.le_succ w.heap.size) hF.low
    exact do_ret (s := w.heap.size + 1) (A1 := none) (c1 := 0) (A2 := none) (c2 := 0) (.inl rfl) rfl (res_set hres) (Keep.of_below hbl) (made_nil _ _ _) (made_nil _ _ _) (Hp.out.keep hbl)
set_option maxRecDepth 100000 in
set_option maxHeartbeats 4000000 in
theorem Do_take_range (g gp : Nat) (AD : Option Addr) (nd cd B : Nat) (p k : Int) (most : Int) (T D : List UInt8) (w : World) (hg : Bk w g 52 #[.pointer (some ⟨gp, 0, none⟩), .int .i64 most]) (hp : PlS w gp T)
    (hd : Rd w B 1 AD nd (D.map bv)) (hB : B ≤ w.heap.size) (hdne : 0 < nd → ∀ a, AD = some a → a.block ≠ gp) (hgne : g ≠ gp) (hT : T.length ≤ 549755813888) (hD : nd ≤ 549755813888) (hpb : -9223372036854775808 ≤ (p : Int) ∧ (p : Int) ≤ 9223372036854775807) (hkb : -9223372036854775808 ≤ (k : Int) ∧ (k : Int) ≤ 9223372036854775807) (hmb : 0 ≤ most ∧ most ≤ 2147483648)
    (hhas : hasB T.length p k = false) :
    Calls Tryz.prog 19 #[.pointer (some ⟨g, 0, none⟩), stepV 5 p k AD nd cd] w fun e w' => DoTold gp (T) ⟨2, 0, [], []⟩ w w' e := by
  have Hp := Lib.hid hp
  obtain ⟨A, c, hb, hr, hnc, hne⟩ := hp
  obtain ⟨n, hn⟩ : ∃ n, T.length = n := ⟨_, rfl⟩
  rw [hn] at hb hr hnc hT hne
  rw [hn] at hhas
  have hDl : D.length = nd := by simpa using hd.1
  have F := do_start (kind := 5) (p := p) (k := k) (cd := cd) hg hb hr hd hB hgne
  have HF := Lib.hid F
  have Hn := Lib.hid hn
  have Hne := Lib.hid hne
  have Hdne := Lib.hid hdne
  clear hb hr hd hg F hn hne hdne
  unfold stepV
  go_enter Tryz.func19, Tryz.ntmps19
  go_wp2
  obtain ⟨W, hW⟩ : ∃ W, (w.alloc (.cells #[.int .i64 5, .int .i64 p, .int .i64 k, .slice AD nd cd] 29)).alloc (.cells #[.int .i64 0, .int .i64 0, .slice none 0 0, .slice none 0 0] 41) = W := ⟨_, rfl⟩
  rw [hW] at HF ⊢
  have F := HF.out
  clear hW HF
  refine wp_region_any (by kernel_rfl) ?_
  refine wpAny_loose2 [55, 56, 57, 58, 59, 60, 61, 62, 63, 64] Grow (Vs [is (.pointer (some ⟨g, 0, none⟩)), is (.pointer (some ⟨g, 0, none⟩)), is (.pointer (some ⟨g, 0, none⟩)), is (.pointer (some ⟨gp, 0, none⟩)), is (.pointer (some ⟨w.heap.size, 1, none⟩)), is (.int .i64 p), is (.pointer (some ⟨w.heap.size, 2, none⟩)), is (.int .i64 k), is (.bool false), is (.bool true)]) _ _ rfl (by kernel_rfl) (Below.refl _ _) (fun _ _ => Grow.trans) (stb_all (by repeat' (first | exact stb_is _ | exact stb_row _ _ _ | (refine List.forall_mem_cons.2 ⟨?_, ?_⟩) | (intro p hp; cases hp)))) ?_ ?_
  · refine steps_of ?_
    refine steps_cons ?_ ?_
    · refine step_on rfl rfl ?_
      intro ev w5 hS hc hf hold hval a K ha hK
      have e0 : ev (.tmp 0) = .pointer (some ⟨g, 0, none⟩) := hold 0 (by kernel_rfl)
      replace hS : Grow W w5 := ⟨hS.os, hS.tape, hS.output, hS.size, hS.block⟩
      go_simp
      exact hK _ _ (Below.refl _ _) rfl
    refine steps_cons ?_ ?_
    · refine step_on rfl rfl ?_
      intro ev w5 hS hc hf hold hval a K ha hK
      have e55 : ev (.tmp 55) = .pointer (some ⟨g, 0, none⟩) := hval 0 55 (by kernel_rfl) rfl
      replace hS : Grow W w5 := ⟨hS.os, hS.tape, hS.output, hS.size, hS.block⟩
      go_simp
      exact hK _ _ (Below.refl _ _) rfl
    refine steps_cons ?_ ?_
    · refine step_on rfl rfl ?_
      intro ev w5 hS hc hf hold hval a K ha hK
      have e56 : ev (.tmp 56) = .pointer (some ⟨g, 0, none⟩) := hval 1 56 (by kernel_rfl) rfl
      replace hS : Grow W w5 := ⟨hS.os, hS.tape, hS.output, hS.size, hS.block⟩
      go_simp
      exact hK _ _ (Below.refl _ _) rfl
    refine steps_cons ?_ ?_
    · refine step_on rfl rfl ?_
      intro ev w5 hS hc hf hold hval a K ha hK
      have e57 : ev (.tmp 57) = .pointer (some ⟨g, 0, none⟩) := hval 2 57 (by kernel_rfl) rfl
      replace hS : Grow W w5 := ⟨hS.os, hS.tape, hS.output, hS.size, hS.block⟩
      have c58 : w5.cell? ⟨g, 0, none⟩ = some (.pointer (some ⟨gp, 0, none⟩)) := ((F.mod.below hS F.mod.lt).cell 0).trans rfl
      go_simp
      exact hK _ _ (Below.refl _ _) rfl
    refine steps_cons ?_ ?_
    · refine step_on rfl rfl ?_
      intro ev w5 hS hc hf hold hval a K ha hK
      have e3 : ev (.tmp 3) = .pointer (some ⟨w.heap.size, 0, none⟩) := hold 3 (by kernel_rfl)
      replace hS : Grow W w5 := ⟨hS.os, hS.tape, hS.output, hS.size, hS.block⟩
      go_simp
      exact hK _ _ (Below.refl _ _) rfl
    refine steps_cons ?_ ?_
    · refine step_on rfl rfl ?_
      intro ev w5 hS hc hf hold hval a K ha hK
      have e59 : ev (.tmp 59) = .pointer (some ⟨w.heap.size, 1, none⟩) := hval 4 59 (by kernel_rfl) rfl
      replace hS : Grow W w5 := ⟨hS.os, hS.tape, hS.output, hS.size, hS.block⟩
      have c60 : w5.cell? ⟨w.heap.size, 1, none⟩ = some (.int .i64 p) := ((F.step.below hS F.step.lt).cell 1).trans rfl
      go_simp
      exact hK _ _ (Below.refl _ _) rfl
    refine steps_cons ?_ ?_
    · refine step_on rfl rfl ?_
      intro ev w5 hS hc hf hold hval a K ha hK
      have e3 : ev (.tmp 3) = .pointer (some ⟨w.heap.size, 0, none⟩) := hold 3 (by kernel_rfl)
      replace hS : Grow W w5 := ⟨hS.os, hS.tape, hS.output, hS.size, hS.block⟩
      go_simp
      exact hK _ _ (Below.refl _ _) rfl
    refine steps_cons ?_ ?_
    · refine step_on rfl rfl ?_
      intro ev w5 hS hc hf hold hval a K ha hK
      have e61 : ev (.tmp 61) = .pointer (some ⟨w.heap.size, 2, none⟩) := hval 6 61 (by kernel_rfl) rfl
      replace hS : Grow W w5 := ⟨hS.os, hS.tape, hS.output, hS.size, hS.block⟩
      have c62 : w5.cell? ⟨w.heap.size, 2, none⟩ = some (.int .i64 k) := ((F.step.below hS F.step.lt).cell 2).trans rfl
      go_simp
      exact hK _ _ (Below.refl _ _) rfl
    refine steps_cons ?_ ?_
    · refine step_on rfl rfl ?_
      intro ev w5 hS hc hf hold hval a K ha hK
      have e58 : ev (.tmp 58) = .pointer (some ⟨gp, 0, none⟩) := hval 3 58 (by kernel_rfl) rfl
      have e60 : ev (.tmp 60) = .int .i64 p := hval 5 60 (by kernel_rfl) rfl
      have e62 : ev (.tmp 62) = .int .i64 k := hval 7 62 (by kernel_rfl) rfl
      replace hS : Grow W w5 := ⟨hS.os, hS.tape, hS.output, hS.size, hS.block⟩
      go_simp
      refine (has_any gp A n c p (k) w5 (((F.pl.below hS F.pl.lt).cell 0).trans rfl) (by omega) hpb hkb).mono ?_
      rintro e w8 ⟨rfl, rfl⟩
      exact hK _ _ (Below.refl _ _) (bool_eq hhas)
    refine steps_cons ?_ ?_
    · refine step_on rfl rfl ?_
      intro ev w5 hS hc hf hold hval a K ha hK
      have e63 : ev (.tmp 63) = .bool false := hval 8 63 (by kernel_rfl) rfl
      replace hS : Grow W w5 := ⟨hS.os, hS.tape, hS.output, hS.size, hS.block⟩
      go_simp
      exact hK _ _ (Below.refl _ _) rfl
    exact steps_nil
  · intro ev w6 hS hval
    replace hS : Grow W w6 := ⟨hS.os, hS.tape, hS.output, hS.size, hS.block⟩
    have e64 : ev (.tmp 64) = .bool true := hval 9 64 rfl
    simp only [putsOf, List.foldl_cons, List.foldl_nil, Act.put, List.setIfInBounds_toArray, List.set_cons_zero, List.set_cons_succ]
    rw [e64]
    clear hval
    have hF := F.grow hS
    have hres := hF.res
    have r0 : w6.cell? ⟨w.heap.size + 1, 0, none⟩ = some (.int .i64 0) := (hres.cell 0).trans rfl
    have f0 := hres.frozen 0
    have r1 : w6.cell? ⟨w.heap.size + 1, 1, none⟩ = some (.int .i64 0) := (hres.cell 1).trans rfl
    have f1 := hres.frozen 1
    have r2 : w6.cell? ⟨w.heap.size + 1, 2, none⟩ = some (.slice none 0 0) := (hres.cell 2).trans rfl
    have f2 := hres.frozen 2
    have r3 : w6.cell? ⟨w.heap.size + 1, 3, none⟩ = some (.slice none 0 0) := (hres.cell 3).trans rfl
    have f3 := hres.frozen 3
    go_wp2
    have hbl := grow_set (v0 := .int .i64 2) (v1 := .int .i64 0) (v2 := .slice none 0 0) (v3 := .slice none 0 0) (Nat.le_succ w.heap.size) hF.low
    exact do_ret (s := w.heap.size + 1) (A1 := none) (c1 := 0) (A2 := none) (c2 := 0) (.inl rfl) rfl (res_set hres) (Keep.of_below hbl) (made_nil _ _ _) (made_nil _ _ _) (Hp.out.keep hbl)
set_option maxRecDepth 100000 in
set_option maxHeartbeats 4000000 in
theorem Do_set_range (g gp : Nat) (AD : Option Addr) (nd cd B : Nat) (p k : Int) (most : Int) (T D : List UInt8) (w : World) (hg : Bk w g 52 #[.pointer (some ⟨gp, 0, none⟩), .int .i64 most]) (hp : PlS w gp T)
    (hd : Rd w B 1 AD nd (D.map bv)) (hB : B ≤ w.heap.size) (hdne : 0 < nd → ∀ a, AD = some a → a.block ≠ gp) (hgne : g ≠ gp) (hT : T.length ≤ 549755813888) (hD : nd ≤ 549755813888) (hpb : -9223372036854775808 ≤ (p : Int) ∧ (p : Int) ≤ 9223372036854775807) (hkb : -9223372036854775808 ≤ (k : Int) ∧ (k : Int) ≤ 9223372036854775807) (hmb : 0 ≤ most ∧ most ≤ 2147483648)
    (hhas : hasB T.length p nd = false) :
    Calls Tryz.prog 19 #[.pointer (some ⟨g, 0, none⟩), stepV 3 p k AD nd cd] w fun e w' => DoTold gp (T) ⟨2, 0, [], []⟩ w w' e := by
  have Hp := Lib.hid hp
  obtain ⟨A, c, hb, hr, hnc, hne⟩ := hp
  obtain ⟨n, hn⟩ : ∃ n, T.length = n := ⟨_, rfl⟩
  rw [hn] at hb hr hnc hT hne
  rw [hn] at hhas
  have hDl : D.length = nd := by simpa using hd.1
  have F := do_start (kind := 3) (p := p) (k := k) (cd := cd) hg hb hr hd hB hgne
  have HF := Lib.hid F
  have Hn := Lib.hid hn
  have Hne := Lib.hid hne
  have Hdne := Lib.hid hdne
  clear hb hr hd hg F hn hne hdne
  unfold stepV
  go_enter Tryz.func19, Tryz.ntmps19
  go_wp2
  obtain ⟨W, hW⟩ : ∃ W, (w.alloc (.cells #[.int .i64 3, .int .i64 p, .int .i64 k, .slice AD nd cd] 29)).alloc (.cells #[.int .i64 0, .int .i64 0, .slice none 0 0, .slice none 0 0] 41) = W := ⟨_, rfl⟩
  rw [hW] at HF ⊢
  have F := HF.out
  clear hW HF
  refine wp_region_any (by kernel_rfl) ?_
  refine wpAny_loose2 [97, 98, 99, 100, 101, 102, 103, 104, 105, 106, 107] Grow (Vs [is (.pointer (some ⟨g, 0, none⟩)), is (.pointer (some ⟨g, 0, none⟩)), is (.pointer (some ⟨g, 0, none⟩)), is (.pointer (some ⟨gp, 0, none⟩)), is (.pointer (some ⟨w.heap.size, 1, none⟩)), is (.int .i64 p), is (.pointer (some ⟨w.heap.size, 3, none⟩)), is (.slice AD nd cd), is (.int .i64 (nd : Int)), is (.bool false), is (.bool true)]) _ _ rfl (by kernel_rfl) (Below.refl _ _) (fun _ _ => Grow.trans) (stb_all (by repeat' (first | exact stb_is _ | exact stb_row _ _ _ | (refine List.forall_mem_cons.2 ⟨?_, ?_⟩) | (intro p hp; cases hp)))) ?_ ?_
  · refine steps_of ?_
    refine steps_cons ?_ ?_
    · refine step_on rfl rfl ?_
      intro ev w5 hS hc hf hold hval a K ha hK
      have e0 : ev (.tmp 0) = .pointer (some ⟨g, 0, none⟩) := hold 0 (by kernel_rfl)
      replace hS : Grow W w5 := ⟨hS.os, hS.tape, hS.output, hS.size, hS.block⟩
      go_simp
      exact hK _ _ (Below.refl _ _) rfl
    refine steps_cons ?_ ?_
    · refine step_on rfl rfl ?_
      intro ev w5 hS hc hf hold hval a K ha hK
      have e97 : ev (.tmp 97) = .pointer (some ⟨g, 0, none⟩) := hval 0 97 (by kernel_rfl) rfl
      replace hS : Grow W w5 := ⟨hS.os, hS.tape, hS.output, hS.size, hS.block⟩
      go_simp
      exact hK _ _ (Below.refl _ _) rfl
    refine steps_cons ?_ ?_
    · refine step_on rfl rfl ?_
      intro ev w5 hS hc hf hold hval a K ha hK
      have e98 : ev (.tmp 98) = .pointer (some ⟨g, 0, none⟩) := hval 1 98 (by kernel_rfl) rfl
      replace hS : Grow W w5 := ⟨hS.os, hS.tape, hS.output, hS.size, hS.block⟩
      go_simp
      exact hK _ _ (Below.refl _ _) rfl
    refine steps_cons ?_ ?_
    · refine step_on rfl rfl ?_
      intro ev w5 hS hc hf hold hval a K ha hK
      have e99 : ev (.tmp 99) = .pointer (some ⟨g, 0, none⟩) := hval 2 99 (by kernel_rfl) rfl
      replace hS : Grow W w5 := ⟨hS.os, hS.tape, hS.output, hS.size, hS.block⟩
      have c100 : w5.cell? ⟨g, 0, none⟩ = some (.pointer (some ⟨gp, 0, none⟩)) := ((F.mod.below hS F.mod.lt).cell 0).trans rfl
      go_simp
      exact hK _ _ (Below.refl _ _) rfl
    refine steps_cons ?_ ?_
    · refine step_on rfl rfl ?_
      intro ev w5 hS hc hf hold hval a K ha hK
      have e3 : ev (.tmp 3) = .pointer (some ⟨w.heap.size, 0, none⟩) := hold 3 (by kernel_rfl)
      replace hS : Grow W w5 := ⟨hS.os, hS.tape, hS.output, hS.size, hS.block⟩
      go_simp
      exact hK _ _ (Below.refl _ _) rfl
    refine steps_cons ?_ ?_
    · refine step_on rfl rfl ?_
      intro ev w5 hS hc hf hold hval a K ha hK
      have e101 : ev (.tmp 101) = .pointer (some ⟨w.heap.size, 1, none⟩) := hval 4 101 (by kernel_rfl) rfl
      replace hS : Grow W w5 := ⟨hS.os, hS.tape, hS.output, hS.size, hS.block⟩
      have c102 : w5.cell? ⟨w.heap.size, 1, none⟩ = some (.int .i64 p) := ((F.step.below hS F.step.lt).cell 1).trans rfl
      go_simp
      exact hK _ _ (Below.refl _ _) rfl
    refine steps_cons ?_ ?_
    · refine step_on rfl rfl ?_
      intro ev w5 hS hc hf hold hval a K ha hK
      have e3 : ev (.tmp 3) = .pointer (some ⟨w.heap.size, 0, none⟩) := hold 3 (by kernel_rfl)
      replace hS : Grow W w5 := ⟨hS.os, hS.tape, hS.output, hS.size, hS.block⟩
      go_simp
      exact hK _ _ (Below.refl _ _) rfl
    refine steps_cons ?_ ?_
    · refine step_on rfl rfl ?_
      intro ev w5 hS hc hf hold hval a K ha hK
      have e103 : ev (.tmp 103) = .pointer (some ⟨w.heap.size, 3, none⟩) := hval 6 103 (by kernel_rfl) rfl
      replace hS : Grow W w5 := ⟨hS.os, hS.tape, hS.output, hS.size, hS.block⟩
      have c104 : w5.cell? ⟨w.heap.size, 3, none⟩ = some (.slice AD nd cd) := ((F.step.below hS F.step.lt).cell 3).trans rfl
      go_simp
      exact hK _ _ (Below.refl _ _) rfl
    refine steps_cons ?_ ?_
    · refine step_on rfl rfl ?_
      intro ev w5 hS hc hf hold hval a K ha hK
      have e104 : ev (.tmp 104) = .slice AD nd cd := hval 7 104 (by kernel_rfl) rfl
      replace hS : Grow W w5 := ⟨hS.os, hS.tape, hS.output, hS.size, hS.block⟩
      go_simp
      exact hK _ _ (Below.refl _ _) rfl
    refine steps_cons ?_ ?_
    · refine step_on rfl rfl ?_
      intro ev w5 hS hc hf hold hval a K ha hK
      have e100 : ev (.tmp 100) = .pointer (some ⟨gp, 0, none⟩) := hval 3 100 (by kernel_rfl) rfl
      have e102 : ev (.tmp 102) = .int .i64 p := hval 5 102 (by kernel_rfl) rfl
      have e105 : ev (.tmp 105) = .int .i64 (nd : Int) := hval 8 105 (by kernel_rfl) rfl
      replace hS : Grow W w5 := ⟨hS.os, hS.tape, hS.output, hS.size, hS.block⟩
      go_simp
      refine (has_any gp A n c p (nd) w5 (((F.pl.below hS F.pl.lt).cell 0).trans rfl) (by omega) hpb (by omega)).mono ?_
      rintro e w8 ⟨rfl, rfl⟩
      exact hK _ _ (Below.refl _ _) (bool_eq hhas)
    refine steps_cons ?_ ?_
    · refine step_on rfl rfl ?_
      intro ev w5 hS hc hf hold hval a K ha hK
      have e106 : ev (.tmp 106) = .bool false := hval 9 106 (by kernel_rfl) rfl
      replace hS : Grow W w5 := ⟨hS.os, hS.tape, hS.output, hS.size, hS.block⟩
      go_simp
      exact hK _ _ (Below.refl _ _) rfl
    exact steps_nil
  · intro ev w6 hS hval
    replace hS : Grow W w6 := ⟨hS.os, hS.tape, hS.output, hS.size, hS.block⟩
    have e107 : ev (.tmp 107) = .bool true := hval 10 107 rfl
    simp only [putsOf, List.foldl_cons, List.foldl_nil, Act.put, List.setIfInBounds_toArray, List.set_cons_zero, List.set_cons_succ]
    rw [e107]
    clear hval
    have hF := F.grow hS
    have hres := hF.res
    have r0 : w6.cell? ⟨w.heap.size + 1, 0, none⟩ = some (.int .i64 0) := (hres.cell 0).trans rfl
    have f0 := hres.frozen 0
    have r1 : w6.cell? ⟨w.heap.size + 1, 1, none⟩ = some (.int .i64 0) := (hres.cell 1).trans rfl
    have f1 := hres.frozen 1
    have r2 : w6.cell? ⟨w.heap.size + 1, 2, none⟩ = some (.slice none 0 0) := (hres.cell 2).trans rfl
    have f2 := hres.frozen 2
    have r3 : w6.cell? ⟨w.heap.size + 1, 3, none⟩ = some (.slice none 0 0) := (hres.cell 3).trans rfl
    have f3 := hres.frozen 3
    go_wp2
    have hbl := grow_set (v0 := .int .i64 2) (v1 := .int .i64 0) (v2 := .slice none 0 0) (v3 := .slice none 0 0) (Nat.le_succ w.heap.size) hF.low
    exact do_ret (s := w.heap.size + 1) (A1 := none) (c1 := 0) (A2 := none) (c2 := 0) (.inl rfl) rfl (res_set hres) (Keep.of_below hbl) (made_nil _ _ _) (made_nil _ _ _) (Hp.out.keep hbl)
end Go.Proofs.YtnileogagoipiaaGreatDoor
namespace Go.Proofs.YtnileogagoipiaaGreatDoor
open Go.RowKit
set_option linter.unusedVariables false
set_option linter.unusedSimpArgs false
set_option maxRecDepth 100000 in
set_option maxHeartbeats 4000000 in
theorem Do_ins_ok (g gp : Nat) (AD : Option Addr) (nd cd B : Nat) (p : Nat) (k : Int) (most : Int) (T D : List UInt8) (w : World) (hg : Bk w g 52 #[.pointer (some ⟨gp, 0, none⟩), .int .i64 most]) (hp : PlS w gp T)
    (hd : Rd w B 1 AD nd (D.map bv)) (hB : B ≤ w.heap.size) (hdne : 0 < nd → ∀ a, AD = some a → a.block ≠ gp) (hgne : g ≠ gp) (hT : T.length ≤ 549755813888) (hD : nd ≤ 549755813888) (hpb : -9223372036854775808 ≤ (p : Int) ∧ (p : Int) ≤ 9223372036854775807) (hkb : -9223372036854775808 ≤ (k : Int) ∧ (k : Int) ≤ 9223372036854775807) (hmb : 0 ≤ most ∧ most ≤ 2147483648)
    (hhas : hasB T.length p 0 = true) (hfull : (nd : Int) ≤ most - (T.length : Int)) :
    Calls Tryz.prog 19 #[.pointer (some ⟨g, 0, none⟩), stepV 1 p k AD nd cd] w fun e w' => DoTold gp (T.take p ++ (D ++ T.drop (p + 0))) ⟨0, 0, [], []⟩ w w' e := by
  have Hp := Lib.hid hp
  obtain ⟨A, c, hb, hr, hnc, hne⟩ := hp
  obtain ⟨n, hn⟩ : ∃ n, T.length = n := ⟨_, rfl⟩
  rw [hn] at hb hr hnc hT hne
  rw [hn] at hhas hfull
  have hDl : D.length = nd := by simpa using hd.1
  have F := do_start (kind := 1) (p := p) (k := k) (cd := cd) hg hb hr hd hB hgne
  have HF := Lib.hid F
  have Hn := Lib.hid hn
  have Hne := Lib.hid hne
  have Hdne := Lib.hid hdne
  clear hb hr hd hg F hn hne hdne
  obtain ⟨q, hq⟩ : ∃ q, p + 0 = q := ⟨_, rfl⟩
  rw [hq]
  obtain ⟨T2, hT2⟩ : ∃ T2, T.take p ++ (D ++ T.drop q) = T2 := ⟨_, rfl⟩
  rw [hT2]
  obtain ⟨N, hN⟩ : ∃ N, T2.length = N := ⟨_, rfl⟩
  have hqn : q ≤ n := by
    unfold hasB at hhas
    have := of_decide_eq_true hhas
    omega
  have hN2 : N ≤ 1099511627776 := by
    rw [← hN, ← hT2]
    have := Hn.out
    simp only [List.length_append, List.length_take, List.length_drop, List.length_nil]
    omega
  have HT2 := Lib.hid hT2
  have HN := Lib.hid hN
  clear hT2 hN
  unfold stepV
  go_enter Tryz.func19, Tryz.ntmps19
  go_wp2
  obtain ⟨W, hW⟩ : ∃ W, (w.alloc (.cells #[.int .i64 1, .int .i64 p, .int .i64 k, .slice AD nd cd] 29)).alloc (.cells #[.int .i64 0, .int .i64 0, .slice none 0 0, .slice none 0 0] 41) = W := ⟨_, rfl⟩
  rw [hW] at HF ⊢
  have F := HF.out
  clear hW HF
  refine wp_region_any (by kernel_rfl) ?_
  refine wpAny_loose2 [15, 16, 17, 18, 19, 20, 21, 22, 14] Grow (Vs [is (.pointer (some ⟨g, 0, none⟩)), is (.pointer (some ⟨g, 0, none⟩)), is (.pointer (some ⟨g, 0, none⟩)), is (.pointer (some ⟨gp, 0, none⟩)), is (.pointer (some ⟨w.heap.size, 1, none⟩)), is (.int .i64 p), is (.bool true), is (.bool false), is (.bool false)]) _ _ rfl (by kernel_rfl) (Below.refl _ _) (fun _ _ => Grow.trans) (stb_all (by repeat' (first | exact stb_is _ | exact stb_row _ _ _ | (refine List.forall_mem_cons.2 ⟨?_, ?_⟩) | (intro p hp; cases hp)))) ?_ ?_
  · refine steps_of ?_
    refine steps_cons ?_ ?_
    · refine step_on rfl rfl ?_
      intro ev w5 hS hc hf hold hval a K ha hK
      have e0 : ev (.tmp 0) = .pointer (some ⟨g, 0, none⟩) := hold 0 (by kernel_rfl)
      replace hS : Grow W w5 := ⟨hS.os, hS.tape, hS.output, hS.size, hS.block⟩
      go_simp
      exact hK _ _ (Below.refl _ _) rfl
    refine steps_cons ?_ ?_
    · refine step_on rfl rfl ?_
      intro ev w5 hS hc hf hold hval a K ha hK
      have e15 : ev (.tmp 15) = .pointer (some ⟨g, 0, none⟩) := hval 0 15 (by kernel_rfl) rfl
      replace hS : Grow W w5 := ⟨hS.os, hS.tape, hS.output, hS.size, hS.block⟩
      go_simp
      exact hK _ _ (Below.refl _ _) rfl
    refine steps_cons ?_ ?_
    · refine step_on rfl rfl ?_
      intro ev w5 hS hc hf hold hval a K ha hK
      have e16 : ev (.tmp 16) = .pointer (some ⟨g, 0, none⟩) := hval 1 16 (by kernel_rfl) rfl
      replace hS : Grow W w5 := ⟨hS.os, hS.tape, hS.output, hS.size, hS.block⟩
      go_simp
      exact hK _ _ (Below.refl _ _) rfl
    refine steps_cons ?_ ?_
    · refine step_on rfl rfl ?_
      intro ev w5 hS hc hf hold hval a K ha hK
      have e17 : ev (.tmp 17) = .pointer (some ⟨g, 0, none⟩) := hval 2 17 (by kernel_rfl) rfl
      replace hS : Grow W w5 := ⟨hS.os, hS.tape, hS.output, hS.size, hS.block⟩
      have c18 : w5.cell? ⟨g, 0, none⟩ = some (.pointer (some ⟨gp, 0, none⟩)) := ((F.mod.below hS F.mod.lt).cell 0).trans rfl
      go_simp
      exact hK _ _ (Below.refl _ _) rfl
    refine steps_cons ?_ ?_
    · refine step_on rfl rfl ?_
      intro ev w5 hS hc hf hold hval a K ha hK
      have e3 : ev (.tmp 3) = .pointer (some ⟨w.heap.size, 0, none⟩) := hold 3 (by kernel_rfl)
      replace hS : Grow W w5 := ⟨hS.os, hS.tape, hS.output, hS.size, hS.block⟩
      go_simp
      exact hK _ _ (Below.refl _ _) rfl
    refine steps_cons ?_ ?_
    · refine step_on rfl rfl ?_
      intro ev w5 hS hc hf hold hval a K ha hK
      have e19 : ev (.tmp 19) = .pointer (some ⟨w.heap.size, 1, none⟩) := hval 4 19 (by kernel_rfl) rfl
      replace hS : Grow W w5 := ⟨hS.os, hS.tape, hS.output, hS.size, hS.block⟩
      have c20 : w5.cell? ⟨w.heap.size, 1, none⟩ = some (.int .i64 p) := ((F.step.below hS F.step.lt).cell 1).trans rfl
      go_simp
      exact hK _ _ (Below.refl _ _) rfl
    refine steps_cons ?_ ?_
    · refine step_on rfl rfl ?_
      intro ev w5 hS hc hf hold hval a K ha hK
      have e18 : ev (.tmp 18) = .pointer (some ⟨gp, 0, none⟩) := hval 3 18 (by kernel_rfl) rfl
      have e20 : ev (.tmp 20) = .int .i64 p := hval 5 20 (by kernel_rfl) rfl
      replace hS : Grow W w5 := ⟨hS.os, hS.tape, hS.output, hS.size, hS.block⟩
      go_simp
      refine (has_any gp A n c p (0) w5 (((F.pl.below hS F.pl.lt).cell 0).trans rfl) (by omega) hpb (by omega)).mono ?_
      rintro e w8 ⟨rfl, rfl⟩
      exact hK _ _ (Below.refl _ _) (bool_eq hhas)
    refine steps_cons ?_ ?_
    · refine step_on rfl rfl ?_
      intro ev w5 hS hc hf hold hval a K ha hK
      have e21 : ev (.tmp 21) = .bool true := hval 6 21 (by kernel_rfl) rfl
      replace hS : Grow W w5 := ⟨hS.os, hS.tape, hS.output, hS.size, hS.block⟩
      go_simp
      exact hK _ _ (Below.refl _ _) rfl
    refine steps_cons ?_ ?_
    · refine step_on rfl rfl ?_
      intro ev w5 hS hc hf hold hval a K ha hK
      have e22 : ev (.tmp 22) = .bool false := hval 7 22 (by kernel_rfl) rfl
      replace hS : Grow W w5 := ⟨hS.os, hS.tape, hS.output, hS.size, hS.block⟩
      go_simp
      exact hK _ _ (Below.refl _ _) rfl
    exact steps_nil
  · intro ev w6 hS hval
    replace hS : Grow W w6 := ⟨hS.os, hS.tape, hS.output, hS.size, hS.block⟩
    have e14 : ev (.tmp 14) = .bool false := hval 8 14 rfl
    simp only [putsOf, List.foldl_cons, List.foldl_nil, Act.put, List.setIfInBounds_toArray, List.set_cons_zero, List.set_cons_succ]
    rw [e14]
    clear hval
    have F6 := F.grow hS
    clear F hS
    revert F6
    generalize w6 = W2
    intro F
    go_wp2
    refine wp_region_any (by kernel_rfl) ?_
    refine wpAny_loose2 [25, 26, 27, 28, 29, 30, 31, 32, 33, 34, 35, 36, 37, 38, 39, 40, 41, 24] Grow (Vs [is (.pointer (some ⟨w.heap.size, 3, none⟩)), is (.slice AD nd cd), is (.int .i64 (nd : Int)), is (.pointer (some ⟨g, 0, none⟩)), is (.pointer (some ⟨g, 0, none⟩)), is (.pointer (some ⟨g, 1, none⟩)), is (.int .i64 most), is (.pointer (some ⟨g, 0, none⟩)), is (.pointer (some ⟨g, 0, none⟩)), is (.pointer (some ⟨g, 0, none⟩)), is (.pointer (some ⟨gp, 0, none⟩)), is (.pointer (some ⟨gp, 0, none⟩)), is (.pointer (some ⟨gp, 0, none⟩)), is (.slice A n c), is (.int .i64 (n : Int)), is (.int .i64 (most - (n : Int))), is (.bool false), is (.bool false)]) _ _ rfl (by kernel_rfl) (Below.refl _ _) (fun _ _ => Grow.trans) (stb_all (by repeat' (first | exact stb_is _ | exact stb_row _ _ _ | (refine List.forall_mem_cons.2 ⟨?_, ?_⟩) | (intro p hp; cases hp)))) ?_ ?_
    · refine steps_of ?_
      refine steps_cons ?_ ?_
      · refine step_on rfl rfl ?_
        intro ev w5 hS hc hf hold hval a K ha hK
        have e3 : ev (.tmp 3) = .pointer (some ⟨w.heap.size, 0, none⟩) := hold 3 (by kernel_rfl)
        replace hS : Grow W2 w5 := ⟨hS.os, hS.tape, hS.output, hS.size, hS.block⟩
        go_simp
        exact hK _ _ (Below.refl _ _) rfl
      refine steps_cons ?_ ?_
      · refine step_on rfl rfl ?_
        intro ev w5 hS hc hf hold hval a K ha hK
        have e25 : ev (.tmp 25) = .pointer (some ⟨w.heap.size, 3, none⟩) := hval 0 25 (by kernel_rfl) rfl
        replace hS : Grow W2 w5 := ⟨hS.os, hS.tape, hS.output, hS.size, hS.block⟩
        have c26 : w5.cell? ⟨w.heap.size, 3, none⟩ = some (.slice AD nd cd) := ((F.step.below hS F.step.lt).cell 3).trans rfl
        go_simp
        exact hK _ _ (Below.refl _ _) rfl
      refine steps_cons ?_ ?_
      · refine step_on rfl rfl ?_
        intro ev w5 hS hc hf hold hval a K ha hK
        have e26 : ev (.tmp 26) = .slice AD nd cd := hval 1 26 (by kernel_rfl) rfl
        replace hS : Grow W2 w5 := ⟨hS.os, hS.tape, hS.output, hS.size, hS.block⟩
        go_simp
        exact hK _ _ (Below.refl _ _) rfl
      refine steps_cons ?_ ?_
      · refine step_on rfl rfl ?_
        intro ev w5 hS hc hf hold hval a K ha hK
        have e0 : ev (.tmp 0) = .pointer (some ⟨g, 0, none⟩) := hold 0 (by kernel_rfl)
        replace hS : Grow W2 w5 := ⟨hS.os, hS.tape, hS.output, hS.size, hS.block⟩
        go_simp
        exact hK _ _ (Below.refl _ _) rfl
      refine steps_cons ?_ ?_
      · refine step_on rfl rfl ?_
        intro ev w5 hS hc hf hold hval a K ha hK
        have e28 : ev (.tmp 28) = .pointer (some ⟨g, 0, none⟩) := hval 3 28 (by kernel_rfl) rfl
        replace hS : Grow W2 w5 := ⟨hS.os, hS.tape, hS.output, hS.size, hS.block⟩
        go_simp
        exact hK _ _ (Below.refl _ _) rfl
      refine steps_cons ?_ ?_
      · refine step_on rfl rfl ?_
        intro ev w5 hS hc hf hold hval a K ha hK
        have e29 : ev (.tmp 29) = .pointer (some ⟨g, 0, none⟩) := hval 4 29 (by kernel_rfl) rfl
        replace hS : Grow W2 w5 := ⟨hS.os, hS.tape, hS.output, hS.size, hS.block⟩
        go_simp
        exact hK _ _ (Below.refl _ _) rfl
      refine steps_cons ?_ ?_
      · refine step_on rfl rfl ?_
        intro ev w5 hS hc hf hold hval a K ha hK
        have e30 : ev (.tmp 30) = .pointer (some ⟨g, 1, none⟩) := hval 5 30 (by kernel_rfl) rfl
        replace hS : Grow W2 w5 := ⟨hS.os, hS.tape, hS.output, hS.size, hS.block⟩
        have c31 : w5.cell? ⟨g, 1, none⟩ = some (.int .i64 most) := ((F.mod.below hS F.mod.lt).cell 1).trans rfl
        go_simp
        exact hK _ _ (Below.refl _ _) rfl
      refine steps_cons ?_ ?_
      · refine step_on rfl rfl ?_
        intro ev w5 hS hc hf hold hval a K ha hK
        have e0 : ev (.tmp 0) = .pointer (some ⟨g, 0, none⟩) := hold 0 (by kernel_rfl)
        replace hS : Grow W2 w5 := ⟨hS.os, hS.tape, hS.output, hS.size, hS.block⟩
        go_simp
        exact hK _ _ (Below.refl _ _) rfl
      refine steps_cons ?_ ?_
      · refine step_on rfl rfl ?_
        intro ev w5 hS hc hf hold hval a K ha hK
        have e32 : ev (.tmp 32) = .pointer (some ⟨g, 0, none⟩) := hval 7 32 (by kernel_rfl) rfl
        replace hS : Grow W2 w5 := ⟨hS.os, hS.tape, hS.output, hS.size, hS.block⟩
        go_simp
        exact hK _ _ (Below.refl _ _) rfl
      refine steps_cons ?_ ?_
      · refine step_on rfl rfl ?_
        intro ev w5 hS hc hf hold hval a K ha hK
        have e33 : ev (.tmp 33) = .pointer (some ⟨g, 0, none⟩) := hval 8 33 (by kernel_rfl) rfl
        replace hS : Grow W2 w5 := ⟨hS.os, hS.tape, hS.output, hS.size, hS.block⟩
        go_simp
        exact hK _ _ (Below.refl _ _) rfl
      refine steps_cons ?_ ?_
      · refine step_on rfl rfl ?_
        intro ev w5 hS hc hf hold hval a K ha hK
        have e34 : ev (.tmp 34) = .pointer (some ⟨g, 0, none⟩) := hval 9 34 (by kernel_rfl) rfl
        replace hS : Grow W2 w5 := ⟨hS.os, hS.tape, hS.output, hS.size, hS.block⟩
        have c35 : w5.cell? ⟨g, 0, none⟩ = some (.pointer (some ⟨gp, 0, none⟩)) := ((F.mod.below hS F.mod.lt).cell 0).trans rfl
        go_simp
        exact hK _ _ (Below.refl _ _) rfl
      refine steps_cons ?_ ?_
      · refine step_on rfl rfl ?_
        intro ev w5 hS hc hf hold hval a K ha hK
        have e35 : ev (.tmp 35) = .pointer (some ⟨gp, 0, none⟩) := hval 10 35 (by kernel_rfl) rfl
        replace hS : Grow W2 w5 := ⟨hS.os, hS.tape, hS.output, hS.size, hS.block⟩
        go_simp
        exact hK _ _ (Below.refl _ _) rfl
      refine steps_cons ?_ ?_
      · refine step_on rfl rfl ?_
        intro ev w5 hS hc hf hold hval a K ha hK
        have e36 : ev (.tmp 36) = .pointer (some ⟨gp, 0, none⟩) := hval 11 36 (by kernel_rfl) rfl
        replace hS : Grow W2 w5 := ⟨hS.os, hS.tape, hS.output, hS.size, hS.block⟩
        go_simp
        exact hK _ _ (Below.refl _ _) rfl
      refine steps_cons ?_ ?_
      · refine step_on rfl rfl ?_
        intro ev w5 hS hc hf hold hval a K ha hK
        have e37 : ev (.tmp 37) = .pointer (some ⟨gp, 0, none⟩) := hval 12 37 (by kernel_rfl) rfl
        replace hS : Grow W2 w5 := ⟨hS.os, hS.tape, hS.output, hS.size, hS.block⟩
        have c38 : w5.cell? ⟨gp, 0, none⟩ = some (.slice A n c) := ((F.pl.below hS F.pl.lt).cell 0).trans rfl
        go_simp
        exact hK _ _ (Below.refl _ _) rfl
      refine steps_cons ?_ ?_
      · refine step_on rfl rfl ?_
        intro ev w5 hS hc hf hold hval a K ha hK
        have e38 : ev (.tmp 38) = .slice A n c := hval 13 38 (by kernel_rfl) rfl
        replace hS : Grow W2 w5 := ⟨hS.os, hS.tape, hS.output, hS.size, hS.block⟩
        go_simp
        exact hK _ _ (Below.refl _ _) rfl
      refine steps_cons ?_ ?_
      · refine step_on rfl rfl ?_
        intro ev w5 hS hc hf hold hval a K ha hK
        have e31 : ev (.tmp 31) = .int .i64 most := hval 6 31 (by kernel_rfl) rfl
        have e39 : ev (.tmp 39) = .int .i64 (n : Int) := hval 14 39 (by kernel_rfl) rfl
        replace hS : Grow W2 w5 := ⟨hS.os, hS.tape, hS.output, hS.size, hS.block⟩
        go_simp
        exact hK _ _ (Below.refl _ _) (i64_eq (by rw [IntKind.wrap_i64]; omega))
      refine steps_cons ?_ ?_
      · refine step_on rfl rfl ?_
        intro ev w5 hS hc hf hold hval a K ha hK
        have e27 : ev (.tmp 27) = .int .i64 (nd : Int) := hval 2 27 (by kernel_rfl) rfl
        have e40 : ev (.tmp 40) = .int .i64 (most - (n : Int)) := hval 15 40 (by kernel_rfl) rfl
        replace hS : Grow W2 w5 := ⟨hS.os, hS.tape, hS.output, hS.size, hS.block⟩
        go_simp
        exact hK _ _ (Below.refl _ _) (bool_eq (by simp <;> omega))
      refine steps_cons ?_ ?_
      · refine step_on rfl rfl ?_
        intro ev w5 hS hc hf hold hval a K ha hK
        have e41 : ev (.tmp 41) = .bool false := hval 16 41 (by kernel_rfl) rfl
        replace hS : Grow W2 w5 := ⟨hS.os, hS.tape, hS.output, hS.size, hS.block⟩
        go_simp
        exact hK _ _ (Below.refl _ _) rfl
      exact steps_nil
    · intro ev w6 hS hval
      replace hS : Grow W2 w6 := ⟨hS.os, hS.tape, hS.output, hS.size, hS.block⟩
      have e24 : ev (.tmp 24) = .bool false := hval 17 24 rfl
      simp only [putsOf, List.foldl_cons, List.foldl_nil, Act.put, List.setIfInBounds_toArray, List.set_cons_zero, List.set_cons_succ]
      rw [e24]
      clear hval
      have F6 := F.grow hS
      clear F hS
      revert F6
      generalize w6 = W3
      intro F
      go_wp2
      refine wp_region_any (by kernel_rfl) ?_
      refine wpAny_keep [43, 44, 45, 46, 47, 48, 49, 50, 51] (fun b => b = gp) 8 [8] (fun w1 => Bk w1 gp 50 #[.slice A n c]) (splV gp (w.heap.size + 2) N T2) [is (.pointer (some ⟨g, 0, none⟩)), is (.pointer (some ⟨g, 0, none⟩)), is (.pointer (some ⟨g, 0, none⟩)), is (.pointer (some ⟨gp, 0, none⟩)), is (.pointer (some ⟨w.heap.size, 1, none⟩)), is (.int .i64 (p : Int)), is (.pointer (some ⟨w.heap.size, 3, none⟩)), is (.slice AD nd cd), anyV] _ _ rfl (by kernel_rfl) (by kernel_rfl) (F.pl) (fun w1 w2 h _ hg => Bk.below h hg h.lt) (splV_stb _ _ _ _) (by repeat' (first | exact stbk_is _ _ | exact stbk_any _ | (refine List.forall_mem_cons.2 ⟨?_, ?_⟩) | (intro p hp; cases hp))) ?_ ?_
      · refine steps_of ?_
        refine steps_cons ?_ ?_
        · refine step_on3 rfl rfl ?_
          intro ev w5 hS hU hc hf hold hval a K ha hK
          replace hS : Keep (fun b => b = gp) W3 w5 := ⟨hS.os, hS.tape, hS.output, hS.size, hS.block⟩
          clear hU
          have e0 : ev (.tmp 0) = .pointer (some ⟨g, 0, none⟩) := hold 0 (by kernel_rfl)
          go_simp
          exact hK _ _ (kstep_grow (Below.refl _ _)) rfl
        refine steps_cons ?_ ?_
        · refine step_on3 rfl rfl ?_
          intro ev w5 hS hU hc hf hold hval a K ha hK
          replace hS : Keep (fun b => b = gp) W3 w5 := ⟨hS.os, hS.tape, hS.output, hS.size, hS.block⟩
          clear hU
          have e43 : ev (.tmp 43) = .pointer (some ⟨g, 0, none⟩) := hval 0 43 (by kernel_rfl) rfl
          go_simp
          exact hK _ _ (kstep_grow (Below.refl _ _)) rfl
        refine steps_cons ?_ ?_
        · refine step_on3 rfl rfl ?_
          intro ev w5 hS hU hc hf hold hval a K ha hK
          replace hS : Keep (fun b => b = gp) W3 w5 := ⟨hS.os, hS.tape, hS.output, hS.size, hS.block⟩
          clear hU
          have e44 : ev (.tmp 44) = .pointer (some ⟨g, 0, none⟩) := hval 1 44 (by kernel_rfl) rfl
          go_simp
          exact hK _ _ (kstep_grow (Below.refl _ _)) rfl
        refine steps_cons ?_ ?_
        · refine step_on3 rfl rfl ?_
          intro ev w5 hS hU hc hf hold hval a K ha hK
          replace hS : Keep (fun b => b = gp) W3 w5 := ⟨hS.os, hS.tape, hS.output, hS.size, hS.block⟩
          clear hU
          have e45 : ev (.tmp 45) = .pointer (some ⟨g, 0, none⟩) := hval 2 45 (by kernel_rfl) rfl
          have c46 : w5.cell? ⟨g, 0, none⟩ = some (.pointer (some ⟨gp, 0, none⟩)) := ((hS.bk F.mod (fun h => F.gne h)).cell 0).trans rfl
          go_simp
          exact hK _ _ (kstep_grow (Below.refl _ _)) rfl
        refine steps_cons ?_ ?_
        · refine step_on3 rfl rfl ?_
          intro ev w5 hS hU hc hf hold hval a K ha hK
          replace hS : Keep (fun b => b = gp) W3 w5 := ⟨hS.os, hS.tape, hS.output, hS.size, hS.block⟩
          clear hU
          have e3 : ev (.tmp 3) = .pointer (some ⟨w.heap.size, 0, none⟩) := hold 3 (by kernel_rfl)
          go_simp
          exact hK _ _ (kstep_grow (Below.refl _ _)) rfl
        refine steps_cons ?_ ?_
        · refine step_on3 rfl rfl ?_
          intro ev w5 hS hU hc hf hold hval a K ha hK
          replace hS : Keep (fun b => b = gp) W3 w5 := ⟨hS.os, hS.tape, hS.output, hS.size, hS.block⟩
          clear hU
          have e47 : ev (.tmp 47) = .pointer (some ⟨w.heap.size, 1, none⟩) := hval 4 47 (by kernel_rfl) rfl
          have c48 : w5.cell? ⟨w.heap.size, 1, none⟩ = some (.int .i64 (p : Int)) := ((hS.bk F.step (fun h => absurd (show w.heap.size = gp from h) (by have := F.gpl; omega))).cell 1).trans rfl
          go_simp
          exact hK _ _ (kstep_grow (Below.refl _ _)) rfl
        refine steps_cons ?_ ?_
        · refine step_on3 rfl rfl ?_
          intro ev w5 hS hU hc hf hold hval a K ha hK
          replace hS : Keep (fun b => b = gp) W3 w5 := ⟨hS.os, hS.tape, hS.output, hS.size, hS.block⟩
          clear hU
          have e3 : ev (.tmp 3) = .pointer (some ⟨w.heap.size, 0, none⟩) := hold 3 (by kernel_rfl)
          go_simp
          exact hK _ _ (kstep_grow (Below.refl _ _)) rfl
        refine steps_cons ?_ ?_
        · refine step_on3 rfl rfl ?_
          intro ev w5 hS hU hc hf hold hval a K ha hK
          replace hS : Keep (fun b => b = gp) W3 w5 := ⟨hS.os, hS.tape, hS.output, hS.size, hS.block⟩
          clear hU
          have e49 : ev (.tmp 49) = .pointer (some ⟨w.heap.size, 3, none⟩) := hval 6 49 (by kernel_rfl) rfl
          have c50 : w5.cell? ⟨w.heap.size, 3, none⟩ = some (.slice AD nd cd) := ((hS.bk F.step (fun h => absurd (show w.heap.size = gp from h) (by have := F.gpl; omega))).cell 3).trans rfl
          go_simp
          exact hK _ _ (kstep_grow (Below.refl _ _)) rfl
        refine steps_cons ?_ ?_
        · refine step_on3 rfl rfl ?_
          intro ev w5 hS hU hc hf hold hval a K ha hK
          replace hS : Keep (fun b => b = gp) W3 w5 := ⟨hS.os, hS.tape, hS.output, hS.size, hS.block⟩
          have hpre := hU rfl
          clear hU
          have e46 : ev (.tmp 46) = .pointer (some ⟨gp, 0, none⟩) := hval 3 46 (by kernel_rfl) rfl
          have e48 : ev (.tmp 48) = .int .i64 (p : Int) := hval 5 48 (by kernel_rfl) rfl
          have e50 : ev (.tmp 50) = .slice AD nd cd := hval 7 50 (by kernel_rfl) rfl
          go_simp
          have hr5 := Rd.keepF F.rT hS F.low.size Hne.out
          have hd5 := Rd.keepF F.rD hS F.low.size Hdne.out
          refine (splice_any gp A AD n c nd cd p 0 N w5.heap.size T D T2 w5 hpre hr5 Hne.out hnc hd5 (Nat.le_refl _) Hdne.out q hq hqn HT2.out HN.out (by omega) hN2).mono ?_
          rintro e w8 ⟨rfl, hk8, A9, c9, hb9, hm9⟩
          exact hK _ _ (kstep_keep hk8) ⟨rfl, A9, c9, hb9, hm9.mono (by have := hS.size; have := F.res.lt; omega)⟩
        exact steps_nil
      · intro ev w6 hS hval hall
        replace hS : Keep (fun b => b = gp) W3 w6 := ⟨hS.os, hS.tape, hS.output, hS.size, hS.block⟩
        obtain ⟨vJ, pJ⟩ : ∃ v, (splV gp (w.heap.size + 2) N T2) v w6 := hall 8 (by decide)
        simp only [putsOf, List.foldl_cons, List.foldl_nil, Act.put, List.setIfInBounds_toArray, List.set_cons_zero, List.set_cons_succ]
        clear hval hall
        obtain ⟨rfl, A9, c9, hb9, hm9⟩ := pJ
        have hgs := F.gpl
        have hres := hS.bk F.res (fun h => absurd (show w.heap.size + 1 = gp from h) (by omega))
        have r0 : w6.cell? ⟨w.heap.size + 1, 0, none⟩ = some (.int .i64 0) := (hres.cell 0).trans rfl
        have f0 := hres.frozen 0
        have r1 : w6.cell? ⟨w.heap.size + 1, 1, none⟩ = some (.int .i64 0) := (hres.cell 1).trans rfl
        have f1 := hres.frozen 1
        have r2 : w6.cell? ⟨w.heap.size + 1, 2, none⟩ = some (.slice none 0 0) := (hres.cell 2).trans rfl
        have f2 := hres.frozen 2
        have r3 : w6.cell? ⟨w.heap.size + 1, 3, none⟩ = some (.slice none 0 0) := (hres.cell 3).trans rfl
        have f3 := hres.frozen 3
        go_wp2
        have hbl := keep_set (v0 := .int .i64 0) (v1 := .int .i64 0) (v2 := .slice none 0 0) (v3 := .slice none 0 0) (Nat.le_succ w.heap.size) ((Keep.of_below F.low).trans hS)
        have hset := at_set (W := w6) (s := w.heap.size + 1) (v0 := .int .i64 0) (v1 := .int .i64 0) (v2 := .slice none 0 0) (v3 := .slice none 0 0)
        exact do_ret (s := w.heap.size + 1) (A1 := none) (c1 := 0) (A2 := none) (c2 := 0) (.inl rfl) rfl (res_set hres) hbl (made_nil _ _ _) (made_nil _ _ _) (pls_made (hset.bk hb9 (fun h => absurd (show gp = w.heap.size + 1 from h) (by omega))) (hm9.keepF hset (fun b hb => by subst hb; omega)) HN.out (by omega))
set_option maxRecDepth 100000 in
set_option maxHeartbeats 4000000 in
theorem Do_del_ok (g gp : Nat) (AD : Option Addr) (nd cd B : Nat) (p k : Nat) (most : Int) (T D : List UInt8) (w : World) (hg : Bk w g 52 #[.pointer (some ⟨gp, 0, none⟩), .int .i64 most]) (hp : PlS w gp T)
    (hd : Rd w B 1 AD nd (D.map bv)) (hB : B ≤ w.heap.size) (hdne : 0 < nd → ∀ a, AD = some a → a.block ≠ gp) (hgne : g ≠ gp) (hT : T.length ≤ 549755813888) (hD : nd ≤ 549755813888) (hpb : -9223372036854775808 ≤ (p : Int) ∧ (p : Int) ≤ 9223372036854775807) (hkb : -9223372036854775808 ≤ (k : Int) ∧ (k : Int) ≤ 9223372036854775807) (hmb : 0 ≤ most ∧ most ≤ 2147483648)
    (hhas : hasB T.length p k = true) :
    Calls Tryz.prog 19 #[.pointer (some ⟨g, 0, none⟩), stepV 2 p k AD nd cd] w fun e w' => DoTold gp (T.take p ++ ([] ++ T.drop (p + k))) ⟨0, 0, [], []⟩ w w' e := by
  have Hp := Lib.hid hp
  obtain ⟨A, c, hb, hr, hnc, hne⟩ := hp
  obtain ⟨n, hn⟩ : ∃ n, T.length = n := ⟨_, rfl⟩
  rw [hn] at hb hr hnc hT hne
  rw [hn] at hhas
  have hDl : D.length = nd := by simpa using hd.1
  have F := do_start (kind := 2) (p := p) (k := k) (cd := cd) hg hb hr hd hB hgne
  have HF := Lib.hid F
  have Hn := Lib.hid hn
  have Hne := Lib.hid hne
  have Hdne := Lib.hid hdne
  clear hb hr hd hg F hn hne hdne
  obtain ⟨q, hq⟩ : ∃ q, p + k = q := ⟨_, rfl⟩
  rw [hq]
  obtain ⟨T2, hT2⟩ : ∃ T2, T.take p ++ ([] ++ T.drop q) = T2 := ⟨_, rfl⟩
  rw [hT2]
  obtain ⟨N, hN⟩ : ∃ N, T2.length = N := ⟨_, rfl⟩
  have hqn : q ≤ n := by
    unfold hasB at hhas
    have := of_decide_eq_true hhas
    omega
  have hN2 : N ≤ 1099511627776 := by
    rw [← hN, ← hT2]
    have := Hn.out
    simp only [List.length_append, List.length_take, List.length_drop, List.length_nil]
    omega
  have HT2 := Lib.hid hT2
  have HN := Lib.hid hN
  clear hT2 hN
  unfold stepV
  go_enter Tryz.func19, Tryz.ntmps19
  go_wp2
  obtain ⟨W, hW⟩ : ∃ W, (w.alloc (.cells #[.int .i64 2, .int .i64 p, .int .i64 k, .slice AD nd cd] 29)).alloc (.cells #[.int .i64 0, .int .i64 0, .slice none 0 0, .slice none 0 0] 41) = W := ⟨_, rfl⟩
  rw [hW] at HF ⊢
  have F := HF.out
  clear hW HF
  refine wp_region_any (by kernel_rfl) ?_
  refine wpAny_loose2 [55, 56, 57, 58, 59, 60, 61, 62, 63, 64] Grow (Vs [is (.pointer (some ⟨g, 0, none⟩)), is (.pointer (some ⟨g, 0, none⟩)), is (.pointer (some ⟨g, 0, none⟩)), is (.pointer (some ⟨gp, 0, none⟩)), is (.pointer (some ⟨w.heap.size, 1, none⟩)), is (.int .i64 p), is (.pointer (some ⟨w.heap.size, 2, none⟩)), is (.int .i64 k), is (.bool true), is (.bool false)]) _ _ rfl (by kernel_rfl) (Below.refl _ _) (fun _ _ => Grow.trans) (stb_all (by repeat' (first | exact stb_is _ | exact stb_row _ _ _ | (refine List.forall_mem_cons.2 ⟨?_, ?_⟩) | (intro p hp; cases hp)))) ?_ ?_
  · refine steps_of ?_
    refine steps_cons ?_ ?_
    · refine step_on rfl rfl ?_
      intro ev w5 hS hc hf hold hval a K ha hK
      have e0 : ev (.tmp 0) = .pointer (some ⟨g, 0, none⟩) := hold 0 (by kernel_rfl)
      replace hS : Grow W w5 := ⟨hS.os, hS.tape, hS.output, hS.size, hS.block⟩
      go_simp
      exact hK _ _ (Below.refl _ _) rfl
    refine steps_cons ?_ ?_
    · refine step_on rfl rfl ?_
      intro ev w5 hS hc hf hold hval a K ha hK
      have e55 : ev (.tmp 55) = .pointer (some ⟨g, 0, none⟩) := hval 0 55 (by kernel_rfl) rfl
      replace hS : Grow W w5 := ⟨hS.os, hS.tape, hS.output, hS.size, hS.block⟩
      go_simp
      exact hK _ _ (Below.refl _ _) rfl
    refine steps_cons ?_ ?_
    · refine step_on rfl rfl ?_
      intro ev w5 hS hc hf hold hval a K ha hK
      have e56 : ev (.tmp 56) = .pointer (some ⟨g, 0, none⟩) := hval 1 56 (by kernel_rfl) rfl
      replace hS : Grow W w5 := ⟨hS.os, hS.tape, hS.output, hS.size, hS.block⟩
      go_simp
      exact hK _ _ (Below.refl _ _) rfl
    refine steps_cons ?_ ?_
    · refine step_on rfl rfl ?_
      intro ev w5 hS hc hf hold hval a K ha hK
      have e57 : ev (.tmp 57) = .pointer (some ⟨g, 0, none⟩) := hval 2 57 (by kernel_rfl) rfl
      replace hS : Grow W w5 := ⟨hS.os, hS.tape, hS.output, hS.size, hS.block⟩
      have c58 : w5.cell? ⟨g, 0, none⟩ = some (.pointer (some ⟨gp, 0, none⟩)) := ((F.mod.below hS F.mod.lt).cell 0).trans rfl
      go_simp
      exact hK _ _ (Below.refl _ _) rfl
    refine steps_cons ?_ ?_
    · refine step_on rfl rfl ?_
      intro ev w5 hS hc hf hold hval a K ha hK
      have e3 : ev (.tmp 3) = .pointer (some ⟨w.heap.size, 0, none⟩) := hold 3 (by kernel_rfl)
      replace hS : Grow W w5 := ⟨hS.os, hS.tape, hS.output, hS.size, hS.block⟩
      go_simp
      exact hK _ _ (Below.refl _ _) rfl
    refine steps_cons ?_ ?_
    · refine step_on rfl rfl ?_
      intro ev w5 hS hc hf hold hval a K ha hK
      have e59 : ev (.tmp 59) = .pointer (some ⟨w.heap.size, 1, none⟩) := hval 4 59 (by kernel_rfl) rfl
      replace hS : Grow W w5 := ⟨hS.os, hS.tape, hS.output, hS.size, hS.block⟩
      have c60 : w5.cell? ⟨w.heap.size, 1, none⟩ = some (.int .i64 p) := ((F.step.below hS F.step.lt).cell 1).trans rfl
      go_simp
      exact hK _ _ (Below.refl _ _) rfl
    refine steps_cons ?_ ?_
    · refine step_on rfl rfl ?_
      intro ev w5 hS hc hf hold hval a K ha hK
      have e3 : ev (.tmp 3) = .pointer (some ⟨w.heap.size, 0, none⟩) := hold 3 (by kernel_rfl)
      replace hS : Grow W w5 := ⟨hS.os, hS.tape, hS.output, hS.size, hS.block⟩
      go_simp
      exact hK _ _ (Below.refl _ _) rfl
    refine steps_cons ?_ ?_
    · refine step_on rfl rfl ?_
      intro ev w5 hS hc hf hold hval a K ha hK
      have e61 : ev (.tmp 61) = .pointer (some ⟨w.heap.size, 2, none⟩) := hval 6 61 (by kernel_rfl) rfl
      replace hS : Grow W w5 := ⟨hS.os, hS.tape, hS.output, hS.size, hS.block⟩
      have c62 : w5.cell? ⟨w.heap.size, 2, none⟩ = some (.int .i64 k) := ((F.step.below hS F.step.lt).cell 2).trans rfl
      go_simp
      exact hK _ _ (Below.refl _ _) rfl
    refine steps_cons ?_ ?_
    · refine step_on rfl rfl ?_
      intro ev w5 hS hc hf hold hval a K ha hK
      have e58 : ev (.tmp 58) = .pointer (some ⟨gp, 0, none⟩) := hval 3 58 (by kernel_rfl) rfl
      have e60 : ev (.tmp 60) = .int .i64 p := hval 5 60 (by kernel_rfl) rfl
      have e62 : ev (.tmp 62) = .int .i64 k := hval 7 62 (by kernel_rfl) rfl
      replace hS : Grow W w5 := ⟨hS.os, hS.tape, hS.output, hS.size, hS.block⟩
      go_simp
      refine (has_any gp A n c p (k) w5 (((F.pl.below hS F.pl.lt).cell 0).trans rfl) (by omega) hpb hkb).mono ?_
      rintro e w8 ⟨rfl, rfl⟩
      exact hK _ _ (Below.refl _ _) (bool_eq hhas)
    refine steps_cons ?_ ?_
    · refine step_on rfl rfl ?_
      intro ev w5 hS hc hf hold hval a K ha hK
      have e63 : ev (.tmp 63) = .bool true := hval 8 63 (by kernel_rfl) rfl
      replace hS : Grow W w5 := ⟨hS.os, hS.tape, hS.output, hS.size, hS.block⟩
      go_simp
      exact hK _ _ (Below.refl _ _) rfl
    exact steps_nil
  · intro ev w6 hS hval
    replace hS : Grow W w6 := ⟨hS.os, hS.tape, hS.output, hS.size, hS.block⟩
    have e64 : ev (.tmp 64) = .bool false := hval 9 64 rfl
    simp only [putsOf, List.foldl_cons, List.foldl_nil, Act.put, List.setIfInBounds_toArray, List.set_cons_zero, List.set_cons_succ]
    rw [e64]
    clear hval
    have F6 := F.grow hS
    clear F hS
    revert F6
    generalize w6 = W2
    intro F
    have c66 : W2.cell? ⟨w.heap.size, 0, none⟩ = some (.int .i64 2) := (F.step.cell 0).trans rfl
    go_wp2
    refine wp_region_any (by kernel_rfl) ?_
    refine wpAny_keep [86, 87, 88, 89, 90, 91, 92, 93, 94] (fun b => b = gp) 8 [8] (fun w1 => Bk w1 gp 50 #[.slice A n c]) (splV gp (w.heap.size + 2) N T2) [is (.pointer (some ⟨g, 0, none⟩)), is (.pointer (some ⟨g, 0, none⟩)), is (.pointer (some ⟨g, 0, none⟩)), is (.pointer (some ⟨gp, 0, none⟩)), is (.pointer (some ⟨w.heap.size, 1, none⟩)), is (.int .i64 (p : Int)), is (.pointer (some ⟨w.heap.size, 2, none⟩)), is (.int .i64 (k : Int)), anyV] _ _ rfl (by kernel_rfl) (by kernel_rfl) (F.pl) (fun w1 w2 h _ hg => Bk.below h hg h.lt) (splV_stb _ _ _ _) (by repeat' (first | exact stbk_is _ _ | exact stbk_any _ | (refine List.forall_mem_cons.2 ⟨?_, ?_⟩) | (intro p hp; cases hp))) ?_ ?_
    · refine steps_of ?_
      refine steps_cons ?_ ?_
      · refine step_on3 rfl rfl ?_
        intro ev w5 hS hU hc hf hold hval a K ha hK
        replace hS : Keep (fun b => b = gp) W2 w5 := ⟨hS.os, hS.tape, hS.output, hS.size, hS.block⟩
        clear hU
        have e0 : ev (.tmp 0) = .pointer (some ⟨g, 0, none⟩) := hold 0 (by kernel_rfl)
        go_simp
        exact hK _ _ (kstep_grow (Below.refl _ _)) rfl
      refine steps_cons ?_ ?_
      · refine step_on3 rfl rfl ?_
        intro ev w5 hS hU hc hf hold hval a K ha hK
        replace hS : Keep (fun b => b = gp) W2 w5 := ⟨hS.os, hS.tape, hS.output, hS.size, hS.block⟩
        clear hU
        have e86 : ev (.tmp 86) = .pointer (some ⟨g, 0, none⟩) := hval 0 86 (by kernel_rfl) rfl
        go_simp
        exact hK _ _ (kstep_grow (Below.refl _ _)) rfl
      refine steps_cons ?_ ?_
      · refine step_on3 rfl rfl ?_
        intro ev w5 hS hU hc hf hold hval a K ha hK
        replace hS : Keep (fun b => b = gp) W2 w5 := ⟨hS.os, hS.tape, hS.output, hS.size, hS.block⟩
        clear hU
        have e87 : ev (.tmp 87) = .pointer (some ⟨g, 0, none⟩) := hval 1 87 (by kernel_rfl) rfl
        go_simp
        exact hK _ _ (kstep_grow (Below.refl _ _)) rfl
      refine steps_cons ?_ ?_
      · refine step_on3 rfl rfl ?_
        intro ev w5 hS hU hc hf hold hval a K ha hK
        replace hS : Keep (fun b => b = gp) W2 w5 := ⟨hS.os, hS.tape, hS.output, hS.size, hS.block⟩
        clear hU
        have e88 : ev (.tmp 88) = .pointer (some ⟨g, 0, none⟩) := hval 2 88 (by kernel_rfl) rfl
        have c89 : w5.cell? ⟨g, 0, none⟩ = some (.pointer (some ⟨gp, 0, none⟩)) := ((hS.bk F.mod (fun h => F.gne h)).cell 0).trans rfl
        go_simp
        exact hK _ _ (kstep_grow (Below.refl _ _)) rfl
      refine steps_cons ?_ ?_
      · refine step_on3 rfl rfl ?_
        intro ev w5 hS hU hc hf hold hval a K ha hK
        replace hS : Keep (fun b => b = gp) W2 w5 := ⟨hS.os, hS.tape, hS.output, hS.size, hS.block⟩
        clear hU
        have e3 : ev (.tmp 3) = .pointer (some ⟨w.heap.size, 0, none⟩) := hold 3 (by kernel_rfl)
        go_simp
        exact hK _ _ (kstep_grow (Below.refl _ _)) rfl
      refine steps_cons ?_ ?_
      · refine step_on3 rfl rfl ?_
        intro ev w5 hS hU hc hf hold hval a K ha hK
        replace hS : Keep (fun b => b = gp) W2 w5 := ⟨hS.os, hS.tape, hS.output, hS.size, hS.block⟩
        clear hU
        have e90 : ev (.tmp 90) = .pointer (some ⟨w.heap.size, 1, none⟩) := hval 4 90 (by kernel_rfl) rfl
        have c91 : w5.cell? ⟨w.heap.size, 1, none⟩ = some (.int .i64 (p : Int)) := ((hS.bk F.step (fun h => absurd (show w.heap.size = gp from h) (by have := F.gpl; omega))).cell 1).trans rfl
        go_simp
        exact hK _ _ (kstep_grow (Below.refl _ _)) rfl
      refine steps_cons ?_ ?_
      · refine step_on3 rfl rfl ?_
        intro ev w5 hS hU hc hf hold hval a K ha hK
        replace hS : Keep (fun b => b = gp) W2 w5 := ⟨hS.os, hS.tape, hS.output, hS.size, hS.block⟩
        clear hU
        have e3 : ev (.tmp 3) = .pointer (some ⟨w.heap.size, 0, none⟩) := hold 3 (by kernel_rfl)
        go_simp
        exact hK _ _ (kstep_grow (Below.refl _ _)) rfl
      refine steps_cons ?_ ?_
      · refine step_on3 rfl rfl ?_
        intro ev w5 hS hU hc hf hold hval a K ha hK
        replace hS : Keep (fun b => b = gp) W2 w5 := ⟨hS.os, hS.tape, hS.output, hS.size, hS.block⟩
        clear hU
        have e92 : ev (.tmp 92) = .pointer (some ⟨w.heap.size, 2, none⟩) := hval 6 92 (by kernel_rfl) rfl
        have c93 : w5.cell? ⟨w.heap.size, 2, none⟩ = some (.int .i64 (k : Int)) := ((hS.bk F.step (fun h => absurd (show w.heap.size = gp from h) (by have := F.gpl; omega))).cell 2).trans rfl
        go_simp
        exact hK _ _ (kstep_grow (Below.refl _ _)) rfl
      refine steps_cons ?_ ?_
      · refine step_on3 rfl rfl ?_
        intro ev w5 hS hU hc hf hold hval a K ha hK
        replace hS : Keep (fun b => b = gp) W2 w5 := ⟨hS.os, hS.tape, hS.output, hS.size, hS.block⟩
        have hpre := hU rfl
        clear hU
        have e89 : ev (.tmp 89) = .pointer (some ⟨gp, 0, none⟩) := hval 3 89 (by kernel_rfl) rfl
        have e91 : ev (.tmp 91) = .int .i64 (p : Int) := hval 5 91 (by kernel_rfl) rfl
        have e93 : ev (.tmp 93) = .int .i64 (k : Int) := hval 7 93 (by kernel_rfl) rfl
        go_simp
        have hr5 := Rd.keepF F.rT hS F.low.size Hne.out
        have hd5 := Rd.keepF F.rD hS F.low.size Hdne.out
        refine (splice_any gp A none n c 0 0 p k N w5.heap.size T [] T2 w5 hpre hr5 Hne.out hnc (Rd.nil _ _ _ _) (Nat.le_refl _) (fun _ a ha => by cases ha) q hq hqn HT2.out HN.out (by omega) hN2).mono ?_
        rintro e w8 ⟨rfl, hk8, A9, c9, hb9, hm9⟩
        exact hK _ _ (kstep_keep hk8) ⟨rfl, A9, c9, hb9, hm9.mono (by have := hS.size; have := F.res.lt; omega)⟩
      exact steps_nil
    · intro ev w6 hS hval hall
      replace hS : Keep (fun b => b = gp) W2 w6 := ⟨hS.os, hS.tape, hS.output, hS.size, hS.block⟩
      obtain ⟨vJ, pJ⟩ : ∃ v, (splV gp (w.heap.size + 2) N T2) v w6 := hall 8 (by decide)
      simp only [putsOf, List.foldl_cons, List.foldl_nil, Act.put, List.setIfInBounds_toArray, List.set_cons_zero, List.set_cons_succ]
      clear hval hall
      obtain ⟨rfl, A9, c9, hb9, hm9⟩ := pJ
      have hgs := F.gpl
      have hres := hS.bk F.res (fun h => absurd (show w.heap.size + 1 = gp from h) (by omega))
      have r0 : w6.cell? ⟨w.heap.size + 1, 0, none⟩ = some (.int .i64 0) := (hres.cell 0).trans rfl
      have f0 := hres.frozen 0
      have r1 : w6.cell? ⟨w.heap.size + 1, 1, none⟩ = some (.int .i64 0) := (hres.cell 1).trans rfl
      have f1 := hres.frozen 1
      have r2 : w6.cell? ⟨w.heap.size + 1, 2, none⟩ = some (.slice none 0 0) := (hres.cell 2).trans rfl
      have f2 := hres.frozen 2
      have r3 : w6.cell? ⟨w.heap.size + 1, 3, none⟩ = some (.slice none 0 0) := (hres.cell 3).trans rfl
      have f3 := hres.frozen 3
      go_wp2
      have hbl := keep_set (v0 := .int .i64 0) (v1 := .int .i64 0) (v2 := .slice none 0 0) (v3 := .slice none 0 0) (Nat.le_succ w.heap.size) ((Keep.of_below F.low).trans hS)
      have hset := at_set (W := w6) (s := w.heap.size + 1) (v0 := .int .i64 0) (v1 := .int .i64 0) (v2 := .slice none 0 0) (v3 := .slice none 0 0)
      exact do_ret (s := w.heap.size + 1) (A1 := none) (c1 := 0) (A2 := none) (c2 := 0) (.inl rfl) rfl (res_set hres) hbl (made_nil _ _ _) (made_nil _ _ _) (pls_made (hset.bk hb9 (fun h => absurd (show gp = w.heap.size + 1 from h) (by omega))) (hm9.keepF hset (fun b hb => by subst hb; omega)) HN.out (by omega))
set_option maxRecDepth 100000 in
set_option maxHeartbeats 4000000 in
theorem Do_set_ok (g gp : Nat) (AD : Option Addr) (nd cd B : Nat) (p : Nat) (k : Int) (most : Int) (T D : List UInt8) (w : World) (hg : Bk w g 52 #[.pointer (some ⟨gp, 0, none⟩), .int .i64 most]) (hp : PlS w gp T)
    (hd : Rd w B 1 AD nd (D.map bv)) (hB : B ≤ w.heap.size) (hdne : 0 < nd → ∀ a, AD = some a → a.block ≠ gp) (hgne : g ≠ gp) (hT : T.length ≤ 549755813888) (hD : nd ≤ 549755813888) (hpb : -9223372036854775808 ≤ (p : Int) ∧ (p : Int) ≤ 9223372036854775807) (hkb : -9223372036854775808 ≤ (k : Int) ∧ (k : Int) ≤ 9223372036854775807) (hmb : 0 ≤ most ∧ most ≤ 2147483648)
    (hhas : hasB T.length p nd = true) :
    Calls Tryz.prog 19 #[.pointer (some ⟨g, 0, none⟩), stepV 3 p k AD nd cd] w fun e w' => DoTold gp (T.take p ++ (D ++ T.drop (p + nd))) ⟨0, 0, [], []⟩ w w' e := by
  have Hp := Lib.hid hp
  obtain ⟨A, c, hb, hr, hnc, hne⟩ := hp
  obtain ⟨n, hn⟩ : ∃ n, T.length = n := ⟨_, rfl⟩
  rw [hn] at hb hr hnc hT hne
  rw [hn] at hhas
  have hDl : D.length = nd := by simpa using hd.1
  have F := do_start (kind := 3) (p := p) (k := k) (cd := cd) hg hb hr hd hB hgne
  have HF := Lib.hid F
  have Hn := Lib.hid hn
  have Hne := Lib.hid hne
  have Hdne := Lib.hid hdne
  clear hb hr hd hg F hn hne hdne
  obtain ⟨q, hq⟩ : ∃ q, p + nd = q := ⟨_, rfl⟩
  rw [hq]
  obtain ⟨T2, hT2⟩ : ∃ T2, T.take p ++ (D ++ T.drop q) = T2 := ⟨_, rfl⟩
  rw [hT2]
  obtain ⟨N, hN⟩ : ∃ N, T2.length = N := ⟨_, rfl⟩
  have hqn : q ≤ n := by
    unfold hasB at hhas
    have := of_decide_eq_true hhas
    omega
  have hN2 : N ≤ 1099511627776 := by
    rw [← hN, ← hT2]
    have := Hn.out
    simp only [List.length_append, List.length_take, List.length_drop, List.length_nil]
    omega
  have HT2 := Lib.hid hT2
  have HN := Lib.hid hN
  clear hT2 hN
  unfold stepV
  go_enter Tryz.func19, Tryz.ntmps19
  go_wp2
  obtain ⟨W, hW⟩ : ∃ W, (w.alloc (.cells #[.int .i64 3, .int .i64 p, .int .i64 k, .slice AD nd cd] 29)).alloc (.cells #[.int .i64 0, .int .i64 0, .slice none 0 0, .slice none 0 0] 41) = W := ⟨_, rfl⟩
  rw [hW] at HF ⊢
  have F := HF.out
  clear hW HF
  refine wp_region_any (by kernel_rfl) ?_
  refine wpAny_loose2 [97, 98, 99, 100, 101, 102, 103, 104, 105, 106, 107] Grow (Vs [is (.pointer (some ⟨g, 0, none⟩)), is (.pointer (some ⟨g, 0, none⟩)), is (.pointer (some ⟨g, 0, none⟩)), is (.pointer (some ⟨gp, 0, none⟩)), is (.pointer (some ⟨w.heap.size, 1, none⟩)), is (.int .i64 p), is (.pointer (some ⟨w.heap.size, 3, none⟩)), is (.slice AD nd cd), is (.int .i64 (nd : Int)), is (.bool true), is (.bool false)]) _ _ rfl (by kernel_rfl) (Below.refl _ _) (fun _ _ => Grow.trans) (stb_all (by repeat' (first | exact stb_is _ | exact stb_row _ _ _ | (refine List.forall_mem_cons.2 ⟨?_, ?_⟩) | (intro p hp; cases hp)))) ?_ ?_
  · refine steps_of ?_
    refine steps_cons ?_ ?_
    · refine step_on rfl rfl ?_
      intro ev w5 hS hc hf hold hval a K ha hK
      have e0 : ev (.tmp 0) = .pointer (some ⟨g, 0, none⟩) := hold 0 (by kernel_rfl)
      replace hS : Grow W w5 := ⟨hS.os, hS.tape, hS.output, hS.size, hS.block⟩
      go_simp
      exact hK _ _ (Below.refl _ _) rfl
    refine steps_cons ?_ ?_
    · refine step_on rfl rfl ?_
      intro ev w5 hS hc hf hold hval a K ha hK
      have e97 : ev (.tmp 97) = .pointer (some ⟨g, 0, none⟩) := hval 0 97 (by kernel_rfl) rfl
      replace hS : Grow W w5 := ⟨hS.os, hS.tape, hS.output, hS.size, hS.block⟩
      go_simp
      exact hK _ _ (Below.refl _ _) rfl
    refine steps_cons ?_ ?_
    · refine step_on rfl rfl ?_
      intro ev w5 hS hc hf hold hval a K ha hK
      have e98 : ev (.tmp 98) = .pointer (some ⟨g, 0, none⟩) := hval 1 98 (by kernel_rfl) rfl
      replace hS : Grow W w5 := ⟨hS.os, hS.tape, hS.output, hS.size, hS.block⟩
      go_simp
      exact hK _ _ (Below.refl _ _) rfl
    refine steps_cons ?_ ?_
    · refine step_on rfl rfl ?_
      intro ev w5 hS hc hf hold hval a K ha hK
      have e99 : ev (.tmp 99) = .pointer (some ⟨g, 0, none⟩) := hval 2 99 (by kernel_rfl) rfl
      replace hS : Grow W w5 := ⟨hS.os, hS.tape, hS.output, hS.size, hS.block⟩
      have c100 : w5.cell? ⟨g, 0, none⟩ = some (.pointer (some ⟨gp, 0, none⟩)) := ((F.mod.below hS F.mod.lt).cell 0).trans rfl
      go_simp
      exact hK _ _ (Below.refl _ _) rfl
    refine steps_cons ?_ ?_
    · refine step_on rfl rfl ?_
      intro ev w5 hS hc hf hold hval a K ha hK
      have e3 : ev (.tmp 3) = .pointer (some ⟨w.heap.size, 0, none⟩) := hold 3 (by kernel_rfl)
      replace hS : Grow W w5 := ⟨hS.os, hS.tape, hS.output, hS.size, hS.block⟩
      go_simp
      exact hK _ _ (Below.refl _ _) rfl
    refine steps_cons ?_ ?_
    · refine step_on rfl rfl ?_
      intro ev w5 hS hc hf hold hval a K ha hK
      have e101 : ev (.tmp 101) = .pointer (some ⟨w.heap.size, 1, none⟩) := hval 4 101 (by kernel_rfl) rfl
      replace hS : Grow W w5 := ⟨hS.os, hS.tape, hS.output, hS.size, hS.block⟩
      have c102 : w5.cell? ⟨w.heap.size, 1, none⟩ = some (.int .i64 p) := ((F.step.below hS F.step.lt).cell 1).trans rfl
      go_simp
      exact hK _ _ (Below.refl _ _) rfl
    refine steps_cons ?_ ?_
    · refine step_on rfl rfl ?_
      intro ev w5 hS hc hf hold hval a K ha hK
      have e3 : ev (.tmp 3) = .pointer (some ⟨w.heap.size, 0, none⟩) := hold 3 (by kernel_rfl)
      replace hS : Grow W w5 := ⟨hS.os, hS.tape, hS.output, hS.size, hS.block⟩
      go_simp
      exact hK _ _ (Below.refl _ _) rfl
    refine steps_cons ?_ ?_
    · refine step_on rfl rfl ?_
      intro ev w5 hS hc hf hold hval a K ha hK
      have e103 : ev (.tmp 103) = .pointer (some ⟨w.heap.size, 3, none⟩) := hval 6 103 (by kernel_rfl) rfl
      replace hS : Grow W w5 := ⟨hS.os, hS.tape, hS.output, hS.size, hS.block⟩
      have c104 : w5.cell? ⟨w.heap.size, 3, none⟩ = some (.slice AD nd cd) := ((F.step.below hS F.step.lt).cell 3).trans rfl
      go_simp
      exact hK _ _ (Below.refl _ _) rfl
    refine steps_cons ?_ ?_
    · refine step_on rfl rfl ?_
      intro ev w5 hS hc hf hold hval a K ha hK
      have e104 : ev (.tmp 104) = .slice AD nd cd := hval 7 104 (by kernel_rfl) rfl
      replace hS : Grow W w5 := ⟨hS.os, hS.tape, hS.output, hS.size, hS.block⟩
      go_simp
      exact hK _ _ (Below.refl _ _) rfl
    refine steps_cons ?_ ?_
    · refine step_on rfl rfl ?_
      intro ev w5 hS hc hf hold hval a K ha hK
      have e100 : ev (.tmp 100) = .pointer (some ⟨gp, 0, none⟩) := hval 3 100 (by kernel_rfl) rfl
      have e102 : ev (.tmp 102) = .int .i64 p := hval 5 102 (by kernel_rfl) rfl
      have e105 : ev (.tmp 105) = .int .i64 (nd : Int) := hval 8 105 (by kernel_rfl) rfl
      replace hS : Grow W w5 := ⟨hS.os, hS.tape, hS.output, hS.size, hS.block⟩
      go_simp
      refine (has_any gp A n c p (nd) w5 (((F.pl.below hS F.pl.lt).cell 0).trans rfl) (by omega) hpb (by omega)).mono ?_
      rintro e w8 ⟨rfl, rfl⟩
      exact hK _ _ (Below.refl _ _) (bool_eq hhas)
    refine steps_cons ?_ ?_
    · refine step_on rfl rfl ?_
      intro ev w5 hS hc hf hold hval a K ha hK
      have e106 : ev (.tmp 106) = .bool true := hval 9 106 (by kernel_rfl) rfl
      replace hS : Grow W w5 := ⟨hS.os, hS.tape, hS.output, hS.size, hS.block⟩
      go_simp
      exact hK _ _ (Below.refl _ _) rfl
    exact steps_nil
  · intro ev w6 hS hval
    replace hS : Grow W w6 := ⟨hS.os, hS.tape, hS.output, hS.size, hS.block⟩
    have e107 : ev (.tmp 107) = .bool false := hval 10 107 rfl
    simp only [putsOf, List.foldl_cons, List.foldl_nil, Act.put, List.setIfInBounds_toArray, List.set_cons_zero, List.set_cons_succ]
    rw [e107]
    clear hval
    have F6 := F.grow hS
    clear F hS
    revert F6
    generalize w6 = W2
    intro F
    go_wp2
    refine wp_region_any (by kernel_rfl) ?_
    refine wpAny_keep [109, 110, 111, 112, 113, 114, 115, 116, 117, 118, 119, 120] (fun b => b = gp) 11 [11] (fun w1 => Bk w1 gp 50 #[.slice A n c]) (splV gp (w.heap.size + 2) N T2) [is (.pointer (some ⟨g, 0, none⟩)), is (.pointer (some ⟨g, 0, none⟩)), is (.pointer (some ⟨g, 0, none⟩)), is (.pointer (some ⟨gp, 0, none⟩)), is (.pointer (some ⟨w.heap.size, 1, none⟩)), is (.int .i64 (p : Int)), is (.pointer (some ⟨w.heap.size, 3, none⟩)), is (.slice AD nd cd), is (.int .i64 (nd : Int)), is (.pointer (some ⟨w.heap.size, 3, none⟩)), is (.slice AD nd cd), anyV] _ _ rfl (by kernel_rfl) (by kernel_rfl) (F.pl) (fun w1 w2 h _ hg => Bk.below h hg h.lt) (splV_stb _ _ _ _) (by repeat' (first | exact stbk_is _ _ | exact stbk_any _ | (refine List.forall_mem_cons.2 ⟨?_, ?_⟩) | (intro p hp; cases hp))) ?_ ?_
    · refine steps_of ?_
      refine steps_cons ?_ ?_
      · refine step_on3 rfl rfl ?_
        intro ev w5 hS hU hc hf hold hval a K ha hK
        replace hS : Keep (fun b => b = gp) W2 w5 := ⟨hS.os, hS.tape, hS.output, hS.size, hS.block⟩
        clear hU
        have e0 : ev (.tmp 0) = .pointer (some ⟨g, 0, none⟩) := hold 0 (by kernel_rfl)
        go_simp
        exact hK _ _ (kstep_grow (Below.refl _ _)) rfl
      refine steps_cons ?_ ?_
      · refine step_on3 rfl rfl ?_
        intro ev w5 hS hU hc hf hold hval a K ha hK
        replace hS : Keep (fun b => b = gp) W2 w5 := ⟨hS.os, hS.tape, hS.output, hS.size, hS.block⟩
        clear hU
        have e109 : ev (.tmp 109) = .pointer (some ⟨g, 0, none⟩) := hval 0 109 (by kernel_rfl) rfl
        go_simp
        exact hK _ _ (kstep_grow (Below.refl _ _)) rfl
      refine steps_cons ?_ ?_
      · refine step_on3 rfl rfl ?_
        intro ev w5 hS hU hc hf hold hval a K ha hK
        replace hS : Keep (fun b => b = gp) W2 w5 := ⟨hS.os, hS.tape, hS.output, hS.size, hS.block⟩
        clear hU
        have e110 : ev (.tmp 110) = .pointer (some ⟨g, 0, none⟩) := hval 1 110 (by kernel_rfl) rfl
        go_simp
        exact hK _ _ (kstep_grow (Below.refl _ _)) rfl
      refine steps_cons ?_ ?_
      · refine step_on3 rfl rfl ?_
        intro ev w5 hS hU hc hf hold hval a K ha hK
        replace hS : Keep (fun b => b = gp) W2 w5 := ⟨hS.os, hS.tape, hS.output, hS.size, hS.block⟩
        clear hU
        have e111 : ev (.tmp 111) = .pointer (some ⟨g, 0, none⟩) := hval 2 111 (by kernel_rfl) rfl
        have c112 : w5.cell? ⟨g, 0, none⟩ = some (.pointer (some ⟨gp, 0, none⟩)) := ((hS.bk F.mod (fun h => F.gne h)).cell 0).trans rfl
        go_simp
        exact hK _ _ (kstep_grow (Below.refl _ _)) rfl
      refine steps_cons ?_ ?_
      · refine step_on3 rfl rfl ?_
        intro ev w5 hS hU hc hf hold hval a K ha hK
        replace hS : Keep (fun b => b = gp) W2 w5 := ⟨hS.os, hS.tape, hS.output, hS.size, hS.block⟩
        clear hU
        have e3 : ev (.tmp 3) = .pointer (some ⟨w.heap.size, 0, none⟩) := hold 3 (by kernel_rfl)
        go_simp
        exact hK _ _ (kstep_grow (Below.refl _ _)) rfl
      refine steps_cons ?_ ?_
      · refine step_on3 rfl rfl ?_
        intro ev w5 hS hU hc hf hold hval a K ha hK
        replace hS : Keep (fun b => b = gp) W2 w5 := ⟨hS.os, hS.tape, hS.output, hS.size, hS.block⟩
        clear hU
        have e113 : ev (.tmp 113) = .pointer (some ⟨w.heap.size, 1, none⟩) := hval 4 113 (by kernel_rfl) rfl
        have c114 : w5.cell? ⟨w.heap.size, 1, none⟩ = some (.int .i64 (p : Int)) := ((hS.bk F.step (fun h => absurd (show w.heap.size = gp from h) (by have := F.gpl; omega))).cell 1).trans rfl
        go_simp
        exact hK _ _ (kstep_grow (Below.refl _ _)) rfl
      refine steps_cons ?_ ?_
      · refine step_on3 rfl rfl ?_
        intro ev w5 hS hU hc hf hold hval a K ha hK
        replace hS : Keep (fun b => b = gp) W2 w5 := ⟨hS.os, hS.tape, hS.output, hS.size, hS.block⟩
        clear hU
        have e3 : ev (.tmp 3) = .pointer (some ⟨w.heap.size, 0, none⟩) := hold 3 (by kernel_rfl)
        go_simp
        exact hK _ _ (kstep_grow (Below.refl _ _)) rfl
      refine steps_cons ?_ ?_
      · refine step_on3 rfl rfl ?_
        intro ev w5 hS hU hc hf hold hval a K ha hK
        replace hS : Keep (fun b => b = gp) W2 w5 := ⟨hS.os, hS.tape, hS.output, hS.size, hS.block⟩
        clear hU
        have e115 : ev (.tmp 115) = .pointer (some ⟨w.heap.size, 3, none⟩) := hval 6 115 (by kernel_rfl) rfl
        have c116 : w5.cell? ⟨w.heap.size, 3, none⟩ = some (.slice AD nd cd) := ((hS.bk F.step (fun h => absurd (show w.heap.size = gp from h) (by have := F.gpl; omega))).cell 3).trans rfl
        go_simp
        exact hK _ _ (kstep_grow (Below.refl _ _)) rfl
      refine steps_cons ?_ ?_
      · refine step_on3 rfl rfl ?_
        intro ev w5 hS hU hc hf hold hval a K ha hK
        replace hS : Keep (fun b => b = gp) W2 w5 := ⟨hS.os, hS.tape, hS.output, hS.size, hS.block⟩
        clear hU
        have e116 : ev (.tmp 116) = .slice AD nd cd := hval 7 116 (by kernel_rfl) rfl
        go_simp
        exact hK _ _ (kstep_grow (Below.refl _ _)) rfl
      refine steps_cons ?_ ?_
      · refine step_on3 rfl rfl ?_
        intro ev w5 hS hU hc hf hold hval a K ha hK
        replace hS : Keep (fun b => b = gp) W2 w5 := ⟨hS.os, hS.tape, hS.output, hS.size, hS.block⟩
        clear hU
        have e3 : ev (.tmp 3) = .pointer (some ⟨w.heap.size, 0, none⟩) := hold 3 (by kernel_rfl)
        go_simp
        exact hK _ _ (kstep_grow (Below.refl _ _)) rfl
      refine steps_cons ?_ ?_
      · refine step_on3 rfl rfl ?_
        intro ev w5 hS hU hc hf hold hval a K ha hK
        replace hS : Keep (fun b => b = gp) W2 w5 := ⟨hS.os, hS.tape, hS.output, hS.size, hS.block⟩
        clear hU
        have e118 : ev (.tmp 118) = .pointer (some ⟨w.heap.size, 3, none⟩) := hval 9 118 (by kernel_rfl) rfl
        have c119 : w5.cell? ⟨w.heap.size, 3, none⟩ = some (.slice AD nd cd) := ((hS.bk F.step (fun h => absurd (show w.heap.size = gp from h) (by have := F.gpl; omega))).cell 3).trans rfl
        go_simp
        exact hK _ _ (kstep_grow (Below.refl _ _)) rfl
      refine steps_cons ?_ ?_
      · refine step_on3 rfl rfl ?_
        intro ev w5 hS hU hc hf hold hval a K ha hK
        replace hS : Keep (fun b => b = gp) W2 w5 := ⟨hS.os, hS.tape, hS.output, hS.size, hS.block⟩
        have hpre := hU rfl
        clear hU
        have e112 : ev (.tmp 112) = .pointer (some ⟨gp, 0, none⟩) := hval 3 112 (by kernel_rfl) rfl
        have e114 : ev (.tmp 114) = .int .i64 (p : Int) := hval 5 114 (by kernel_rfl) rfl
        have e117 : ev (.tmp 117) = .int .i64 (nd : Int) := hval 8 117 (by kernel_rfl) rfl
        have e119 : ev (.tmp 119) = .slice AD nd cd := hval 10 119 (by kernel_rfl) rfl
        go_simp
        have hr5 := Rd.keepF F.rT hS F.low.size Hne.out
        have hd5 := Rd.keepF F.rD hS F.low.size Hdne.out
        refine (splice_any gp A AD n c nd cd p nd N w5.heap.size T D T2 w5 hpre hr5 Hne.out hnc hd5 (Nat.le_refl _) Hdne.out q hq hqn HT2.out HN.out (by omega) hN2).mono ?_
        rintro e w8 ⟨rfl, hk8, A9, c9, hb9, hm9⟩
        exact hK _ _ (kstep_keep hk8) ⟨rfl, A9, c9, hb9, hm9.mono (by have := hS.size; have := F.res.lt; omega)⟩
      exact steps_nil
    · intro ev w6 hS hval hall
      replace hS : Keep (fun b => b = gp) W2 w6 := ⟨hS.os, hS.tape, hS.output, hS.size, hS.block⟩
      obtain ⟨vJ, pJ⟩ : ∃ v, (splV gp (w.heap.size + 2) N T2) v w6 := hall 11 (by decide)
      simp only [putsOf, List.foldl_cons, List.foldl_nil, Act.put, List.setIfInBounds_toArray, List.set_cons_zero, List.set_cons_succ]
      clear hval hall
      obtain ⟨rfl, A9, c9, hb9, hm9⟩ := pJ
      have hgs := F.gpl
      have hres := hS.bk F.res (fun h => absurd (show w.heap.size + 1 = gp from h) (by omega))
      have r0 : w6.cell? ⟨w.heap.size + 1, 0, none⟩ = some (.int .i64 0) := (hres.cell 0).trans rfl
      have f0 := hres.frozen 0
      have r1 : w6.cell? ⟨w.heap.size + 1, 1, none⟩ = some (.int .i64 0) := (hres.cell 1).trans rfl
      have f1 := hres.frozen 1
      have r2 : w6.cell? ⟨w.heap.size + 1, 2, none⟩ = some (.slice none 0 0) := (hres.cell 2).trans rfl
      have f2 := hres.frozen 2
      have r3 : w6.cell? ⟨w.heap.size + 1, 3, none⟩ = some (.slice none 0 0) := (hres.cell 3).trans rfl
      have f3 := hres.frozen 3
      go_wp2
      have hbl := keep_set (v0 := .int .i64 0) (v1 := .int .i64 0) (v2 := .slice none 0 0) (v3 := .slice none 0 0) (Nat.le_succ w.heap.size) ((Keep.of_below F.low).trans hS)
      have hset := at_set (W := w6) (s := w.heap.size + 1) (v0 := .int .i64 0) (v1 := .int .i64 0) (v2 := .slice none 0 0) (v3 := .slice none 0 0)
      exact do_ret (s := w.heap.size + 1) (A1 := none) (c1 := 0) (A2 := none) (c2 := 0) (.inl rfl) rfl (res_set hres) hbl (made_nil _ _ _) (made_nil _ _ _) (pls_made (hset.bk hb9 (fun h => absurd (show gp = w.heap.size + 1 from h) (by omega))) (hm9.keepF hset (fun b hb => by subst hb; omega)) HN.out (by omega))
end Go.Proofs.YtnileogagoipiaaGreatDoor
namespace Go.Proofs.YtnileogagoipiaaGreatDoor
open Go.RowKit
set_option linter.unusedVariables false
set_option linter.unusedSimpArgs false
set_option maxRecDepth 100000 in
set_option maxHeartbeats 4000000 in
theorem Do_take_ok (g gp : Nat) (AD : Option Addr) (nd cd B : Nat) (p k : Nat) (most : Int) (T D : List UInt8) (w : World) (hg : Bk w g 52 #[.pointer (some ⟨gp, 0, none⟩), .int .i64 most]) (hp : PlS w gp T)
    (hd : Rd w B 1 AD nd (D.map bv)) (hB : B ≤ w.heap.size) (hdne : 0 < nd → ∀ a, AD = some a → a.block ≠ gp) (hgne : g ≠ gp) (hT : T.length ≤ 549755813888) (hD : nd ≤ 549755813888) (hpb : -9223372036854775808 ≤ (p : Int) ∧ (p : Int) ≤ 9223372036854775807) (hkb : -9223372036854775808 ≤ (k : Int) ∧ (k : Int) ≤ 9223372036854775807) (hmb : 0 ≤ most ∧ most ≤ 2147483648)
    (hhas : hasB T.length p k = true) :
    Calls Tryz.prog 19 #[.pointer (some ⟨g, 0, none⟩), stepV 5 p k AD nd cd] w fun e w' => DoTold gp (T) ⟨0, 0, (T.drop p).take k, []⟩ w w' e := by
  have Hp := Lib.hid hp
  obtain ⟨A, c, hb, hr, hnc, hne⟩ := hp
  obtain ⟨n, hn⟩ : ∃ n, T.length = n := ⟨_, rfl⟩
  rw [hn] at hb hr hnc hT hne
  rw [hn] at hhas
  have hDl : D.length = nd := by simpa using hd.1
  have F := do_start (kind := 5) (p := p) (k := k) (cd := cd) hg hb hr hd hB hgne
  have HF := Lib.hid F
  have Hn := Lib.hid hn
  have Hne := Lib.hid hne
  have Hdne := Lib.hid hdne
  clear hb hr hd hg F hn hne hdne
  obtain ⟨q, hq⟩ : ∃ q, p + k = q := ⟨_, rfl⟩
  obtain ⟨X, hX⟩ : ∃ X, (T.drop p).take k = X := ⟨_, rfl⟩
  rw [hX]
  have hqn : q ≤ n := by
    unfold hasB at hhas
    have := of_decide_eq_true hhas
    omega
  have hXl : X.length = q - p := by
    rw [← hX]
    have := Hn.out
    simp only [List.length_take, List.length_drop]
    omega
  have hcut : ∀ w5 : World, Rd w5 w.heap.size 1 A n (T.map bv) → Rd w5 w.heap.size 1 (cutA A c p 1) (q - p) (X.map bv) := fun w5 hr5 => by
    have h1 := (hr5.cut (k := p) (cap := c) (by omega) hnc).cut_hi (k := q - p) (by omega)
    rw [Nat.mul_one, Nat.mul_one, ← List.map_drop, ← List.map_take, show q - p = k by omega, hX] at h1
    rw [show q - p = k by omega]
    exact h1
  have hcutr := run_cut_lohi (P := Tryz.prog) 22 5 1 Tryz.underlying22 mo_size_u8 A n c p q (by omega) (by omega)
  have Hcut := Lib.hid hcut
  have HX := Lib.hid hXl
  clear hX hXl hcut
  unfold stepV
  go_enter Tryz.func19, Tryz.ntmps19
  go_wp2
  obtain ⟨W, hW⟩ : ∃ W, (w.alloc (.cells #[.int .i64 5, .int .i64 p, .int .i64 k, .slice AD nd cd] 29)).alloc (.cells #[.int .i64 0, .int .i64 0, .slice none 0 0, .slice none 0 0] 41) = W := ⟨_, rfl⟩
  rw [hW] at HF ⊢
  have F := HF.out
  clear hW HF
  refine wp_region_any (by kernel_rfl) ?_
  refine wpAny_loose2 [55, 56, 57, 58, 59, 60, 61, 62, 63, 64] Grow (Vs [is (.pointer (some ⟨g, 0, none⟩)), is (.pointer (some ⟨g, 0, none⟩)), is (.pointer (some ⟨g, 0, none⟩)), is (.pointer (some ⟨gp, 0, none⟩)), is (.pointer (some ⟨w.heap.size, 1, none⟩)), is (.int .i64 p), is (.pointer (some ⟨w.heap.size, 2, none⟩)), is (.int .i64 k), is (.bool true), is (.bool false)]) _ _ rfl (by kernel_rfl) (Below.refl _ _) (fun _ _ => Grow.trans) (stb_all (by repeat' (first | exact stb_is _ | exact stb_row _ _ _ | (refine List.forall_mem_cons.2 ⟨?_, ?_⟩) | (intro p hp; cases hp)))) ?_ ?_
  · refine steps_of ?_
    refine steps_cons ?_ ?_
    · refine step_on rfl rfl ?_
      intro ev w5 hS hc hf hold hval a K ha hK
      have e0 : ev (.tmp 0) = .pointer (some ⟨g, 0, none⟩) := hold 0 (by kernel_rfl)
      replace hS : Grow W w5 := ⟨hS.os, hS.tape, hS.output, hS.size, hS.block⟩
      go_simp
      exact hK _ _ (Below.refl _ _) rfl
    refine steps_cons ?_ ?_
    · refine step_on rfl rfl ?_
      intro ev w5 hS hc hf hold hval a K ha hK
      have e55 : ev (.tmp 55) = .pointer (some ⟨g, 0, none⟩) := hval 0 55 (by kernel_rfl) rfl
      replace hS : Grow W w5 := ⟨hS.os, hS.tape, hS.output, hS.size, hS.block⟩
      go_simp
      exact hK _ _ (Below.refl _ _) rfl
    refine steps_cons ?_ ?_
    · refine step_on rfl rfl ?_
      intro ev w5 hS hc hf hold hval a K ha hK
      have e56 : ev (.tmp 56) = .pointer (some ⟨g, 0, none⟩) := hval 1 56 (by kernel_rfl) rfl
      replace hS : Grow W w5 := ⟨hS.os, hS.tape, hS.output, hS.size, hS.block⟩
      go_simp
      exact hK _ _ (Below.refl _ _) rfl
    refine steps_cons ?_ ?_
    · refine step_on rfl rfl ?_
      intro ev w5 hS hc hf hold hval a K ha hK
      have e57 : ev (.tmp 57) = .pointer (some ⟨g, 0, none⟩) := hval 2 57 (by kernel_rfl) rfl
      replace hS : Grow W w5 := ⟨hS.os, hS.tape, hS.output, hS.size, hS.block⟩
      have c58 : w5.cell? ⟨g, 0, none⟩ = some (.pointer (some ⟨gp, 0, none⟩)) := ((F.mod.below hS F.mod.lt).cell 0).trans rfl
      go_simp
      exact hK _ _ (Below.refl _ _) rfl
    refine steps_cons ?_ ?_
    · refine step_on rfl rfl ?_
      intro ev w5 hS hc hf hold hval a K ha hK
      have e3 : ev (.tmp 3) = .pointer (some ⟨w.heap.size, 0, none⟩) := hold 3 (by kernel_rfl)
      replace hS : Grow W w5 := ⟨hS.os, hS.tape, hS.output, hS.size, hS.block⟩
      go_simp
      exact hK _ _ (Below.refl _ _) rfl
    refine steps_cons ?_ ?_
    · refine step_on rfl rfl ?_
      intro ev w5 hS hc hf hold hval a K ha hK
      have e59 : ev (.tmp 59) = .pointer (some ⟨w.heap.size, 1, none⟩) := hval 4 59 (by kernel_rfl) rfl
      replace hS : Grow W w5 := ⟨hS.os, hS.tape, hS.output, hS.size, hS.block⟩
      have c60 : w5.cell? ⟨w.heap.size, 1, none⟩ = some (.int .i64 p) := ((F.step.below hS F.step.lt).cell 1).trans rfl
      go_simp
      exact hK _ _ (Below.refl _ _) rfl
    refine steps_cons ?_ ?_
    · refine step_on rfl rfl ?_
      intro ev w5 hS hc hf hold hval a K ha hK
      have e3 : ev (.tmp 3) = .pointer (some ⟨w.heap.size, 0, none⟩) := hold 3 (by kernel_rfl)
      replace hS : Grow W w5 := ⟨hS.os, hS.tape, hS.output, hS.size, hS.block⟩
      go_simp
      exact hK _ _ (Below.refl _ _) rfl
    refine steps_cons ?_ ?_
    · refine step_on rfl rfl ?_
      intro ev w5 hS hc hf hold hval a K ha hK
      have e61 : ev (.tmp 61) = .pointer (some ⟨w.heap.size, 2, none⟩) := hval 6 61 (by kernel_rfl) rfl
      replace hS : Grow W w5 := ⟨hS.os, hS.tape, hS.output, hS.size, hS.block⟩
      have c62 : w5.cell? ⟨w.heap.size, 2, none⟩ = some (.int .i64 k) := ((F.step.below hS F.step.lt).cell 2).trans rfl
      go_simp
      exact hK _ _ (Below.refl _ _) rfl
    refine steps_cons ?_ ?_
    · refine step_on rfl rfl ?_
      intro ev w5 hS hc hf hold hval a K ha hK
      have e58 : ev (.tmp 58) = .pointer (some ⟨gp, 0, none⟩) := hval 3 58 (by kernel_rfl) rfl
      have e60 : ev (.tmp 60) = .int .i64 p := hval 5 60 (by kernel_rfl) rfl
      have e62 : ev (.tmp 62) = .int .i64 k := hval 7 62 (by kernel_rfl) rfl
      replace hS : Grow W w5 := ⟨hS.os, hS.tape, hS.output, hS.size, hS.block⟩
      go_simp
      refine (has_any gp A n c p (k) w5 (((F.pl.below hS F.pl.lt).cell 0).trans rfl) (by omega) hpb hkb).mono ?_
      rintro e w8 ⟨rfl, rfl⟩
      exact hK _ _ (Below.refl _ _) (bool_eq hhas)
    refine steps_cons ?_ ?_
    · refine step_on rfl rfl ?_
      intro ev w5 hS hc hf hold hval a K ha hK
      have e63 : ev (.tmp 63) = .bool true := hval 8 63 (by kernel_rfl) rfl
      replace hS : Grow W w5 := ⟨hS.os, hS.tape, hS.output, hS.size, hS.block⟩
      go_simp
      exact hK _ _ (Below.refl _ _) rfl
    exact steps_nil
  · intro ev w6 hS hval
    replace hS : Grow W w6 := ⟨hS.os, hS.tape, hS.output, hS.size, hS.block⟩
    have e64 : ev (.tmp 64) = .bool false := hval 9 64 rfl
    simp only [putsOf, List.foldl_cons, List.foldl_nil, Act.put, List.setIfInBounds_toArray, List.set_cons_zero, List.set_cons_succ]
    rw [e64]
    clear hval
    have F6 := F.grow hS
    clear F hS
    revert F6
    generalize w6 = W2
    intro F
    have c66 : W2.cell? ⟨w.heap.size, 0, none⟩ = some (.int .i64 5) := (F.step.cell 0).trans rfl
    go_wp2
    refine wp_region_any (by kernel_rfl) ?_
    refine wpAny_keep [69, 70, 71, 72, 73, 74, 75, 76, 77, 78, 79, 80, 81, 82, 83, 84, 85] (fun b => b = w.heap.size + 1) 17 [17] (fun w1 => Bk w1 (w.heap.size + 1) 41 #[.int .i64 0, .int .i64 0, .slice none 0 0, .slice none 0 0]) (ansW (w.heap.size + 1) (w.heap.size + 2) 0 X) [is (.pointer (some ⟨g, 0, none⟩)), is (.pointer (some ⟨g, 0, none⟩)), is (.pointer (some ⟨g, 0, none⟩)), is (.pointer (some ⟨gp, 0, none⟩)), is (.pointer (some ⟨gp, 0, none⟩)), is (.pointer (some ⟨gp, 0, none⟩)), is (.slice A n c), is (.pointer (some ⟨w.heap.size, 1, none⟩)), is (.int .i64 (p : Int)), is (.pointer (some ⟨w.heap.size, 1, none⟩)), is (.int .i64 (p : Int)), is (.pointer (some ⟨w.heap.size, 2, none⟩)), is (.int .i64 (k : Int)), is (.int .i64 (q : Int)), is (.slice (cutA A c p 1) (q - p) (c - p)), madeV (w.heap.size + 2) 5 1 X.length (X.map bv), ansV (w.heap.size + 2) 0 X, anyV] _ _ rfl (by kernel_rfl) (by kernel_rfl) (F.res) (fun w1 w2 h _ hg => Bk.below h hg h.lt) (ansW_stb _ _ _ _) (by repeat' (first | exact stbk_is _ _ | exact stbk_any _ | exact stbk_made (fun b hb => by subst hb; omega) _ _ _ _ | exact stbk_ans (fun b hb => by subst hb; omega) _ _ | (refine List.forall_mem_cons.2 ⟨?_, ?_⟩) | (intro p hp; cases hp))) ?_ ?_
    · refine steps_of ?_
      refine steps_cons ?_ ?_
      · refine step_on3 rfl rfl ?_
        intro ev w5 hS hU hc hf hold hval a K ha hK
        replace hS : Keep (fun b => b = w.heap.size + 1) W2 w5 := ⟨hS.os, hS.tape, hS.output, hS.size, hS.block⟩
        clear hU
        have e0 : ev (.tmp 0) = .pointer (some ⟨g, 0, none⟩) := hold 0 (by kernel_rfl)
        go_simp
        exact hK _ _ (kstep_grow (Below.refl _ _)) rfl
      refine steps_cons ?_ ?_
      · refine step_on3 rfl rfl ?_
        intro ev w5 hS hU hc hf hold hval a K ha hK
        replace hS : Keep (fun b => b = w.heap.size + 1) W2 w5 := ⟨hS.os, hS.tape, hS.output, hS.size, hS.block⟩
        clear hU
        have e69 : ev (.tmp 69) = .pointer (some ⟨g, 0, none⟩) := hval 0 69 (by kernel_rfl) rfl
        go_simp
        exact hK _ _ (kstep_grow (Below.refl _ _)) rfl
      refine steps_cons ?_ ?_
      · refine step_on3 rfl rfl ?_
        intro ev w5 hS hU hc hf hold hval a K ha hK
        replace hS : Keep (fun b => b = w.heap.size + 1) W2 w5 := ⟨hS.os, hS.tape, hS.output, hS.size, hS.block⟩
        clear hU
        have e70 : ev (.tmp 70) = .pointer (some ⟨g, 0, none⟩) := hval 1 70 (by kernel_rfl) rfl
        go_simp
        exact hK _ _ (kstep_grow (Below.refl _ _)) rfl
      refine steps_cons ?_ ?_
      · refine step_on3 rfl rfl ?_
        intro ev w5 hS hU hc hf hold hval a K ha hK
        replace hS : Keep (fun b => b = w.heap.size + 1) W2 w5 := ⟨hS.os, hS.tape, hS.output, hS.size, hS.block⟩
        clear hU
        have e71 : ev (.tmp 71) = .pointer (some ⟨g, 0, none⟩) := hval 2 71 (by kernel_rfl) rfl
        have c72 : w5.cell? ⟨g, 0, none⟩ = some (.pointer (some ⟨gp, 0, none⟩)) := ((hS.bk F.mod (fun h => absurd (show g = w.heap.size + 1 from h) (by have := F.gll; omega))).cell 0).trans rfl
        go_simp
        exact hK _ _ (kstep_grow (Below.refl _ _)) rfl
      refine steps_cons ?_ ?_
      · refine step_on3 rfl rfl ?_
        intro ev w5 hS hU hc hf hold hval a K ha hK
        replace hS : Keep (fun b => b = w.heap.size + 1) W2 w5 := ⟨hS.os, hS.tape, hS.output, hS.size, hS.block⟩
        clear hU
        have e72 : ev (.tmp 72) = .pointer (some ⟨gp, 0, none⟩) := hval 3 72 (by kernel_rfl) rfl
        go_simp
        exact hK _ _ (kstep_grow (Below.refl _ _)) rfl
      refine steps_cons ?_ ?_
      · refine step_on3 rfl rfl ?_
        intro ev w5 hS hU hc hf hold hval a K ha hK
        replace hS : Keep (fun b => b = w.heap.size + 1) W2 w5 := ⟨hS.os, hS.tape, hS.output, hS.size, hS.block⟩
        clear hU
        have e73 : ev (.tmp 73) = .pointer (some ⟨gp, 0, none⟩) := hval 4 73 (by kernel_rfl) rfl
        go_simp
        exact hK _ _ (kstep_grow (Below.refl _ _)) rfl
      refine steps_cons ?_ ?_
      · refine step_on3 rfl rfl ?_
        intro ev w5 hS hU hc hf hold hval a K ha hK
        replace hS : Keep (fun b => b = w.heap.size + 1) W2 w5 := ⟨hS.os, hS.tape, hS.output, hS.size, hS.block⟩
        clear hU
        have e74 : ev (.tmp 74) = .pointer (some ⟨gp, 0, none⟩) := hval 5 74 (by kernel_rfl) rfl
        have c75 : w5.cell? ⟨gp, 0, none⟩ = some (.slice A n c) := ((hS.bk F.pl (fun h => absurd (show gp = w.heap.size + 1 from h) (by have := F.gpl; omega))).cell 0).trans rfl
        go_simp
        exact hK _ _ (kstep_grow (Below.refl _ _)) rfl
      refine steps_cons ?_ ?_
      · refine step_on3 rfl rfl ?_
        intro ev w5 hS hU hc hf hold hval a K ha hK
        replace hS : Keep (fun b => b = w.heap.size + 1) W2 w5 := ⟨hS.os, hS.tape, hS.output, hS.size, hS.block⟩
        clear hU
        have e3 : ev (.tmp 3) = .pointer (some ⟨w.heap.size, 0, none⟩) := hold 3 (by kernel_rfl)
        go_simp
        exact hK _ _ (kstep_grow (Below.refl _ _)) rfl
      refine steps_cons ?_ ?_
      · refine step_on3 rfl rfl ?_
        intro ev w5 hS hU hc hf hold hval a K ha hK
        replace hS : Keep (fun b => b = w.heap.size + 1) W2 w5 := ⟨hS.os, hS.tape, hS.output, hS.size, hS.block⟩
        clear hU
        have e76 : ev (.tmp 76) = .pointer (some ⟨w.heap.size, 1, none⟩) := hval 7 76 (by kernel_rfl) rfl
        have c77 : w5.cell? ⟨w.heap.size, 1, none⟩ = some (.int .i64 (p : Int)) := ((hS.bk F.step (fun h => absurd (show w.heap.size = w.heap.size + 1 from h) (by omega))).cell 1).trans rfl
        go_simp
        exact hK _ _ (kstep_grow (Below.refl _ _)) rfl
      refine steps_cons ?_ ?_
      · refine step_on3 rfl rfl ?_
        intro ev w5 hS hU hc hf hold hval a K ha hK
        replace hS : Keep (fun b => b = w.heap.size + 1) W2 w5 := ⟨hS.os, hS.tape, hS.output, hS.size, hS.block⟩
        clear hU
        have e3 : ev (.tmp 3) = .pointer (some ⟨w.heap.size, 0, none⟩) := hold 3 (by kernel_rfl)
        go_simp
        exact hK _ _ (kstep_grow (Below.refl _ _)) rfl
      refine steps_cons ?_ ?_
      · refine step_on3 rfl rfl ?_
        intro ev w5 hS hU hc hf hold hval a K ha hK
        replace hS : Keep (fun b => b = w.heap.size + 1) W2 w5 := ⟨hS.os, hS.tape, hS.output, hS.size, hS.block⟩
        clear hU
        have e78 : ev (.tmp 78) = .pointer (some ⟨w.heap.size, 1, none⟩) := hval 9 78 (by kernel_rfl) rfl
        have c79 : w5.cell? ⟨w.heap.size, 1, none⟩ = some (.int .i64 (p : Int)) := ((hS.bk F.step (fun h => absurd (show w.heap.size = w.heap.size + 1 from h) (by omega))).cell 1).trans rfl
        go_simp
        exact hK _ _ (kstep_grow (Below.refl _ _)) rfl
      refine steps_cons ?_ ?_
      · refine step_on3 rfl rfl ?_
        intro ev w5 hS hU hc hf hold hval a K ha hK
        replace hS : Keep (fun b => b = w.heap.size + 1) W2 w5 := ⟨hS.os, hS.tape, hS.output, hS.size, hS.block⟩
        clear hU
        have e3 : ev (.tmp 3) = .pointer (some ⟨w.heap.size, 0, none⟩) := hold 3 (by kernel_rfl)
        go_simp
        exact hK _ _ (kstep_grow (Below.refl _ _)) rfl
      refine steps_cons ?_ ?_
      · refine step_on3 rfl rfl ?_
        intro ev w5 hS hU hc hf hold hval a K ha hK
        replace hS : Keep (fun b => b = w.heap.size + 1) W2 w5 := ⟨hS.os, hS.tape, hS.output, hS.size, hS.block⟩
        clear hU
        have e80 : ev (.tmp 80) = .pointer (some ⟨w.heap.size, 2, none⟩) := hval 11 80 (by kernel_rfl) rfl
        have c81 : w5.cell? ⟨w.heap.size, 2, none⟩ = some (.int .i64 (k : Int)) := ((hS.bk F.step (fun h => absurd (show w.heap.size = w.heap.size + 1 from h) (by omega))).cell 2).trans rfl
        go_simp
        exact hK _ _ (kstep_grow (Below.refl _ _)) rfl
      refine steps_cons ?_ ?_
      · refine step_on3 rfl rfl ?_
        intro ev w5 hS hU hc hf hold hval a K ha hK
        replace hS : Keep (fun b => b = w.heap.size + 1) W2 w5 := ⟨hS.os, hS.tape, hS.output, hS.size, hS.block⟩
        clear hU
        have e79 : ev (.tmp 79) = .int .i64 (p : Int) := hval 10 79 (by kernel_rfl) rfl
        have e81 : ev (.tmp 81) = .int .i64 (k : Int) := hval 12 81 (by kernel_rfl) rfl
        go_simp
        exact hK _ _ (kstep_grow (Below.refl _ _)) (i64_eq (by rw [IntKind.wrap_i64]; omega))
      refine steps_cons ?_ ?_
      · refine step_on3 rfl rfl ?_
        intro ev w5 hS hU hc hf hold hval a K ha hK
        replace hS : Keep (fun b => b = w.heap.size + 1) W2 w5 := ⟨hS.os, hS.tape, hS.output, hS.size, hS.block⟩
        clear hU
        have e75 : ev (.tmp 75) = .slice A n c := hval 6 75 (by kernel_rfl) rfl
        have e77 : ev (.tmp 77) = .int .i64 (p : Int) := hval 8 77 (by kernel_rfl) rfl
        have e82 : ev (.tmp 82) = .int .i64 (q : Int) := hval 13 82 (by kernel_rfl) rfl
        go_simp
        exact hK _ _ (kstep_grow (Below.refl _ _)) rfl
      refine steps_cons ?_ ?_
      · refine step_on3 rfl rfl ?_
        intro ev w5 hS hU hc hf hold hval a K ha hK
        replace hS : Keep (fun b => b = w.heap.size + 1) W2 w5 := ⟨hS.os, hS.tape, hS.output, hS.size, hS.block⟩
        clear hU
        have e83 : ev (.tmp 83) = .slice (cutA A c p 1) (q - p) (c - p) := hval 14 83 (by kernel_rfl) rfl
        go_simp
        have hr5 := hS.rd F.rT F.low.size (fun b hb h => absurd (show b = w.heap.size + 1 from h) (by omega))
        have hc5 := Hcut.out w5 hr5
        refine (Clone_any _ _ _ _ X _ hc5 (Nat.le_trans F.low.size hS.size) (by omega)).mono ?_
        rintro e w8 ⟨A9, c9, rfl, hm9, hb9⟩
        rw [← HX.out] at hm9 ⊢
        exact hK _ _ (kstep_grow hb9) ⟨A9, c9, rfl, hm9.mono (by have := hS.size; have := F.res.lt; omega)⟩
      refine steps_cons ?_ ?_
      · refine step_on3 rfl rfl ?_
        intro ev w5 hS hU hc hf hold hval a K ha hK
        replace hS : Keep (fun b => b = w.heap.size + 1) W2 w5 := ⟨hS.os, hS.tape, hS.output, hS.size, hS.block⟩
        clear hU
        have p84 : (madeV (w.heap.size + 2) 5 1 X.length (X.map bv)) (ev (.tmp 84)) w5 := hval 15 84 (by kernel_rfl) rfl
        obtain ⟨A9, c9, e84, hm9⟩ := p84
        go_simp
        exact hK _ _ (kstep_grow (Below.refl _ _)) ⟨A9, c9, rfl, hm9⟩
      refine steps_cons ?_ ?_
      · refine step_on3 rfl rfl ?_
        intro ev w5 hS hU hc hf hold hval a K ha hK
        replace hS : Keep (fun b => b = w.heap.size + 1) W2 w5 := ⟨hS.os, hS.tape, hS.output, hS.size, hS.block⟩
        have hpre := hU rfl
        clear hU
        have e4 : ev (.tmp 4) = .pointer (some ⟨w.heap.size + 1, 0, none⟩) := hold 4 (by kernel_rfl)
        have p85 : (ansV (w.heap.size + 2) 0 X) (ev (.tmp 85)) w5 := hval 16 85 (by kernel_rfl) rfl
        obtain ⟨A9, c9, e85, hm9⟩ := p85
        unfold resC at e85
        have r0 : w5.cell? ⟨w.heap.size + 1, 0, none⟩ = some (.int .i64 0) := (hpre.cell 0).trans rfl
        have f0 := hpre.frozen 0
        have r1 : w5.cell? ⟨w.heap.size + 1, 1, none⟩ = some (.int .i64 0) := (hpre.cell 1).trans rfl
        have f1 := hpre.frozen 1
        have r2 : w5.cell? ⟨w.heap.size + 1, 2, none⟩ = some (.slice none 0 0) := (hpre.cell 2).trans rfl
        have f2 := hpre.frozen 2
        have r3 : w5.cell? ⟨w.heap.size + 1, 3, none⟩ = some (.slice none 0 0) := (hpre.cell 3).trans rfl
        have f3 := hpre.frozen 3
        go_simp
        exact hK (.bool true) _ (kstep_keep at_set) ⟨A9, c9, res_set hpre, hm9.keepF at_set (fun b hb => by subst hb; omega)⟩
      exact steps_nil
    · intro ev w6 hS hval hall
      replace hS : Keep (fun b => b = w.heap.size + 1) W2 w6 := ⟨hS.os, hS.tape, hS.output, hS.size, hS.block⟩
      obtain ⟨vJ, pJ⟩ : ∃ v, (ansW (w.heap.size + 1) (w.heap.size + 2) 0 X) v w6 := hall 17 (by decide)
      simp only [putsOf, List.foldl_cons, List.foldl_nil, Act.put, List.setIfInBounds_toArray, List.set_cons_zero, List.set_cons_succ]
      clear hval hall
      obtain ⟨A9, c9, hb9, hm9⟩ := pJ
      go_wp2
      have hbl : Below w.heap.size w w6 := F.low.trans (hS.to_below F.low.size (fun b hb h => absurd (show b = w.heap.size + 1 from h) (by omega)))
      exact do_ret (A1 := A9) (c1 := c9) (A2 := none) (c2 := 0) (.inl rfl) rfl hb9 (Keep.of_below hbl) (hm9.mono (by omega)) (made_nil _ _ _) (Hp.out.keep hbl)
set_option maxRecDepth 100000 in
set_option maxHeartbeats 4000000 in
theorem Do_count (g gp : Nat) (AD : Option Addr) (nd cd B : Nat) (p k : Int) (most : Int) (T D : List UInt8) (w : World) (hg : Bk w g 52 #[.pointer (some ⟨gp, 0, none⟩), .int .i64 most]) (hp : PlS w gp T)
    (hd : Rd w B 1 AD nd (D.map bv)) (hB : B ≤ w.heap.size) (hdne : 0 < nd → ∀ a, AD = some a → a.block ≠ gp) (hgne : g ≠ gp) (hT : T.length ≤ 549755813888) (hD : nd ≤ 549755813888) (hpb : -9223372036854775808 ≤ (p : Int) ∧ (p : Int) ≤ 9223372036854775807) (hkb : -9223372036854775808 ≤ (k : Int) ∧ (k : Int) ≤ 9223372036854775807) (hmb : 0 ≤ most ∧ most ≤ 2147483648)
     :
    Calls Tryz.prog 19 #[.pointer (some ⟨g, 0, none⟩), stepV 6 p k AD nd cd] w fun e w' => DoTold gp (T) ⟨0, ((findB T D).length : Int), [], []⟩ w w' e := by
  have Hp := Lib.hid hp
  obtain ⟨A, c, hb, hr, hnc, hne⟩ := hp
  obtain ⟨n, hn⟩ : ∃ n, T.length = n := ⟨_, rfl⟩
  rw [hn] at hb hr hnc hT hne
  have hDl : D.length = nd := by simpa using hd.1
  have F := do_start (kind := 6) (p := p) (k := k) (cd := cd) hg hb hr hd hB hgne
  have HF := Lib.hid F
  have Hn := Lib.hid hn
  have Hne := Lib.hid hne
  have Hdne := Lib.hid hdne
  clear hb hr hd hg F hn hne hdne
  obtain ⟨L, hL⟩ : ∃ L, findB T D = L := ⟨_, rfl⟩
  obtain ⟨N, hN⟩ : ∃ N, L.length = N := ⟨_, rfl⟩
  rw [hL, hN]
  have HL := Lib.hid hL
  have HN := Lib.hid hN
  clear hL hN
  unfold stepV
  go_enter Tryz.func19, Tryz.ntmps19
  go_wp2
  obtain ⟨W, hW⟩ : ∃ W, (w.alloc (.cells #[.int .i64 6, .int .i64 p, .int .i64 k, .slice AD nd cd] 29)).alloc (.cells #[.int .i64 0, .int .i64 0, .slice none 0 0, .slice none 0 0] 41) = W := ⟨_, rfl⟩
  rw [hW] at HF ⊢
  have F := HF.out
  clear hW HF
  refine wp_region_any (by kernel_rfl) ?_
  refine wpAny_keep [134, 135, 136, 137, 138, 139, 140, 141, 142] (fun b => b = w.heap.size + 1) 9 [9] (fun w1 => Bk w1 (w.heap.size + 1) 41 #[.int .i64 0, .int .i64 0, .slice none 0 0, .slice none 0 0]) (fun _ w1 => Bk w1 (w.heap.size + 1) 41 #[.int .i64 0, .int .i64 (N : Int), .slice none 0 0, .slice none 0 0]) [is (.pointer (some ⟨g, 0, none⟩)), is (.pointer (some ⟨g, 0, none⟩)), is (.pointer (some ⟨g, 0, none⟩)), is (.pointer (some ⟨gp, 0, none⟩)), is (.pointer (some ⟨w.heap.size, 3, none⟩)), is (.slice AD nd cd), madeV (w.heap.size + 2) 3 1 N (L.map nv), is (.int .i64 (N : Int)), is (.agg #[.int .i64 0, .int .i64 (N : Int), .slice none 0 0, .slice none 0 0]), anyV] _ _ rfl (by kernel_rfl) (by kernel_rfl) (F.res) (fun w1 w2 h _ hg => Bk.below h hg h.lt) (fun _ _ _ h k => Bk.below h k h.lt) (by repeat' (first | exact stbk_is _ _ | exact stbk_any _ | exact stbk_made (fun b hb => by subst hb; omega) _ _ _ _ | (refine List.forall_mem_cons.2 ⟨?_, ?_⟩) | (intro p hp; cases hp))) ?_ ?_
  · refine steps_of ?_
    refine steps_cons ?_ ?_
    · refine step_on3 rfl rfl ?_
      intro ev w5 hS hU hc hf hold hval a K ha hK
      replace hS : Keep (fun b => b = w.heap.size + 1) W w5 := ⟨hS.os, hS.tape, hS.output, hS.size, hS.block⟩
      clear hU
      have e0 : ev (.tmp 0) = .pointer (some ⟨g, 0, none⟩) := hold 0 (by kernel_rfl)
      go_simp
      exact hK _ _ (kstep_grow (Below.refl _ _)) rfl
    refine steps_cons ?_ ?_
    · refine step_on3 rfl rfl ?_
      intro ev w5 hS hU hc hf hold hval a K ha hK
      replace hS : Keep (fun b => b = w.heap.size + 1) W w5 := ⟨hS.os, hS.tape, hS.output, hS.size, hS.block⟩
      clear hU
      have e134 : ev (.tmp 134) = .pointer (some ⟨g, 0, none⟩) := hval 0 134 (by kernel_rfl) rfl
      go_simp
      exact hK _ _ (kstep_grow (Below.refl _ _)) rfl
    refine steps_cons ?_ ?_
    · refine step_on3 rfl rfl ?_
      intro ev w5 hS hU hc hf hold hval a K ha hK
      replace hS : Keep (fun b => b = w.heap.size + 1) W w5 := ⟨hS.os, hS.tape, hS.output, hS.size, hS.block⟩
      clear hU
      have e135 : ev (.tmp 135) = .pointer (some ⟨g, 0, none⟩) := hval 1 135 (by kernel_rfl) rfl
      go_simp
      exact hK _ _ (kstep_grow (Below.refl _ _)) rfl
    refine steps_cons ?_ ?_
    · refine step_on3 rfl rfl ?_
      intro ev w5 hS hU hc hf hold hval a K ha hK
      replace hS : Keep (fun b => b = w.heap.size + 1) W w5 := ⟨hS.os, hS.tape, hS.output, hS.size, hS.block⟩
      clear hU
      have e136 : ev (.tmp 136) = .pointer (some ⟨g, 0, none⟩) := hval 2 136 (by kernel_rfl) rfl
      have c137 : w5.cell? ⟨g, 0, none⟩ = some (.pointer (some ⟨gp, 0, none⟩)) := ((hS.bk F.mod (fun h => absurd (show g = w.heap.size + 1 from h) (by have := F.gll; omega))).cell 0).trans rfl
      go_simp
      exact hK _ _ (kstep_grow (Below.refl _ _)) rfl
    refine steps_cons ?_ ?_
    · refine step_on3 rfl rfl ?_
      intro ev w5 hS hU hc hf hold hval a K ha hK
      replace hS : Keep (fun b => b = w.heap.size + 1) W w5 := ⟨hS.os, hS.tape, hS.output, hS.size, hS.block⟩
      clear hU
      have e3 : ev (.tmp 3) = .pointer (some ⟨w.heap.size, 0, none⟩) := hold 3 (by kernel_rfl)
      go_simp
      exact hK _ _ (kstep_grow (Below.refl _ _)) rfl
    refine steps_cons ?_ ?_
    · refine step_on3 rfl rfl ?_
      intro ev w5 hS hU hc hf hold hval a K ha hK
      replace hS : Keep (fun b => b = w.heap.size + 1) W w5 := ⟨hS.os, hS.tape, hS.output, hS.size, hS.block⟩
      clear hU
      have e138 : ev (.tmp 138) = .pointer (some ⟨w.heap.size, 3, none⟩) := hval 4 138 (by kernel_rfl) rfl
      have c139 : w5.cell? ⟨w.heap.size, 3, none⟩ = some (.slice AD nd cd) := ((hS.bk F.step (fun h => absurd (show w.heap.size = w.heap.size + 1 from h) (by omega))).cell 3).trans rfl
      go_simp
      exact hK _ _ (kstep_grow (Below.refl _ _)) rfl
    refine steps_cons ?_ ?_
    · refine step_on3 rfl rfl ?_
      intro ev w5 hS hU hc hf hold hval a K ha hK
      replace hS : Keep (fun b => b = w.heap.size + 1) W w5 := ⟨hS.os, hS.tape, hS.output, hS.size, hS.block⟩
      clear hU
      have e137 : ev (.tmp 137) = .pointer (some ⟨gp, 0, none⟩) := hval 3 137 (by kernel_rfl) rfl
      have e139 : ev (.tmp 139) = .slice AD nd cd := hval 5 139 (by kernel_rfl) rfl
      go_simp
      have hr5 := hS.rd F.rT F.low.size (fun b hb h => absurd (show b = w.heap.size + 1 from h) (by omega))
      have hd5 := hS.rd F.rD F.low.size (fun b hb h => absurd (show b = w.heap.size + 1 from h) (by omega))
      have hB5 := Nat.le_trans F.low.size hS.size
      have hb5 := hS.bk F.pl (fun h => absurd (show gp = w.heap.size + 1 from h) (by have := F.gpl; omega))
      refine (find_any gp A AD n c nd cd _ _ T D L N w5 hb5 hr5 hB5 hnc hd5 hB5 HL.out HN.out (by omega) (by omega)).mono ?_
      rintro e w8 ⟨A9, c9, rfl, hm9, hb9⟩
      exact hK _ _ (kstep_grow hb9) ⟨A9, c9, rfl, hm9.mono (by have := hS.size; have := F.res.lt; omega)⟩
    refine steps_cons ?_ ?_
    · refine step_on3 rfl rfl ?_
      intro ev w5 hS hU hc hf hold hval a K ha hK
      replace hS : Keep (fun b => b = w.heap.size + 1) W w5 := ⟨hS.os, hS.tape, hS.output, hS.size, hS.block⟩
      clear hU
      have p140 : (madeV (w.heap.size + 2) 3 1 N (L.map nv)) (ev (.tmp 140)) w5 := hval 6 140 (by kernel_rfl) rfl
      obtain ⟨A9, c9, e140, hm9⟩ := p140
      go_simp
      exact hK _ _ (kstep_grow (Below.refl _ _)) rfl
    refine steps_cons ?_ ?_
    · refine step_on3 rfl rfl ?_
      intro ev w5 hS hU hc hf hold hval a K ha hK
      replace hS : Keep (fun b => b = w.heap.size + 1) W w5 := ⟨hS.os, hS.tape, hS.output, hS.size, hS.block⟩
      clear hU
      have e141 : ev (.tmp 141) = .int .i64 (N : Int) := hval 7 141 (by kernel_rfl) rfl
      go_simp
      exact hK _ _ (kstep_grow (Below.refl _ _)) rfl
    refine steps_cons ?_ ?_
    · refine step_on3 rfl rfl ?_
      intro ev w5 hS hU hc hf hold hval a K ha hK
      replace hS : Keep (fun b => b = w.heap.size + 1) W w5 := ⟨hS.os, hS.tape, hS.output, hS.size, hS.block⟩
      have hpre := hU rfl
      clear hU
      have e4 : ev (.tmp 4) = .pointer (some ⟨w.heap.size + 1, 0, none⟩) := hold 4 (by kernel_rfl)
      have e142 : ev (.tmp 142) = .agg #[.int .i64 0, .int .i64 (N : Int), .slice none 0 0, .slice none 0 0] := hval 8 142 (by kernel_rfl) rfl
      have r0 : w5.cell? ⟨w.heap.size + 1, 0, none⟩ = some (.int .i64 0) := (hpre.cell 0).trans rfl
      have f0 := hpre.frozen 0
      have r1 : w5.cell? ⟨w.heap.size + 1, 1, none⟩ = some (.int .i64 0) := (hpre.cell 1).trans rfl
      have f1 := hpre.frozen 1
      have r2 : w5.cell? ⟨w.heap.size + 1, 2, none⟩ = some (.slice none 0 0) := (hpre.cell 2).trans rfl
      have f2 := hpre.frozen 2
      have r3 : w5.cell? ⟨w.heap.size + 1, 3, none⟩ = some (.slice none 0 0) := (hpre.cell 3).trans rfl
      have f3 := hpre.frozen 3
      go_simp
      exact hK (.bool true) _ (kstep_keep at_set) (res_set hpre)
    exact steps_nil
  · intro ev w6 hS hval hall
    replace hS : Keep (fun b => b = w.heap.size + 1) W w6 := ⟨hS.os, hS.tape, hS.output, hS.size, hS.block⟩
    obtain ⟨vJ, pJ⟩ : ∃ v, (fun _ w1 => Bk w1 (w.heap.size + 1) 41 #[.int .i64 0, .int .i64 (N : Int), .slice none 0 0, .slice none 0 0]) v w6 := hall 9 (by decide)
    simp only [putsOf, List.foldl_cons, List.foldl_nil, Act.put, List.setIfInBounds_toArray, List.set_cons_zero, List.set_cons_succ]
    clear hval hall
    go_wp2
    have hbl : Below w.heap.size w w6 := F.low.trans (hS.to_below F.low.size (fun b hb h => absurd (show b = w.heap.size + 1 from h) (by omega)))
    exact do_ret (A1 := none) (c1 := 0) (A2 := none) (c2 := 0) (.inl rfl) rfl pJ (Keep.of_below hbl) (made_nil _ _ _) (made_nil _ _ _) (Hp.out.keep hbl)
set_option maxRecDepth 100000 in
set_option maxHeartbeats 4000000 in
theorem Do_locate (g gp : Nat) (AD : Option Addr) (nd cd B : Nat) (p k : Int) (most : Int) (T D : List UInt8) (w : World) (hg : Bk w g 52 #[.pointer (some ⟨gp, 0, none⟩), .int .i64 most]) (hp : PlS w gp T)
    (hd : Rd w B 1 AD nd (D.map bv)) (hB : B ≤ w.heap.size) (hdne : 0 < nd → ∀ a, AD = some a → a.block ≠ gp) (hgne : g ≠ gp) (hT : T.length ≤ 549755813888) (hD : nd ≤ 549755813888) (hpb : -9223372036854775808 ≤ (p : Int) ∧ (p : Int) ≤ 9223372036854775807) (hkb : -9223372036854775808 ≤ (k : Int) ∧ (k : Int) ≤ 9223372036854775807) (hmb : 0 ≤ most ∧ most ≤ 2147483648)
     :
    Calls Tryz.prog 19 #[.pointer (some ⟨g, 0, none⟩), stepV 7 p k AD nd cd] w fun e w' => DoTold gp (T) ⟨0, ((findB T D).length : Int), [], findB T D⟩ w w' e := by
  have Hp := Lib.hid hp
  obtain ⟨A, c, hb, hr, hnc, hne⟩ := hp
  obtain ⟨n, hn⟩ : ∃ n, T.length = n := ⟨_, rfl⟩
  rw [hn] at hb hr hnc hT hne
  have hDl : D.length = nd := by simpa using hd.1
  have F := do_start (kind := 7) (p := p) (k := k) (cd := cd) hg hb hr hd hB hgne
  have HF := Lib.hid F
  have Hn := Lib.hid hn
  have Hne := Lib.hid hne
  have Hdne := Lib.hid hdne
  clear hb hr hd hg F hn hne hdne
  obtain ⟨L, hL⟩ : ∃ L, findB T D = L := ⟨_, rfl⟩
  obtain ⟨N, hN⟩ : ∃ N, L.length = N := ⟨_, rfl⟩
  rw [hL, hN]
  have HL := Lib.hid hL
  have HN := Lib.hid hN
  clear hL hN
  unfold stepV
  go_enter Tryz.func19, Tryz.ntmps19
  go_wp2
  obtain ⟨W, hW⟩ : ∃ W, (w.alloc (.cells #[.int .i64 7, .int .i64 p, .int .i64 k, .slice AD nd cd] 29)).alloc (.cells #[.int .i64 0, .int .i64 0, .slice none 0 0, .slice none 0 0] 41) = W := ⟨_, rfl⟩
  rw [hW] at HF ⊢
  have F := HF.out
  clear hW HF
  refine wp_region_any (by kernel_rfl) ?_
  refine wpAny_keep [145, 146, 147, 148, 149, 150, 151, 5] (fun _ => False) 7 [] (fun _ => True) (madeV (w.heap.size + 2) 3 1 N (L.map nv)) [is (.pointer (some ⟨g, 0, none⟩)), is (.pointer (some ⟨g, 0, none⟩)), is (.pointer (some ⟨g, 0, none⟩)), is (.pointer (some ⟨gp, 0, none⟩)), is (.pointer (some ⟨w.heap.size, 3, none⟩)), is (.slice AD nd cd), madeV (w.heap.size + 2) 3 1 N (L.map nv), anyV] _ _ rfl (by kernel_rfl) (by kernel_rfl) (trivial) (fun _ _ _ _ _ => trivial) (madeV_stb _ _ _ _ _) (by repeat' (first | exact stbk_is _ _ | exact stbk_any _ | exact stbk_made (fun b hb => hb.elim) _ _ _ _ | (refine List.forall_mem_cons.2 ⟨?_, ?_⟩) | (intro p hp; cases hp))) ?_ ?_
  · refine steps_of ?_
    refine steps_cons ?_ ?_
    · refine step_on3 rfl rfl ?_
      intro ev w5 hS hU hc hf hold hval a K ha hK
      replace hS : Keep (fun _ => False) W w5 := ⟨hS.os, hS.tape, hS.output, hS.size, hS.block⟩
      clear hU
      have e0 : ev (.tmp 0) = .pointer (some ⟨g, 0, none⟩) := hold 0 (by kernel_rfl)
      go_simp
      exact hK _ _ (kstep_grow (Below.refl _ _)) rfl
    refine steps_cons ?_ ?_
    · refine step_on3 rfl rfl ?_
      intro ev w5 hS hU hc hf hold hval a K ha hK
      replace hS : Keep (fun _ => False) W w5 := ⟨hS.os, hS.tape, hS.output, hS.size, hS.block⟩
      clear hU
      have e145 : ev (.tmp 145) = .pointer (some ⟨g, 0, none⟩) := hval 0 145 (by kernel_rfl) rfl
      go_simp
      exact hK _ _ (kstep_grow (Below.refl _ _)) rfl
    refine steps_cons ?_ ?_
    · refine step_on3 rfl rfl ?_
      intro ev w5 hS hU hc hf hold hval a K ha hK
      replace hS : Keep (fun _ => False) W w5 := ⟨hS.os, hS.tape, hS.output, hS.size, hS.block⟩
      clear hU
      have e146 : ev (.tmp 146) = .pointer (some ⟨g, 0, none⟩) := hval 1 146 (by kernel_rfl) rfl
      go_simp
      exact hK _ _ (kstep_grow (Below.refl _ _)) rfl
    refine steps_cons ?_ ?_
    · refine step_on3 rfl rfl ?_
      intro ev w5 hS hU hc hf hold hval a K ha hK
      replace hS : Keep (fun _ => False) W w5 := ⟨hS.os, hS.tape, hS.output, hS.size, hS.block⟩
      clear hU
      have e147 : ev (.tmp 147) = .pointer (some ⟨g, 0, none⟩) := hval 2 147 (by kernel_rfl) rfl
      have c148 : w5.cell? ⟨g, 0, none⟩ = some (.pointer (some ⟨gp, 0, none⟩)) := ((hS.bk F.mod (fun h => h)).cell 0).trans rfl
      go_simp
      exact hK _ _ (kstep_grow (Below.refl _ _)) rfl
    refine steps_cons ?_ ?_
    · refine step_on3 rfl rfl ?_
      intro ev w5 hS hU hc hf hold hval a K ha hK
      replace hS : Keep (fun _ => False) W w5 := ⟨hS.os, hS.tape, hS.output, hS.size, hS.block⟩
      clear hU
      have e3 : ev (.tmp 3) = .pointer (some ⟨w.heap.size, 0, none⟩) := hold 3 (by kernel_rfl)
      go_simp
      exact hK _ _ (kstep_grow (Below.refl _ _)) rfl
    refine steps_cons ?_ ?_
    · refine step_on3 rfl rfl ?_
      intro ev w5 hS hU hc hf hold hval a K ha hK
      replace hS : Keep (fun _ => False) W w5 := ⟨hS.os, hS.tape, hS.output, hS.size, hS.block⟩
      clear hU
      have e149 : ev (.tmp 149) = .pointer (some ⟨w.heap.size, 3, none⟩) := hval 4 149 (by kernel_rfl) rfl
      have c150 : w5.cell? ⟨w.heap.size, 3, none⟩ = some (.slice AD nd cd) := ((hS.bk F.step (fun h => h)).cell 3).trans rfl
      go_simp
      exact hK _ _ (kstep_grow (Below.refl _ _)) rfl
    refine steps_cons ?_ ?_
    · refine step_on3 rfl rfl ?_
      intro ev w5 hS hU hc hf hold hval a K ha hK
      replace hS : Keep (fun _ => False) W w5 := ⟨hS.os, hS.tape, hS.output, hS.size, hS.block⟩
      clear hU
      have e148 : ev (.tmp 148) = .pointer (some ⟨gp, 0, none⟩) := hval 3 148 (by kernel_rfl) rfl
      have e150 : ev (.tmp 150) = .slice AD nd cd := hval 5 150 (by kernel_rfl) rfl
      go_simp
      have hr5 := hS.rd F.rT F.low.size (fun b hb h => h)
      have hd5 := hS.rd F.rD F.low.size (fun b hb h => h)
      have hB5 := Nat.le_trans F.low.size hS.size
      have hb5 := hS.bk F.pl (fun h => h)
      refine (find_any gp A AD n c nd cd _ _ T D L N w5 hb5 hr5 hB5 hnc hd5 hB5 HL.out HN.out (by omega) (by omega)).mono ?_
      rintro e w8 ⟨A9, c9, rfl, hm9, hb9⟩
      exact hK _ _ (kstep_grow hb9) ⟨A9, c9, rfl, hm9.mono (by have := hS.size; have := F.res.lt; omega)⟩
    refine steps_cons ?_ ?_
    · refine step_on3 rfl rfl ?_
      intro ev w5 hS hU hc hf hold hval a K ha hK
      replace hS : Keep (fun _ => False) W w5 := ⟨hS.os, hS.tape, hS.output, hS.size, hS.block⟩
      clear hU
      have p151 : (madeV (w.heap.size + 2) 3 1 N (L.map nv)) (ev (.tmp 151)) w5 := hval 6 151 (by kernel_rfl) rfl
      obtain ⟨A9, c9, e151, hm9⟩ := p151
      go_simp
      exact hK _ _ (kstep_grow (Below.refl _ _)) ⟨A9, c9, rfl, hm9⟩
    exact steps_nil
  · intro ev w6 hS hval hall
    replace hS : Keep (fun _ => False) W w6 := ⟨hS.os, hS.tape, hS.output, hS.size, hS.block⟩
    have p5 : (madeV (w.heap.size + 2) 3 1 N (L.map nv)) (ev (.tmp 5)) w6 := hval 7 5 rfl
    obtain ⟨vJ, pJ⟩ : ∃ v, (madeV (w.heap.size + 2) 3 1 N (L.map nv)) v w6 := hall 7 (by decide)
    simp only [putsOf, List.foldl_cons, List.foldl_nil, Act.put, List.setIfInBounds_toArray, List.set_cons_zero, List.set_cons_succ]
    clear hval hall
    obtain ⟨A9, c9, e5, hm9⟩ := p5
    rw [e5]
    have hbl : Below w.heap.size w w6 := F.low.trans (hS.to_below F.low.size (fun b hb h => h))
    have hres : Bk w6 (w.heap.size + 1) 41 #[.int .i64 0, .int .i64 0, .slice none 0 0, .slice none 0 0] := hS.bk F.res (fun h => h)
    have r0 : w6.cell? ⟨w.heap.size + 1, 0, none⟩ = some (.int .i64 0) := (hres.cell 0).trans rfl
    have f0 := hres.frozen 0
    have r1 : w6.cell? ⟨w.heap.size + 1, 1, none⟩ = some (.int .i64 0) := (hres.cell 1).trans rfl
    have f1 := hres.frozen 1
    have r2 : w6.cell? ⟨w.heap.size + 1, 2, none⟩ = some (.slice none 0 0) := (hres.cell 2).trans rfl
    have f2 := hres.frozen 2
    have r3 : w6.cell? ⟨w.heap.size + 1, 3, none⟩ = some (.slice none 0 0) := (hres.cell 3).trans rfl
    have f3 := hres.frozen 3
    go_wp2
    have hbl2 := grow_set (v0 := .int .i64 0) (v1 := .int .i64 (N : Int)) (v2 := .slice none 0 0) (v3 := .slice A9 N c9) (Nat.le_succ w.heap.size) hbl
    rw [← HN.out] at *
    exact do_ret (s := w.heap.size + 1) (A1 := none) (c1 := 0) (A2 := A9) (c2 := c9) (.inl rfl) rfl (res_set hres) (Keep.of_below hbl2) (made_nil _ _ _) ((hm9.keepF at_set (fun b hb => by subst hb; omega)).mono (by omega)) (Hp.out.keep hbl2)
end Go.Proofs.YtnileogagoipiaaGreatDoor
namespace Go.Proofs.YtnileogagoipiaaGreatDoor
open Go.RowKit
set_option linter.unusedVariables false
set_option linter.unusedSimpArgs false
set_option maxRecDepth 100000 in
set_option maxHeartbeats 4000000 in
theorem Do_reload (g gp : Nat) (AD : Option Addr) (nd cd : Nat) (p k most : Int) (T : List UInt8) (w : World) (hg : Bk w g 52 #[.pointer (some ⟨gp, 0, none⟩), .int .i64 most]) (hp : PlS w gp T) :
    Calls Tryz.prog 19 #[.pointer (some ⟨g, 0, none⟩), stepV 8 p k AD nd cd] w fun e w' => DoTold gp T ⟨0, 0, [], []⟩ w w' e := by
  unfold stepV
  go_enter Tryz.func19, Tryz.ntmps19
  go_wp2
  have hb := ((Below.refl w.heap.size w).alloc (Nat.le_refl _) (.cells #[.int .i64 8, .int .i64 p, .int .i64 k, .slice AD nd cd] 29)).alloc (by simp) (.cells #[.int .i64 0, .int .i64 0, .slice none 0 0, .slice none 0 0] 41)
  have hbk : Bk ((w.alloc (.cells #[.int .i64 8, .int .i64 p, .int .i64 k, .slice AD nd cd] 29)).alloc (.cells #[.int .i64 0, .int .i64 0, .slice none 0 0, .slice none 0 0] 41)) (w.heap.size + 1) 41 #[.int .i64 0, .int .i64 0, .slice none 0 0, .slice none 0 0] := by simpa using Bk.new (w.alloc (.cells #[.int .i64 8, .int .i64 p, .int .i64 k, .slice AD nd cd] 29)) 41 #[.int .i64 0, .int .i64 0, .slice none 0 0, .slice none 0 0]
  exact do_ret (s := w.heap.size + 1) (A1 := none) (c1 := 0) (A2 := none) (c2 := 0) (.inl rfl) rfl hbk (Keep.of_below hb) (made_nil _ _ _) (made_nil _ _ _) (hp.keep hb)
set_option maxRecDepth 100000 in
set_option maxHeartbeats 4000000 in
theorem Do_len (g gp : Nat) (AD : Option Addr) (nd cd : Nat) (p k most : Int) (T : List UInt8) (w : World) (hg : Bk w g 52 #[.pointer (some ⟨gp, 0, none⟩), .int .i64 most]) (hp : PlS w gp T) (hT : T.length ≤ 549755813888) :
    Calls Tryz.prog 19 #[.pointer (some ⟨g, 0, none⟩), stepV 4 p k AD nd cd] w fun e w' => DoTold gp T ⟨0, (T.length : Int), [], []⟩ w w' e := by
  have Hp := Lib.hid hp
  obtain ⟨A, c, hb, hr, hnc, hne⟩ := hp
  obtain ⟨n, hn⟩ : ∃ n, T.length = n := ⟨_, rfl⟩
  rw [hn] at hb hT ⊢
  have hgl := hg.lt
  have hpl := hb.lt
  have c1 : w.cell? ⟨g, 0, none⟩ = some (.pointer (some ⟨gp, 0, none⟩)) := (hg.cell 0).trans rfl
  have c2 : w.cell? ⟨gp, 0, none⟩ = some (.slice A n c) := (hb.cell 0).trans rfl
  clear hb hr hne hn hg
  unfold stepV
  go_enter Tryz.func19, Tryz.ntmps19
  go_wp2
  have hb := ((Below.refl w.heap.size w).alloc (Nat.le_refl _) (.cells #[.int .i64 4, .int .i64 p, .int .i64 k, .slice AD nd cd] 29)).alloc (by simp) (.cells #[.int .i64 0, .int .i64 (n : Int), .slice none 0 0, .slice none 0 0] 41)
  have hbk : Bk ((w.alloc (.cells #[.int .i64 4, .int .i64 p, .int .i64 k, .slice AD nd cd] 29)).alloc (.cells #[.int .i64 0, .int .i64 (n : Int), .slice none 0 0, .slice none 0 0] 41)) (w.heap.size + 1) 41 #[.int .i64 0, .int .i64 (n : Int), .slice none 0 0, .slice none 0 0] := by simpa using Bk.new (w.alloc (.cells #[.int .i64 4, .int .i64 p, .int .i64 k, .slice AD nd cd] 29)) 41 #[.int .i64 0, .int .i64 (n : Int), .slice none 0 0, .slice none 0 0]
  exact do_ret (s := w.heap.size + 1) (A1 := none) (c1 := 0) (A2 := none) (c2 := 0) (.inl rfl) rfl hbk (Keep.of_below hb) (made_nil _ _ _) (made_nil _ _ _) (Hp.out.keep hb)
set_option maxRecDepth 100000 in
set_option maxHeartbeats 4000000 in
theorem Do_other (g gp : Nat) (AD : Option Addr) (nd cd : Nat) (kind p k most : Int) (T : List UInt8) (w : World) (hg : Bk w g 52 #[.pointer (some ⟨gp, 0, none⟩), .int .i64 most]) (hp : PlS w gp T) (hk : kind < 1 ∨ 8 < kind) :
    Calls Tryz.prog 19 #[.pointer (some ⟨g, 0, none⟩), stepV kind p k AD nd cd] w fun e w' => DoTold gp T ⟨1, 0, [], []⟩ w w' e := by
  unfold stepV
  have t1 : (kind == 1) = false := by rw [beq_eq_false_iff_ne]; omega
  have t2 : (kind == 2) = false := by rw [beq_eq_false_iff_ne]; omega
  have t3 : (kind == 3) = false := by rw [beq_eq_false_iff_ne]; omega
  have t4 : (kind == 4) = false := by rw [beq_eq_false_iff_ne]; omega
  have t5 : (kind == 5) = false := by rw [beq_eq_false_iff_ne]; omega
  have t6 : (kind == 6) = false := by rw [beq_eq_false_iff_ne]; omega
  have t7 : (kind == 7) = false := by rw [beq_eq_false_iff_ne]; omega
  have t8 : (kind == 8) = false := by rw [beq_eq_false_iff_ne]; omega
  clear hk
  go_enter Tryz.func19, Tryz.ntmps19
  go_wp2
  have hb := ((Below.refl w.heap.size w).alloc (Nat.le_refl _) (.cells #[.int .i64 kind, .int .i64 p, .int .i64 k, .slice AD nd cd] 29)).alloc (by simp) (.cells #[.int .i64 1, .int .i64 0, .slice none 0 0, .slice none 0 0] 41)
  have hbk : Bk ((w.alloc (.cells #[.int .i64 kind, .int .i64 p, .int .i64 k, .slice AD nd cd] 29)).alloc (.cells #[.int .i64 1, .int .i64 0, .slice none 0 0, .slice none 0 0] 41)) (w.heap.size + 1) 41 #[.int .i64 1, .int .i64 0, .slice none 0 0, .slice none 0 0] := by simpa using Bk.new (w.alloc (.cells #[.int .i64 kind, .int .i64 p, .int .i64 k, .slice AD nd cd] 29)) 41 #[.int .i64 1, .int .i64 0, .slice none 0 0, .slice none 0 0]
  exact do_ret (s := w.heap.size + 1) (A1 := none) (c1 := 0) (A2 := none) (c2 := 0) (.inl rfl) rfl hbk (Keep.of_below hb) (made_nil _ _ _) (made_nil _ _ _) (hp.keep hb)
set_option maxRecDepth 100000 in
set_option maxHeartbeats 4000000 in
theorem Do_nil (AD : Option Addr) (nd cd : Nat) (kind p k : Int) (w : World) :
    Calls Tryz.prog 19 #[.pointer none, stepV kind p k AD nd cd] w fun e w' => e = .returned (.agg #[.int .i64 6, .int .i64 0, .slice none 0 0, .slice none 0 0]) ∧ Below w.heap.size w w' := by
  unfold stepV
  go_enter Tryz.func19, Tryz.ntmps19
  go_wp2
  have hb := ((Below.refl w.heap.size w).alloc (Nat.le_refl _) (.cells #[.int .i64 kind, .int .i64 p, .int .i64 k, .slice AD nd cd] 29)).alloc (by simp) (.cells #[.int .i64 6, .int .i64 0, .slice none 0 0, .slice none 0 0] 41)
  have hbk : Bk ((w.alloc (.cells #[.int .i64 kind, .int .i64 p, .int .i64 k, .slice AD nd cd] 29)).alloc (.cells #[.int .i64 6, .int .i64 0, .slice none 0 0, .slice none 0 0] 41)) (w.heap.size + 1) 41 #[.int .i64 6, .int .i64 0, .slice none 0 0, .slice none 0 0] := by simpa using Bk.new (w.alloc (.cells #[.int .i64 kind, .int .i64 p, .int .i64 k, .slice AD nd cd] 29)) 41 #[.int .i64 6, .int .i64 0, .slice none 0 0, .slice none 0 0]
  exact bodyPost_ret (results_cell_row (p := 4) (ty := 41) rfl _ _ (w.heap.size + 1) 41 #[.int .i64 6, .int .i64 0, .slice none 0 0, .slice none 0 0] (0, 0) _ rfl hbk Tryz.underlying41 rfl (by kernel_rfl)) rfl ⟨rfl, hb⟩
/-- What a step does to a text, and tells. -/
def doM (T : List UInt8) (most kind p k : Int) (D : List UInt8) : List UInt8 × Told :=
  if kind = 1 then
    if hasB T.length p 0 = false then (T, ⟨2, 0, [], []⟩) else if most - (T.length : Int) < (D.length : Int) then (T, ⟨3, 0, [], []⟩) else (T.take p.toNat ++ (D ++ T.drop p.toNat), ⟨0, 0, [], []⟩)
  else if kind = 2 then
    if hasB T.length p k = false then (T, ⟨2, 0, [], []⟩) else (T.take p.toNat ++ T.drop (p.toNat + k.toNat), ⟨0, 0, [], []⟩)
  else if kind = 5 then
    if hasB T.length p k = false then (T, ⟨2, 0, [], []⟩) else (T, ⟨0, 0, (T.drop p.toNat).take k.toNat, []⟩)
  else if kind = 3 then
    if hasB T.length p (D.length : Int) = false then (T, ⟨2, 0, [], []⟩) else (T.take p.toNat ++ (D ++ T.drop (p.toNat + D.length)), ⟨0, 0, [], []⟩)
  else if kind = 4 then (T, ⟨0, (T.length : Int), [], []⟩)
  else if kind = 6 then (T, ⟨0, ((findB T D).length : Int), [], []⟩)
  else if kind = 7 then (T, ⟨0, ((findB T D).length : Int), [], findB T D⟩)
  else if kind = 8 then (T, ⟨0, 0, [], []⟩)
  else (T, ⟨1, 0, [], []⟩)
theorem has_nat {n : Nat} {p k : Int} (h : hasB n p k = true) : ∃ a b : Nat, p = (a : Int) ∧ k = (b : Int) ∧ a + b ≤ n := by
  unfold hasB at h
  have := of_decide_eq_true h
  exact ⟨p.toNat, k.toNat, by omega, by omega, by omega⟩
theorem Do_any (g gp : Nat) (AD : Option Addr) (nd cd B : Nat) (kind p k most : Int) (T D : List UInt8) (T2 : List UInt8) (r : Told) (h2 : doM T most kind p k D = (T2, r)) (w : World) (hg : Bk w g 52 #[.pointer (some ⟨gp, 0, none⟩), .int .i64 most]) (hp : PlS w gp T)
    (hd : Rd w B 1 AD nd (D.map bv)) (hB : B ≤ w.heap.size) (hdne : 0 < nd → ∀ a, AD = some a → a.block ≠ gp) (hgne : g ≠ gp) (hT : T.length ≤ 549755813888) (hD : nd ≤ 549755813888) (hpb : -9223372036854775808 ≤ p ∧ p ≤ 9223372036854775807) (hkb : -9223372036854775808 ≤ k ∧ k ≤ 9223372036854775807) (hmb : 0 ≤ most ∧ most ≤ 2147483648) :
    Calls Tryz.prog 19 #[.pointer (some ⟨g, 0, none⟩), stepV kind p k AD nd cd] w fun e w' => DoTold gp T2 r w w' e := by
  have hDl : D.length = nd := by simpa using hd.1
  unfold doM at h2
  by_cases k1 : kind = 1
  · subst k1
    rw [if_pos rfl] at h2
    cases hh : hasB T.length p 0 with
    | false =>
      rw [if_pos hh] at h2
      cases h2
      exact Do_ins_range g gp AD nd cd B p k most T D w hg hp hd hB hdne hgne hT hD hpb hkb hmb hh
    | true =>
      rw [if_neg (by rw [hh]; decide)] at h2
      by_cases hf : most - (T.length : Int) < (D.length : Int)
      · rw [if_pos hf] at h2
        cases h2
        exact Do_ins_full g gp AD nd cd B p k most T D w hg hp hd hB hdne hgne hT hD hpb hkb hmb hh (by rw [← hDl]; exact hf)
      · rw [if_neg hf] at h2
        cases h2
        obtain ⟨a, b, rfl, hb, hab⟩ := has_nat hh
        exact Do_ins_ok g gp AD nd cd B a k most T D w hg hp hd hB hdne hgne hT hD hpb hkb hmb hh (by rw [← hDl]; omega)
  rw [if_neg k1] at h2
  by_cases k2 : kind = 2
  · subst k2
    rw [if_pos rfl] at h2
    cases hh : hasB T.length p k with
    | false =>
      rw [if_pos hh] at h2
      cases h2
      exact Do_del_range g gp AD nd cd B p k most T D w hg hp hd hB hdne hgne hT hD hpb hkb hmb hh
    | true =>
      rw [if_neg (by rw [hh]; decide)] at h2
      cases h2
      obtain ⟨a, b, rfl, rfl, hab⟩ := has_nat hh
      exact Do_del_ok g gp AD nd cd B a b most T D w hg hp hd hB hdne hgne hT hD hpb hkb hmb hh
  rw [if_neg k2] at h2
  by_cases k5 : kind = 5
  · subst k5
    rw [if_pos rfl] at h2
    cases hh : hasB T.length p k with
    | false =>
      rw [if_pos hh] at h2
      cases h2
      exact Do_take_range g gp AD nd cd B p k most T D w hg hp hd hB hdne hgne hT hD hpb hkb hmb hh
    | true =>
      rw [if_neg (by rw [hh]; decide)] at h2
      cases h2
      obtain ⟨a, b, rfl, rfl, hab⟩ := has_nat hh
      exact Do_take_ok g gp AD nd cd B a b most T D w hg hp hd hB hdne hgne hT hD hpb hkb hmb hh
  rw [if_neg k5] at h2
  by_cases k3 : kind = 3
  · subst k3
    rw [if_pos rfl] at h2
    rw [hDl] at h2
    cases hh : hasB T.length p nd with
    | false =>
      rw [if_pos hh] at h2
      cases h2
      exact Do_set_range g gp AD nd cd B p k most T D w hg hp hd hB hdne hgne hT hD hpb hkb hmb hh
    | true =>
      rw [if_neg (by rw [hh]; decide)] at h2
      cases h2
      obtain ⟨a, b, rfl, hb, hab⟩ := has_nat hh
      exact Do_set_ok g gp AD nd cd B a k most T D w hg hp hd hB hdne hgne hT hD hpb hkb hmb hh
  rw [if_neg k3] at h2
  by_cases k4 : kind = 4
  · subst k4
    rw [if_pos rfl] at h2
    cases h2
    exact Do_len g gp AD nd cd p k most T w hg hp hT
  rw [if_neg k4] at h2
  by_cases k6 : kind = 6
  · subst k6
    rw [if_pos rfl] at h2
    cases h2
    exact Do_count g gp AD nd cd B p k most T D w hg hp hd hB hdne hgne hT hD hpb hkb hmb
  rw [if_neg k6] at h2
  by_cases k7 : kind = 7
  · subst k7
    rw [if_pos rfl] at h2
    cases h2
    exact Do_locate g gp AD nd cd B p k most T D w hg hp hd hB hdne hgne hT hD hpb hkb hmb
  rw [if_neg k7] at h2
  by_cases k8 : kind = 8
  · subst k8
    rw [if_pos rfl] at h2
    cases h2
    exact Do_reload g gp AD nd cd p k most T w hg hp
  rw [if_neg k8] at h2
  cases h2
  exact Do_other g gp AD nd cd kind p k most T w hg hp (by omega)
end Go.Proofs.YtnileogagoipiaaGreatDoor
namespace Go.Proofs.YtnileogagoipiaaGreatDoor
open Go.RowKit
set_option linter.unusedVariables false
set_option linter.unusedSimpArgs false
theorem mo_nv_inj {a b : Nat} (h : a ≠ b) : ((a : Int) == (b : Int)) = false := by rw [beq_eq_false_iff_ne]; omega
theorem mo_take_ext {L1 L2 : List Nat} {k n : Nat} (h1 : L1.length = n) (h2 : L2.length = n) (h : L1.take k = L2.take k) (hk : n ≤ k) : L1 = L2 := by
  rw [List.take_of_length_le (by omega), List.take_of_length_le (by omega)] at h
  exact h
set_option maxRecDepth 100000 in
set_option maxHeartbeats 1000000 in
theorem SEqual_any (A1 A2 : Option Addr) (n1 c1 n2 c2 B1 B2 : Nat) (L1 L2 : List Nat) (w : World) (h1 : Rd w B1 1 A1 n1 (L1.map nv)) (h2 : Rd w B2 1 A2 n2 (L2.map nv)) (hn : n1 ≤ 1099511627776) (hn2 : n2 ≤ 1099511627776) :
    Calls Tryz.prog 21 #[.slice A1 n1 c1, .slice A2 n2 c2] w fun e w' => e = .returned (.bool (decide (L1 = L2))) ∧ Below w.heap.size w w' := by
  have l1 : L1.length = n1 := by simpa using h1.1
  have l2 : L2.length = n2 := by simpa using h2.1
  have H1 := Lib.hid h1
  have H2 := Lib.hid h2
  have HL1 := Lib.hid l1
  have HL2 := Lib.hid l2
  clear h1 h2 l1 l2
  by_cases hne : n1 = n2
  · subst hne
    go_enter Tryz.func21, Tryz.ntmps21
    go_wp2
    go_loopw [13] (fun i wr => ∃ k : Nat, k ≤ n1 ∧ i = .int .i64 k ∧ L1.take k = L2.take k ∧ ∃ m, wr = w.drewN m) (fun i _ => n1 - (intOf i).toNat)
    case atStart => exact ⟨0, Nat.zero_le _, rfl, rfl, 0, rfl⟩
    case round =>
      obtain ⟨k, hk, rfl, hpre, mm, rfl⟩ := hrel
      by_cases hlt : k < n1
      · obtain ⟨x, hx⟩ : ∃ x, L1[k]? = some x := ⟨L1[k]'(by have := HL1.out; omega), List.getElem?_eq_getElem (by have := HL1.out; omega)⟩
        obtain ⟨y, hy⟩ : ∃ y, L2[k]? = some y := ⟨L2[k]'(by have := HL2.out; omega), List.getElem?_eq_getElem (by have := HL2.out; omega)⟩
        obtain ⟨b1, o1, u1, rfl, hb1, hu1, d1⟩ := H1.out.get hlt
        obtain ⟨b2, o2, u2, rfl, hb2, hu2, d2⟩ := H2.out.get hlt
        rw [List.getElem?_map, hx] at hu1
        rw [List.getElem?_map, hy] at hu2
        simp only [Option.map_some, Option.some.injEq] at hu1 hu2
        subst hu1
        subst hu2
        unfold nv iv at d1 d2
        have Hpre := Lib.hid hpre
        have Hx := Lib.hid hx
        have Hy := Lib.hid hy
        clear hpre hx hy
        by_cases hxy : x = y
        · subst hxy
          go_wp2
          go_quiet (fail)
          go_wp2
          go_roundw
          case rel =>
            refine ⟨k + 1, by omega, by go_num, ?_, _, rfl⟩
            rw [List.take_add_one, List.take_add_one, Hpre.out, Hx.out, Hy.out]
          case measure => simp [intOf]; omega
        · have t := mo_nv_inj hxy
          have hfin : L1 ≠ L2 := fun h => hxy (by
            have a := Hx.out
            rw [h, Hy.out] at a
            injection a with a
            exact a.symm)
          have Hfin := Lib.hid hfin
          clear hfin
          go_wp2
          go_quiet (fail)
          go_wp2
          go_ret
          exact ⟨ret_bool (by rw [decide_eq_false Hfin.out]), below_drewN (below_drewN (Below.refl _ _) _) _⟩
      · have hge : n1 ≤ k := by omega
        have hfin := Lib.hid (mo_take_ext HL1.out HL2.out hpre hge)
        clear hpre
        go_wp2
        go_ret
        exact ⟨ret_bool (by rw [decide_eq_true hfin.out]), below_drewN (Below.refl _ _) _⟩
  · have hfin : L1 ≠ L2 := fun h => hne (by rw [← HL1.out, ← HL2.out, h])
    have Hfin := Lib.hid hfin
    have t := mo_nv_inj hne
    clear hfin
    go_enter Tryz.func21, Tryz.ntmps21
    go_wp2
    go_ret
    exact ⟨ret_bool (by rw [decide_eq_false Hfin.out]), Below.refl _ _⟩
set_option maxRecDepth 100000 in
set_option maxHeartbeats 2000000 in
theorem Same_any (k1 k2 m1 m2 : Int) (A1 A2 A3 A4 : Option Addr) (n1 c1 n2 c2 n3 c3 n4 c4 B1 B2 B3 B4 : Nat) (X1 X2 : List UInt8) (L1 L2 : List Nat) (w : World) (h1 : Rd w B1 1 A1 n1 (X1.map bv)) (h2 : Rd w B2 1 A2 n2 (X2.map bv)) (h3 : Rd w B3 1 A3 n3 (L1.map nv)) (h4 : Rd w B4 1 A4 n4 (L2.map nv))
    (b1 : B1 ≤ w.heap.size) (b2 : B2 ≤ w.heap.size) (b3 : B3 ≤ w.heap.size) (b4 : B4 ≤ w.heap.size) (hn3 : n3 ≤ 1099511627776) (hn4 : n4 ≤ 1099511627776) :
    Calls Tryz.prog 13 #[.agg #[.int .i64 k1, .int .i64 m1, .slice A1 n1 c1, .slice A3 n3 c3], .agg #[.int .i64 k2, .int .i64 m2, .slice A2 n2 c2, .slice A4 n4 c4]] w fun e w' => e = .returned (.bool (decide (k1 = k2 ∧ m1 = m2 ∧ X1 = X2 ∧ L1 = L2))) ∧ Below w.heap.size w w' := by
  have hbl : ∀ o1 o2, Below w.heap.size w ((w.alloc o1).alloc o2) := fun o1 o2 => ((Below.refl w.heap.size w).alloc (Nat.le_refl _) o1).alloc (by simp) o2
  have H1 := Lib.hid (h1.mono b1)
  have H2 := Lib.hid (h2.mono b2)
  have H3 := Lib.hid (h3.mono b3)
  have H4 := Lib.hid (h4.mono b4)
  clear h1 h2 h3 h4 b1 b2 b3 b4
  by_cases hk : k1 = k2
  · by_cases hm : m1 = m2
    · by_cases hX : X1 = X2
      · have t1 : (k1 == k2) = true := by rw [beq_iff_eq]; exact hk
        have t2 : (m1 == m2) = true := by rw [beq_iff_eq]; exact hm
        have Hfin := Lib.hid (And.intro hk (And.intro hm hX))
        clear hk hm hX
        go_enter Tryz.func13, Tryz.ntmps13
        go_wp2_with fail
        refine (BEqual_any _ _ _ _ _ _ _ _ X1 X2 _ (H1.out.below (hbl _ _)) (H2.out.below (hbl _ _))).mono ?_
        rintro e w' ⟨rfl, rfl⟩
        rw [decide_eq_true Hfin.out.2.2]
        go_wp2_with fail
        refine (SEqual_any _ _ _ _ _ _ _ _ L1 L2 _ (H3.out.below (hbl _ _)) (H4.out.below (hbl _ _)) hn3 hn4).mono ?_
        rintro e w' ⟨rfl, hb'⟩
        have hB := (hbl _ _).trans (hb'.mono (hbl _ _).size)
        clear hb'
        go_wp2_with fail
        go_ret
        exact ⟨ret_bool (by simp [Hfin.out.1, Hfin.out.2.1, Hfin.out.2.2]), hB⟩
      · have t1 : (k1 == k2) = true := by rw [beq_iff_eq]; exact hk
        have t2 : (m1 == m2) = true := by rw [beq_iff_eq]; exact hm
        have Hfin := Lib.hid hX
        clear hk hm hX
        go_enter Tryz.func13, Tryz.ntmps13
        go_wp2_with fail
        refine (BEqual_any _ _ _ _ _ _ _ _ X1 X2 _ (H1.out.below (hbl _ _)) (H2.out.below (hbl _ _))).mono ?_
        rintro e w' ⟨rfl, rfl⟩
        rw [decide_eq_false Hfin.out]
        go_wp2_with fail
        go_ret
        exact ⟨ret_bool (by simp [Hfin.out]), hbl _ _⟩
    · have t1 : (k1 == k2) = true := by rw [beq_iff_eq]; exact hk
      have t2 : (m1 == m2) = false := by rw [beq_eq_false_iff_ne]; exact hm
      have Hfin := Lib.hid hm
      clear hk hm
      go_enter Tryz.func13, Tryz.ntmps13
      go_wp2_with fail
      go_ret
      exact ⟨ret_bool (by simp [Hfin.out]), hbl _ _⟩
  · have t1 : (k1 == k2) = false := by rw [beq_eq_false_iff_ne]; exact hk
    have Hfin := Lib.hid hk
    clear hk
    go_enter Tryz.func13, Tryz.ntmps13
    go_wp2_with fail
    go_ret
    exact ⟨ret_bool (by simp [Hfin.out]), hbl _ _⟩
end Go.Proofs.YtnileogagoipiaaGreatDoor
namespace Go.Proofs.YtnileogagoipiaaGreatDoor
open Go.RowKit
set_option linter.unusedVariables false
set_option linter.unusedSimpArgs false
/-- The code of an answer, out of its value. -/
theorem run_code (code num : Int) (v2 v3 : Value) (w : World) : (Instr.field 41 (.agg #[.int .i64 code, .int .i64 num, v2, v3]) 0).run Tryz.prog w = .ok (.int .i64 code) w := by kernel_rfl
/-- Since w0 a model has been made: it is T, and may be so long. -/
structure MS (w0 w : World) (g gp : Nat) (T : List UInt8) (most : Int) : Prop where
  low : Below w0.heap.size w0 w
  g0 : w0.heap.size ≤ g
  gp0 : w0.heap.size ≤ gp
  ne : g ≠ gp
  mod : Bk w g 52 #[.pointer (some ⟨gp, 0, none⟩), .int .i64 most]
  pl : PlS w gp T
section
variable {w0 w w' : World} {g gp : Nat} {T : List UInt8} {most : Int}
theorem MS.grow (M : MS w0 w g gp T most) (h : Below w.heap.size w w') : MS w0 w' g gp T most := ⟨M.low.trans (Below.mono h M.low.size), M.g0, M.gp0, M.ne, M.mod.below h M.mod.lt, M.pl.keep h⟩
theorem MS.alloc (M : MS w0 w g gp T most) (o : Obj) : MS w0 (w.alloc o) g gp T most := M.grow ((Below.refl _ _).alloc (Nat.le_refl _) o)
theorem MS.size (M : MS w0 w g gp T most) : w0.heap.size ≤ w.heap.size := M.low.size
theorem MS.pls (M : MS w0 w g gp T most) : ∃ A c, Bk w gp 50 #[.slice A T.length c] ∧ Rd w w.heap.size 1 A T.length (T.map bv) := by
  obtain ⟨A, c, h1, h2, _⟩ := M.pl
  exact ⟨A, c, h1, h2⟩
theorem PlS.lt (h : PlS w gp T) : gp < w.heap.size := by
  obtain ⟨A, c, h1, _⟩ := h
  exact h1.lt
theorem ms_new {e : Ending} (w0 w w' : World) (most : Int) (hl : Below w0.heap.size w0 w) (h : NewTold most w w' e) : ∃ g gp, e = .returned (.tuple #[.pointer (some ⟨g, 0, none⟩), .int .i64 0]) ∧ MS w0 w' g gp [] most ∧ w.heap.size ≤ g ∧ w.heap.size ≤ gp := by
  obtain ⟨g, gp, he, hb, hg, hgp, hne, h1, h2⟩ := h
  have := hl.size
  exact ⟨g, gp, he, ⟨hl.trans (hb.mono hl.size), by omega, by omega, hne, h1, none, 0, h2, Rd.nil _ _ _ _, Nat.le_refl _, fun _ a ha => by cases ha⟩, hg, hgp⟩
/-- What a step of such a model tells. -/
structure Ans (w0 w w' : World) (g gp : Nat) (T2 : List UInt8) (most : Int) (X : List UInt8) (L : List Nat) (A1 : Option Addr) (c1 : Nat) (A2 : Option Addr) (c2 : Nat) : Prop where
  ms : MS w0 w' g gp T2 most
  keep : Keep (fun b => b = gp) w w'
  data : Made w' w.heap.size 5 1 A1 X.length c1 (X.map bv)
  places : Made w' w.heap.size 3 1 A2 L.length c2 (L.map nv)
theorem Do_ms (M : MS w0 w g gp T most) (AD : Option Addr) (nd cd B : Nat) (kind p k : Int) (D T2 X : List UInt8) (L : List Nat) (code num : Int) (nx nl : Nat) (h2 : doM T most kind p k D = (T2, ⟨code, num, X, L⟩)) (hx : X.length = nx) (hl : L.length = nl)
    (hd : Rd w B 1 AD nd (D.map bv)) (hB : B ≤ w.heap.size) (hdne : 0 < nd → ∀ a, AD = some a → a.block ≠ gp) (hT : T.length ≤ 549755813888) (hD : nd ≤ 549755813888) (hpb : -9223372036854775808 ≤ p ∧ p ≤ 9223372036854775807) (hkb : -9223372036854775808 ≤ k ∧ k ≤ 9223372036854775807) (hmb : 0 ≤ most ∧ most ≤ 2147483648) :
    Calls Tryz.prog 19 #[.pointer (some ⟨g, 0, none⟩), .agg #[.int .i64 kind, .int .i64 p, .int .i64 k, .slice AD nd cd]] w fun e w' => ∃ A1 c1 A2 c2, e = .returned (.agg #[.int .i64 code, .int .i64 num, .slice A1 nx c1, .slice A2 nl c2]) ∧ Ans w0 w w' g gp T2 most X L A1 c1 A2 c2 := by
  subst hx
  subst hl
  refine (Do_any g gp AD nd cd B kind p k most T D T2 ⟨code, num, X, L⟩ h2 w M.mod M.pl hd hB hdne M.ne hT hD hpb hkb hmb).mono ?_
  rintro e w' ⟨A1, c1, A2, c2, he, hk, h3, h4, h5⟩
  refine ⟨A1, c1, A2, c2, he, ⟨M.low.trans (hk.to_below M.low.size fun b hb h => ?_), M.g0, M.gp0, M.ne, hk.bk M.mod (fun h => M.ne h), h5⟩, hk, h3, h4⟩
  have h6 : b = gp := h
  have := M.gp0
  omega
theorem Text_ms (M : MS w0 w g gp T most) (n : Nat) (hn : T.length = n) (hT : T.length ≤ 549755813888) :
    Calls Tryz.prog 14 #[.pointer (some ⟨g, 0, none⟩)] w fun e w' => ∃ A' c', e = .returned (.slice A' n c') ∧ Made w' w.heap.size 5 1 A' n c' (T.map bv) ∧ Below w.heap.size w w' := by
  subst hn
  obtain ⟨A, c, h1, h2⟩ := M.pls
  exact mText_any g gp A T.length c _ T most w M.mod h1 h2 (Nat.le_refl _) (by omega)
end
end Go.Proofs.YtnileogagoipiaaGreatDoor
namespace Go.Proofs.YtnileogagoipiaaGreatDoor
open Go.RowKit
set_option linter.unusedVariables false
set_option linter.unusedSimpArgs false
/-- A block that is known whole stays when only gp is written. -/
theorem Ans.bk {w0 w w' : World} {g gp : Nat} {T2 : List UInt8} {most : Int} {X : List UInt8} {L : List Nat} {A1 : Option Addr} {c1 : Nat} {A2 : Option Addr} {c2 : Nat} (h : Ans w0 w w' g gp T2 most X L A1 c1 A2 c2) {s : Nat} {t : TypeId} {cs : Array Value} (hb : Bk w s t cs) (hs : gp < s) : Bk w' s t cs :=
  h.keep.bk hb fun e => absurd (show s = gp from e) (by omega)
theorem mo_rd_mark (w : World) (e : TypeId) (cs : Array Value) (fr : Nat × Nat) (n g : Nat) (hs : cs.size = n) (hg : g = w.heap.size) : Rd (w.alloc (.cells cs e fr)) (w.heap.size + 1) 1 (some ⟨g, 0, none⟩) n cs.toList := by
  subst hg
  refine ⟨by simp [hs], fun _ => ⟨_, 0, rfl, by omega, fun j u hu => ?_⟩⟩
  rw [Nat.zero_add, cell_of_row (w.alloc (.cells cs e fr)) w.heap.size j cs e fr (heap_alloc_new w _)]
  simpa using hu
theorem mo_str_const (w : World) (C : Array Value) (n c : Nat) : (convert 22 22 (.slice (some ⟨w.heap.size, 0, none⟩) n c)).run Tryz.prog (w.alloc (.cells C 5)) = .ok (.slice (some ⟨w.heap.size, 0, none⟩) n c) (w.alloc (.cells C 5 (C.size, C.size + 1))) :=
  Lib.run_convert_bytes_const (P := Tryz.prog) w 22 5 C n c Tryz.underlying22 Tryz.underlying5
theorem mo_str_const1 (w : World) (o : Obj) (C : Array Value) (n c : Nat) : (convert 22 22 (.slice (some ⟨w.heap.size + 1, 0, none⟩) n c)).run Tryz.prog ((w.alloc o).alloc (.cells C 5)) = .ok (.slice (some ⟨w.heap.size + 1, 0, none⟩) n c) ((w.alloc o).alloc (.cells C 5 (C.size, C.size + 1))) := by
  have := mo_str_const (w.alloc o) C n c
  rw [World.size_alloc] at this
  exact this
end Go.Proofs.YtnileogagoipiaaGreatDoor
