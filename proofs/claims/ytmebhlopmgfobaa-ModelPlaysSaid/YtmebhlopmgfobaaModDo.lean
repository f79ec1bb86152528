/- The walk of the model's Do, kind by kind. Conditions: sizes of at most 2^40. -/
import Derived.Test.YtmebhlopmgfobaaModFind
import Derived.Laws.Rows
namespace Go.Proofs.Ytmebhlopmgfobaa
open Go.RowKit
set_option linter.unusedVariables false
set_option linter.unusedSimpArgs false
/-- What a step tells: a code, a number, bytes, places. -/
structure Told where
  code : Int
  num : Int
  data : List UInt8
  places : List Nat
/-- Block gp is a plain text T. -/
def PlS (w : World) (gp : Nat) (T : List UInt8) : Prop := ∃ A c, Bk w gp 47 #[.slice A T.length c] ∧ Rd w w.heap.size 1 A T.length (T.map bv) ∧ T.length ≤ c ∧ (0 < T.length → ∀ a, A = some a → a.block ≠ gp)
/-- The answer's four cells. -/
def resC (r : Told) (A1 : Option Addr) (c1 : Nat) (A2 : Option Addr) (c2 : Nat) : Array Value := #[.int .i64 r.code, .int .i64 r.num, .slice A1 r.data.length c1, .slice A2 r.places.length c2]
/-- What Do leaves and tells. -/
def DoTold (gp : Nat) (T2 : List UInt8) (r : Told) (w w' : World) (e : Ending) : Prop :=
  ∃ A1 c1 A2 c2, e = .returned (.agg (resC r A1 c1 A2 c2)) ∧ Keep (fun b => b = gp) w w' ∧ Made w' w.heap.size 5 1 A1 r.data.length c1 (r.data.map bv) ∧ Made w' w.heap.size 3 1 A2 r.places.length c2 (r.places.map nv) ∧ PlS w' gp T2
def stepV (kind p k : Int) (AD : Option Addr) (nd cd : Nat) : Value := .agg #[.int .i64 kind, .int .i64 p, .int .i64 k, .slice AD nd cd]
theorem made_nil (w : World) (B : Nat) (e : TypeId) : Made w B e 1 none 0 0 [] := ⟨World.ownsRow_nil _ _ _ _, Rd.nil _ _ _ _, Nat.le_refl _, Nat.zero_le _⟩
/-- Do's end: its answer's cells are laid. -/
theorem do_ret {gp : Nat} {T2 : List UInt8} {r : Told} {w w' : World} {tmps : Array Value} {s : Nat} {A1 : Option Addr} {c1 : Nat} {A2 : Option Addr} {c2 : Nat} {ex : Exit} (hex : ex = .ret ∨ ex = .normal) (hp : tmps.getD 4 undef = .pointer (some ⟨s, 0, none⟩)) (hb : Bk w' s 29 (resC r A1 c1 A2 c2))
    (hk : Keep (fun b => b = gp) w w') (hm1 : Made w' w.heap.size 5 1 A1 r.data.length c1 (r.data.map bv)) (hm2 : Made w' w.heap.size 3 1 A2 r.places.length c2 (r.places.map nv)) (hpl : PlS w' gp T2) :
    bodyPost Try.prog Try.f10 (fun e w' => DoTold gp T2 r w w' e) ex ⟨tmps, []⟩ w' := by
  have hr := results_cell_row (P := Try.prog) (fn := Try.f10) (p := 4) (ty := 29) rfl tmps w' s 29 (resC r A1 c1 A2 c2) (0, 0) _ hp hb Try.underlying29 rfl (by kernel_rfl)
  rcases hex with rfl | rfl
  · exact bodyPost_ret hr rfl ⟨A1, c1, A2, c2, rfl, hk, hm1, hm2, hpl⟩
  · exact bodyPost_end hr rfl ⟨A1, c1, A2, c2, rfl, hk, hm1, hm2, hpl⟩
theorem PlS.keep {w w' : World} {gp : Nat} {T : List UInt8} (h : PlS w gp T) (k : Grow w w') : PlS w' gp T := by
  obtain ⟨A, c, h1, h2, h3, h4⟩ := h
  exact ⟨A, c, h1.below k h1.lt, (h2.below k).mono (Below.size k), h3, h4⟩
/-- What the walk of Do finds in every world till the text is written. -/
structure DoF (w W : World) (g gp n c nd cd : Nat) (A AD : Option Addr) (T D : List UInt8) (most kind p k : Int) : Prop where
  low : Below w.heap.size w W
  step : Bk W w.heap.size 32 #[.int .i64 kind, .int .i64 p, .int .i64 k, .slice AD nd cd]
  res : Bk W (w.heap.size + 1) 29 #[.int .i64 0, .int .i64 0, .slice none 0 0, .slice none 0 0]
  mod : Bk W g 49 #[.pointer (some ⟨gp, 0, none⟩), .int .i64 most]
  pl : Bk W gp 47 #[.slice A n c]
  rT : Rd W w.heap.size 1 A n (T.map bv)
  rD : Rd W w.heap.size 1 AD nd (D.map bv)
  gpl : gp < w.heap.size
  gne : g ≠ gp
  gll : g < w.heap.size
section
variable {w W W' : World} {g gp n c nd cd : Nat} {A AD : Option Addr} {T D : List UInt8} {most kind p k : Int}
theorem DoF.grow (F : DoF w W g gp n c nd cd A AD T D most kind p k) (h : Grow W W') : DoF w W' g gp n c nd cd A AD T D most kind p k :=
  ⟨F.low.trans (Below.mono h F.low.size), F.step.below h F.step.lt, F.res.below h F.res.lt, F.mod.below h F.mod.lt, F.pl.below h F.pl.lt, F.rT.below (Below.mono h F.low.size), F.rD.below (Below.mono h F.low.size), F.gpl, F.gne, F.gll⟩
theorem do_start {B : Nat} (hg : Bk w g 49 #[.pointer (some ⟨gp, 0, none⟩), .int .i64 most]) (hb : Bk w gp 47 #[.slice A n c]) (hr : Rd w w.heap.size 1 A n (T.map bv)) (hd : Rd w B 1 AD nd (D.map bv)) (hB : B ≤ w.heap.size) (hgne : g ≠ gp) :
    DoF w ((w.alloc (.cells #[.int .i64 kind, .int .i64 p, .int .i64 k, .slice AD nd cd] 32)).alloc (.cells #[.int .i64 0, .int .i64 0, .slice none 0 0, .slice none 0 0] 29)) g gp n c nd cd A AD T D most kind p k := by
  have hbl := ((Below.refl w.heap.size w).alloc (Nat.le_refl _) (.cells #[.int .i64 kind, .int .i64 p, .int .i64 k, .slice AD nd cd] 32)).alloc (by simp) (.cells #[.int .i64 0, .int .i64 0, .slice none 0 0, .slice none 0 0] 29)
  refine ⟨hbl, (Bk.new _ _ _).alloc _, ?_, (hg.alloc _).alloc _, (hb.alloc _).alloc _, hr.below hbl, (hd.mono hB).below hbl, hb.lt, hgne, hg.lt⟩
  simpa using Bk.new (w.alloc (.cells #[.int .i64 kind, .int .i64 p, .int .i64 k, .slice AD nd cd] 32)) 29 #[.int .i64 0, .int .i64 0, .slice none 0 0, .slice none 0 0]
/-- The answer's four cells are stored. -/
theorem res_set {s : Nat} {z0 z1 z2 z3 v0 v1 v2 v3 : Value} (h : Bk W s 29 #[z0, z1, z2, z3]) :
    Bk ((((W.setCell ⟨s, 0, none⟩ v0).setCell ⟨s, 1, none⟩ v1).setCell ⟨s, 2, none⟩ v2).setCell ⟨s, 3, none⟩ v3) s 29 #[v0, v1, v2, v3] := by
  have := (((h.set 0 v0).set 1 v1).set 2 v2).set 3 v3
  simpa using this
theorem grow_set {s : Nat} {v0 v1 v2 v3 : Value} (h : w.heap.size ≤ s) : Below w.heap.size w W → Below w.heap.size w ((((W.setCell ⟨s, 0, none⟩ v0).setCell ⟨s, 1, none⟩ v1).setCell ⟨s, 2, none⟩ v2).setCell ⟨s, 3, none⟩ v3) :=
  fun hb => (((hb.setCell (p := ⟨s, 0, none⟩) h v0).setCell (p := ⟨s, 1, none⟩) h v1).setCell (p := ⟨s, 2, none⟩) h v2).setCell (p := ⟨s, 3, none⟩) h v3
theorem keep_set {F : Nat → Prop} {s : Nat} {v0 v1 v2 v3 : Value} (h : w.heap.size ≤ s) : Keep F w W → Keep F w ((((W.setCell ⟨s, 0, none⟩ v0).setCell ⟨s, 1, none⟩ v1).setCell ⟨s, 2, none⟩ v2).setCell ⟨s, 3, none⟩ v3) :=
  fun hb => (((hb.setCell (p := ⟨s, 0, none⟩) (.inr h) v0).setCell (p := ⟨s, 1, none⟩) (.inr h) v1).setCell (p := ⟨s, 2, none⟩) (.inr h) v2).setCell (p := ⟨s, 3, none⟩) (.inr h) v3
theorem at_set {s : Nat} {v0 v1 v2 v3 : Value} : Keep (fun b => b = s) W ((((W.setCell ⟨s, 0, none⟩ v0).setCell ⟨s, 1, none⟩ v1).setCell ⟨s, 2, none⟩ v2).setCell ⟨s, 3, none⟩ v3) :=
  ((((Keep.refl (fun b => b = s) W).setCell (p := ⟨s, 0, none⟩) (.inl rfl) v0).setCell (p := ⟨s, 1, none⟩) (.inl rfl) v1).setCell (p := ⟨s, 2, none⟩) (.inl rfl) v2).setCell (p := ⟨s, 3, none⟩) (.inl rfl) v3
theorem pls_made {B N : Nat} {T2 : List UInt8} (hb : Bk W gp 47 #[.slice A N c]) (hm : Made W B 5 1 A N c (T2.map bv)) (hN : T2.length = N) (hgp : gp < B) : PlS W gp T2 := by
  subst hN
  refine ⟨A, c, hb, hm.rd, hm.cap, fun _ a ha => ?_⟩
  subst ha
  have := (hm.own.lt a.block rfl).1
  omega
end
/-- An answer of four cells, the bytes of which were made since B. -/
def ansV (B : Nat) (num : Int) (X : List UInt8) : Value → World → Prop := fun v w => ∃ A c, v = .agg (resC ⟨0, num, X, []⟩ A c none 0) ∧ Made w B 5 1 A X.length c (X.map bv)
theorem stbk_ans {F : Nat → Prop} {B : Nat} (hf : ∀ b, F b → b < B) (num : Int) (X : List UInt8) : StbK F (ansV B num X) := fun _ _ _ ⟨A, c, h1, h2⟩ k => ⟨A, c, h1, h2.keepF k hf⟩
/-- Block s is such an answer. -/
def ansW (s B : Nat) (num : Int) (X : List UInt8) : Value → World → Prop := fun _ w => ∃ A c, Bk w s 29 (resC ⟨0, num, X, []⟩ A c none 0) ∧ Made w B 5 1 A X.length c (X.map bv)
theorem ansW_stb (s B : Nat) (num : Int) (X : List UInt8) : Stb (ansW s B num X) := fun _ _ _ ⟨A, c, h1, h2⟩ k => ⟨A, c, Bk.below h1 k h1.lt, h2.below k⟩
def splV (gp B N : Nat) (T : List UInt8) : Value → World → Prop := fun v w => v = .tuple #[] ∧ plV gp B N T v w
theorem splV_stb (gp B N : Nat) (T : List UInt8) : Stb (splV gp B N T) := fun v w w' ⟨h1, h2⟩ k => ⟨h1, plV_stb _ _ _ _ v w w' h2 k⟩
theorem madeV_stb (B : Nat) (e : TypeId) (sz n : Nat) (xs : List Value) : Stb (madeV B e sz n xs) := fun _ _ _ ⟨A, c, h1, h2⟩ k => ⟨A, c, h1, h2.below k⟩
set_option maxRecDepth 100000 in
set_option maxHeartbeats 4000000 in
theorem Do_ins_range (g gp : Nat) (AD : Option Addr) (nd cd B : Nat) (p k : Int) (most : Int) (T D : List UInt8) (w : World) (hg : Bk w g 49 #[.pointer (some ⟨gp, 0, none⟩), .int .i64 most]) (hp : PlS w gp T)
    (hd : Rd w B 1 AD nd (D.map bv)) (hB : B ≤ w.heap.size) (hdne : 0 < nd → ∀ a, AD = some a → a.block ≠ gp) (hgne : g ≠ gp) (hT : T.length ≤ 549755813888) (hD : nd ≤ 549755813888) (hpb : -9223372036854775808 ≤ (p : Int) ∧ (p : Int) ≤ 9223372036854775807) (hkb : -9223372036854775808 ≤ (k : Int) ∧ (k : Int) ≤ 9223372036854775807) (hmb : 0 ≤ most ∧ most ≤ 2147483648)
    (hhas : hasB T.length p 0 = false) :
    Calls Try.prog 10 #[.pointer (some ⟨g, 0, none⟩), stepV 1 p k AD nd cd] w fun e w' => DoTold gp (T) ⟨2, 0, [], []⟩ w w' e := by
  have Hp := Lib.hid hp
  obtain ⟨A, c, hb, hr, hnc, hne⟩ := hp
  obtain ⟨n, hn⟩ : ∃ n, T.length = n := ⟨_, rfl⟩
  rw [hn] at hb hr hnc hT hne
  rw [hn] at hhas
  have hDl : D.length = nd := by simpa using hd.1
  have F := do_start (kind := 1) (p := p) (k := k) (cd := cd) hg hb hr hd hB hgne
  have HF := Lib.hid F
  have Hn := Lib.hid hn
  have Hne := Lib.hid hne
  have Hdne := Lib.hid hdne
  clear hb hr hd hg F hn hne hdne
  unfold stepV
  go_enter Try.func10, Try.ntmps10
  go_wp2
  obtain ⟨W, hW⟩ : ∃ W, (w.alloc (.cells #[.int .i64 1, .int .i64 p, .int .i64 k, .slice AD nd cd] 32)).alloc (.cells #[.int .i64 0, .int .i64 0, .slice none 0 0, .slice none 0 0] 29) = W := ⟨_, rfl⟩
  rw [hW] at HF ⊢
  have F := HF.out
  clear hW HF
  refine wp_region_any (by kernel_rfl) ?_
  refine wpAny_loose2 [15, 16, 17, 18, 19, 20, 21, 22, 14] Grow (Vs [is (.pointer (some ⟨g, 0, none⟩)), is (.pointer (some ⟨g, 0, none⟩)), is (.pointer (some ⟨g, 0, none⟩)), is (.pointer (some ⟨gp, 0, none⟩)), is (.pointer (some ⟨w.heap.size, 1, none⟩)), is (.int .i64 p), is (.bool false), is (.bool true), is (.bool true)]) _ _ rfl (by kernel_rfl) (Below.refl _ _) (fun _ _ => Grow.trans) (stb_all (by repeat' (first | exact stb_is _ | exact stb_row _ _ _ | (refine List.forall_mem_cons.2 ⟨?_, ?_⟩) | (intro p hp; cases hp)))) ?_ ?_
  · refine steps_of ?_
    refine steps_cons ?_ ?_
    · refine step_on rfl rfl ?_
      intro ev w5 hS hc hf hold hval a K ha hK
      have e0 : ev (.tmp 0) = .pointer (some ⟨g, 0, none⟩) := hold 0 (by kernel_rfl)
      replace hS : Grow W w5 := ⟨hS.os, hS.tape, hS.output, hS.size, hS.block⟩
      go_simp
      exact hK _ _ (Below.refl _ _) rfl
    refine steps_cons ?_ ?_
    · refine step_on rfl rfl ?_
      intro ev w5 hS hc hf hold hval a K ha hK
      have e15 : ev (.tmp 15) = .pointer (some ⟨g, 0, none⟩) := hval 0 15 (by kernel_rfl) rfl
      replace hS : Grow W w5 := ⟨hS.os, hS.tape, hS.output, hS.size, hS.block⟩
      go_simp
      exact hK _ _ (Below.refl _ _) rfl
    refine steps_cons ?_ ?_
    · refine step_on rfl rfl ?_
      intro ev w5 hS hc hf hold hval a K ha hK
      have e16 : ev (.tmp 16) = .pointer (some ⟨g, 0, none⟩) := hval 1 16 (by kernel_rfl) rfl
      replace hS : Grow W w5 := ⟨hS.os, hS.tape, hS.output, hS.size, hS.block⟩
      go_simp
      exact hK _ _ (Below.refl _ _) rfl
    refine steps_cons ?_ ?_
    · refine step_on rfl rfl ?_
      intro ev w5 hS hc hf hold hval a K ha hK
      have e17 : ev (.tmp 17) = .pointer (some ⟨g, 0, none⟩) := hval 2 17 (by kernel_rfl) rfl
      replace hS : Grow W w5 := ⟨hS.os, hS.tape, hS.output, hS.size, hS.block⟩
      have c18 : w5.cell? ⟨g, 0, none⟩ = some (.pointer (some ⟨gp, 0, none⟩)) := ((F.mod.below hS F.mod.lt).cell 0).trans rfl
      go_simp
      exact hK _ _ (Below.refl _ _) rfl
    refine steps_cons ?_ ?_
    · refine step_on rfl rfl ?_
      intro ev w5 hS hc hf hold hval a K ha hK
      have e3 : ev (.tmp 3) = .pointer (some ⟨w.heap.size, 0, none⟩) := hold 3 (by kernel_rfl)
      replace hS : Grow W w5 := ⟨hS.os, hS.tape, hS.output, hS.size, hS.block⟩
      go_simp
      exact hK _ _ (Below.refl _ _) rfl
    refine steps_cons ?_ ?_
    · refine step_on rfl rfl ?_
      intro ev w5 hS hc hf hold hval a K ha hK
      have e19 : ev (.tmp 19) = .pointer (some ⟨w.heap.size, 1, none⟩) := hval 4 19 (by kernel_rfl) rfl
      replace hS : Grow W w5 := ⟨hS.os, hS.tape, hS.output, hS.size, hS.block⟩
      have c20 : w5.cell? ⟨w.heap.size, 1, none⟩ = some (.int .i64 p) := ((F.step.below hS F.step.lt).cell 1).trans rfl
      go_simp
      exact hK _ _ (Below.refl _ _) rfl
    refine steps_cons ?_ ?_
    · refine step_on rfl rfl ?_
      intro ev w5 hS hc hf hold hval a K ha hK
      have e18 : ev (.tmp 18) = .pointer (some ⟨gp, 0, none⟩) := hval 3 18 (by kernel_rfl) rfl
      have e20 : ev (.tmp 20) = .int .i64 p := hval 5 20 (by kernel_rfl) rfl
      replace hS : Grow W w5 := ⟨hS.os, hS.tape, hS.output, hS.size, hS.block⟩
      go_simp
      refine (has_any gp A n c p (0) w5 (((F.pl.below hS F.pl.lt).cell 0).trans rfl) (by omega) hpb (by omega)).mono ?_
      rintro e w8 ⟨rfl, rfl⟩
      exact hK _ _ (Below.refl _ _) (bool_eq hhas)
    refine steps_cons ?_ ?_
    · refine step_on rfl rfl ?_
      intro ev w5 hS hc hf hold hval a K ha hK
      have e21 : ev (.tmp 21) = .bool false := hval 6 21 (by kernel_rfl) rfl
      replace hS : Grow W w5 := ⟨hS.os, hS.tape, hS.output, hS.size, hS.block⟩
      go_simp
      exact hK _ _ (Below.refl _ _) rfl
    refine steps_cons ?_ ?_
    · refine step_on rfl rfl ?_
      intro ev w5 hS hc hf hold hval a K ha hK
      have e22 : ev (.tmp 22) = .bool true := hval 7 22 (by kernel_rfl) rfl
      replace hS : Grow W w5 := ⟨hS.os, hS.tape, hS.output, hS.size, hS.block⟩
      go_simp
      exact hK _ _ (Below.refl _ _) rfl
    exact steps_nil
  · intro ev w6 hS hval
    replace hS : Grow W w6 := ⟨hS.os, hS.tape, hS.output, hS.size, hS.block⟩
    have e14 : ev (.tmp 14) = .bool true := hval 8 14 rfl
    simp only [putsOf, List.foldl_cons, List.foldl_nil, Act.put, List.setIfInBounds_toArray, List.set_cons_zero, List.set_cons_succ]
    rw [e14]
    clear hval
    have hF := F.grow hS
    have hres := hF.res
    have r0 : w6.cell? ⟨w.heap.size + 1, 0, none⟩ = some (.int .i64 0) := (hres.cell 0).trans rfl
    have f0 := hres.frozen 0
    have r1 : w6.cell? ⟨w.heap.size + 1, 1, none⟩ = some (.int .i64 0) := (hres.cell 1).trans rfl
    have f1 := hres.frozen 1
    have r2 : w6.cell? ⟨w.heap.size + 1, 2, none⟩ = some (.slice none 0 0) := (hres.cell 2).trans rfl
    have f2 := hres.frozen 2
    have r3 : w6.cell? ⟨w.heap.size + 1, 3, none⟩ = some (.slice none 0 0) := (hres.cell 3).trans rfl
    have f3 := hres.frozen 3
    go_wp2
    have hbl := grow_set (v0 := .int .i64 2) (v1 := .int .i64 0) (v2 := .slice none 0 0) (v3 := .slice none 0 0) (Nat.le_succ w.heap.size) hF.low
    exact do_ret (s := w.heap.size + 1) (A1 := none) (c1 := 0) (A2 := none) (c2 := 0) (.inl rfl) rfl (res_set hres) (Keep.of_below hbl) (made_nil _ _ _) (made_nil _ _ _) (Hp.out.keep hbl)
set_option maxRecDepth 100000 in
set_option maxHeartbeats 4000000 in
theorem Do_ins_full (g gp : Nat) (AD : Option Addr) (nd cd B : Nat) (p k : Int) (most : Int) (T D : List UInt8) (w : World) (hg : Bk w g 49 #[.pointer (some ⟨gp, 0, none⟩), .int .i64 most]) (hp : PlS w gp T)
    (hd : Rd w B 1 AD nd (D.map bv)) (hB : B ≤ w.heap.size) (hdne : 0 < nd → ∀ a, AD = some a → a.block ≠ gp) (hgne : g ≠ gp) (hT : T.length ≤ 549755813888) (hD : nd ≤ 549755813888) (hpb : -9223372036854775808 ≤ (p : Int) ∧ (p : Int) ≤ 9223372036854775807) (hkb : -9223372036854775808 ≤ (k : Int) ∧ (k : Int) ≤ 9223372036854775807) (hmb : 0 ≤ most ∧ most ≤ 2147483648)
    (hhas : hasB T.length p 0 = true) (hfull : most - (T.length : Int) < (nd : Int)) :
    Calls Try.prog 10 #[.pointer (some ⟨g, 0, none⟩), stepV 1 p k AD nd cd] w fun e w' => DoTold gp (T) ⟨3, 0, [], []⟩ w w' e := by
  have Hp := Lib.hid hp
  obtain ⟨A, c, hb, hr, hnc, hne⟩ := hp
  obtain ⟨n, hn⟩ : ∃ n, T.length = n := ⟨_, rfl⟩
  rw [hn] at hb hr hnc hT hne
  rw [hn] at hhas hfull
  have hDl : D.length = nd := by simpa using hd.1
  have F := do_start (kind := 1) (p := p) (k := k) (cd := cd) hg hb hr hd hB hgne
  have HF := Lib.hid F
  have Hn := Lib.hid hn
  have Hne := Lib.hid hne
  have Hdne := Lib.hid hdne
  clear hb hr hd hg F hn hne hdne
  unfold stepV
  go_enter Try.func10, Try.ntmps10
  go_wp2
  obtain ⟨W, hW⟩ : ∃ W, (w.alloc (.cells #[.int .i64 1, .int .i64 p, .int .i64 k, .slice AD nd cd] 32)).alloc (.cells #[.int .i64 0, .int .i64 0, .slice none 0 0, .slice none 0 0] 29) = W := ⟨_, rfl⟩
  rw [hW] at HF ⊢
  have F := HF.out
  clear hW HF
  refine wp_region_any (by kernel_rfl) ?_
  refine wpAny_loose2 [15, 16, 17, 18, 19, 20, 21, 22, 14] Grow (Vs [is (.pointer (some ⟨g, 0, none⟩)), is (.pointer (some ⟨g, 0, none⟩)), is (.pointer (some ⟨g, 0, none⟩)), is (.pointer (some ⟨gp, 0, none⟩)), is (.pointer (some ⟨w.heap.size, 1, none⟩)), is (.int .i64 p), is (.bool true), is (.bool false), is (.bool false)]) _ _ rfl (by kernel_rfl) (Below.refl _ _) (fun _ _ => Grow.trans) (stb_all (by repeat' (first | exact stb_is _ | exact stb_row _ _ _ | (refine List.forall_mem_cons.2 ⟨?_, ?_⟩) | (intro p hp; cases hp)))) ?_ ?_
  · refine steps_of ?_
    refine steps_cons ?_ ?_
    · refine step_on rfl rfl ?_
      intro ev w5 hS hc hf hold hval a K ha hK
      have e0 : ev (.tmp 0) = .pointer (some ⟨g, 0, none⟩) := hold 0 (by kernel_rfl)
      replace hS : Grow W w5 := ⟨hS.os, hS.tape, hS.output, hS.size, hS.block⟩
      go_simp
      exact hK _ _ (Below.refl _ _) rfl
    refine steps_cons ?_ ?_
    · refine step_on rfl rfl ?_
      intro ev w5 hS hc hf hold hval a K ha hK
      have e15 : ev (.tmp 15) = .pointer (some ⟨g, 0, none⟩) := hval 0 15 (by kernel_rfl) rfl
      replace hS : Grow W w5 := ⟨hS.os, hS.tape, hS.output, hS.size, hS.block⟩
      go_simp
      exact hK _ _ (Below.refl _ _) rfl
    refine steps_cons ?_ ?_
    · refine step_on rfl rfl ?_
      intro ev w5 hS hc hf hold hval a K ha hK
      have e16 : ev (.tmp 16) = .pointer (some ⟨g, 0, none⟩) := hval 1 16 (by kernel_rfl) rfl
      replace hS : Grow W w5 := ⟨hS.os, hS.tape, hS.output, hS.size, hS.block⟩
      go_simp
      exact hK _ _ (Below.refl _ _) rfl
    refine steps_cons ?_ ?_
    · refine step_on rfl rfl ?_
      intro ev w5 hS hc hf hold hval a K ha hK
      have e17 : ev (.tmp 17) = .pointer (some ⟨g, 0, none⟩) := hval 2 17 (by kernel_rfl) rfl
      replace hS : Grow W w5 := ⟨hS.os, hS.tape, hS.output, hS.size, hS.block⟩
      have c18 : w5.cell? ⟨g, 0, none⟩ = some (.pointer (some ⟨gp, 0, none⟩)) := ((F.mod.below hS F.mod.lt).cell 0).trans rfl
      go_simp
      exact hK _ _ (Below.refl _ _) rfl
    refine steps_cons ?_ ?_
    · refine step_on rfl rfl ?_
      intro ev w5 hS hc hf hold hval a K ha hK
      have e3 : ev (.tmp 3) = .pointer (some ⟨w.heap.size, 0, none⟩) := hold 3 (by kernel_rfl)
      replace hS : Grow W w5 := ⟨hS.os, hS.tape, hS.output, hS.size, hS.block⟩
      go_simp
      exact hK _ _ (Below.refl _ _) rfl
    refine steps_cons ?_ ?_
    · refine step_on rfl rfl ?_
      intro ev w5 hS hc hf hold hval a K ha hK
      have e19 : ev (.tmp 19) = .pointer (some ⟨w.heap.size, 1, none⟩) := hval 4 19 (by kernel_rfl) rfl
      replace hS : Grow W w5 := ⟨hS.os, hS.tape, hS.output, hS.size, hS.block⟩
      have c20 : w5.cell? ⟨w.heap.size, 1, none⟩ = some (.int .i64 p) := ((F.step.below hS F.step.lt).cell 1).trans rfl
      go_simp
      exact hK _ _ (Below.refl _ _) rfl
    refine steps_cons ?_ ?_
    · refine step_on rfl rfl ?_
      intro ev w5 hS hc hf hold hval a K ha hK
      have e18 : ev (.tmp 18) = .pointer (some ⟨gp, 0, none⟩) := hval 3 18 (by kernel_rfl) rfl
      have e20 : ev (.tmp 20) = .int .i64 p := hval 5 20 (by kernel_rfl) rfl
      replace hS : Grow W w5 := ⟨hS.os, hS.tape, hS.output, hS.size, hS.block⟩
      go_simp
      refine (has_any gp A n c p (0) w5 (((F.pl.below hS F.pl.lt).cell 0).trans rfl) (by omega) hpb (by omega)).mono ?_
      rintro e w8 ⟨rfl, rfl⟩
      exact hK _ _ (Below.refl _ _) (bool_eq hhas)
    refine steps_cons ?_ ?_
    · refine step_on rfl rfl ?_
      intro ev w5 hS hc hf hold hval a K ha hK
      have e21 : ev (.tmp 21) = .bool true := hval 6 21 (by kernel_rfl) rfl
      replace hS : Grow W w5 := ⟨hS.os, hS.tape, hS.output, hS.size, hS.block⟩
      go_simp
      exact hK _ _ (Below.refl _ _) rfl
    refine steps_cons ?_ ?_
    · refine step_on rfl rfl ?_
      intro ev w5 hS hc hf hold hval a K ha hK
      have e22 : ev (.tmp 22) = .bool false := hval 7 22 (by kernel_rfl) rfl
      replace hS : Grow W w5 := ⟨hS.os, hS.tape, hS.output, hS.size, hS.block⟩
      go_simp
      exact hK _ _ (Below.refl _ _) rfl
    exact steps_nil
  · intro ev w6 hS hval
    replace hS : Grow W w6 := ⟨hS.os, hS.tape, hS.output, hS.size, hS.block⟩
    have e14 : ev (.tmp 14) = .bool false := hval 8 14 rfl
    simp only [putsOf, List.foldl_cons, List.foldl_nil, Act.put, List.setIfInBounds_toArray, List.set_cons_zero, List.set_cons_succ]
    rw [e14]
    clear hval
    have F6 := F.grow hS
    clear F hS
    revert F6
    generalize w6 = W2
    intro F
    go_wp2
    refine wp_region_any (by kernel_rfl) ?_
    refine wpAny_loose2 [25, 26, 27, 28, 29, 30, 31, 32, 33, 34, 35, 36, 37, 38, 39, 40, 41, 24] Grow (Vs [is (.pointer (some ⟨w.heap.size, 3, none⟩)), is (.slice AD nd cd), is (.int .i64 (nd : Int)), is (.pointer (some ⟨g, 0, none⟩)), is (.pointer (some ⟨g, 0, none⟩)), is (.pointer (some ⟨g, 1, none⟩)), is (.int .i64 most), is (.pointer (some ⟨g, 0, none⟩)), is (.pointer (some ⟨g, 0, none⟩)), is (.pointer (some ⟨g, 0, none⟩)), is (.pointer (some ⟨gp, 0, none⟩)), is (.pointer (some ⟨gp, 0, none⟩)), is (.pointer (some ⟨gp, 0, none⟩)), is (.slice A n c), is (.int .i64 (n : Int)), is (.int .i64 (most - (n : Int))), is (.bool true), is (.bool true)]) _ _ rfl (by kernel_rfl) (Below.refl _ _) (fun _ _ => Grow.trans) (stb_all (by repeat' (first | exact stb_is _ | exact stb_row _ _ _ | (refine List.forall_mem_cons.2 ⟨?_, ?_⟩) | (intro p hp; cases hp)))) ?_ ?_
    · refine steps_of ?_
      refine steps_cons ?_ ?_
      · refine step_on rfl rfl ?_
        intro ev w5 hS hc hf hold hval a K ha hK
        have e3 : ev (.tmp 3) = .pointer (some ⟨w.heap.size, 0, none⟩) := hold 3 (by kernel_rfl)
        replace hS : Grow W2 w5 := ⟨hS.os, hS.tape, hS.output, hS.size, hS.block⟩
        go_simp
        exact hK _ _ (Below.refl _ _) rfl
      refine steps_cons ?_ ?_
      · refine step_on rfl rfl ?_
        intro ev w5 hS hc hf hold hval a K ha hK
        have e25 : ev (.tmp 25) = .pointer (some ⟨w.heap.size, 3, none⟩) := hval 0 25 (by kernel_rfl) rfl
        replace hS : Grow W2 w5 := ⟨hS.os, hS.tape, hS.output, hS.size, hS.block⟩
        have c26 : w5.cell? ⟨w.heap.size, 3, none⟩ = some (.slice AD nd cd) := ((F.step.below hS F.step.lt).cell 3).trans rfl
        go_simp
        exact hK _ _ (Below.refl _ _) rfl
      refine steps_cons ?_ ?_
      · refine step_on rfl rfl ?_
        intro ev w5 hS hc hf hold hval a K ha hK
        have e26 : ev (.tmp 26) = .slice AD nd cd := hval 1 26 (by kernel_rfl) rfl
        replace hS : Grow W2 w5 := ⟨hS.os, hS.tape, hS.output, hS.size, hS.block⟩
        go_simp
        exact hK _ _ (Below.refl _ _) rfl
      refine steps_cons ?_ ?_
      · refine step_on rfl rfl ?_
        intro ev w5 hS hc hf hold hval a K ha hK
        have e0 : ev (.tmp 0) = .pointer (some ⟨g, 0, none⟩) := hold 0 (by kernel_rfl)
        replace hS : Grow W2 w5 := ⟨hS.os, hS.tape, hS.output, hS.size, hS.block⟩
        go_simp
        exact hK _ _ (Below.refl _ _) rfl
      refine steps_cons ?_ ?_
      · refine step_on rfl rfl ?_
        intro ev w5 hS hc hf hold hval a K ha hK
        have e28 : ev (.tmp 28) = .pointer (some ⟨g, 0, none⟩) := hval 3 28 (by kernel_rfl) rfl
        replace hS : Grow W2 w5 := ⟨hS.os, hS.tape, hS.output, hS.size, hS.block⟩
        go_simp
        exact hK _ _ (Below.refl _ _) rfl
      refine steps_cons ?_ ?_
      · refine step_on rfl rfl ?_
        intro ev w5 hS hc hf hold hval a K ha hK
        have e29 : ev (.tmp 29) = .pointer (some ⟨g, 0, none⟩) := hval 4 29 (by kernel_rfl) rfl
        replace hS : Grow W2 w5 := ⟨hS.os, hS.tape, hS.output, hS.size, hS.block⟩
        go_simp
        exact hK _ _ (Below.refl _ _) rfl
      refine steps_cons ?_ ?_
      · refine step_on rfl rfl ?_
        intro ev w5 hS hc hf hold hval a K ha hK
        have e30 : ev (.tmp 30) = .pointer (some ⟨g, 1, none⟩) := hval 5 30 (by kernel_rfl) rfl
        replace hS : Grow W2 w5 := ⟨hS.os, hS.tape, hS.output, hS.size, hS.block⟩
        have c31 : w5.cell? ⟨g, 1, none⟩ = some (.int .i64 most) := ((F.mod.below hS F.mod.lt).cell 1).trans rfl
        go_simp
        exact hK _ _ (Below.refl _ _) rfl
      refine steps_cons ?_ ?_
      · refine step_on rfl rfl ?_
        intro ev w5 hS hc hf hold hval a K ha hK
        have e0 : ev (.tmp 0) = .pointer (some ⟨g, 0, none⟩) := hold 0 (by kernel_rfl)
        replace hS : Grow W2 w5 := ⟨hS.os, hS.tape, hS.output, hS.size, hS.block⟩
        go_simp
        exact hK _ _ (Below.refl _ _) rfl
      refine steps_cons ?_ ?_
      · refine step_on rfl rfl ?_
        intro ev w5 hS hc hf hold hval a K ha hK
        have e32 : ev (.tmp 32) = .pointer (some ⟨g, 0, none⟩) := hval 7 32 (by kernel_rfl) rfl
        replace hS : Grow W2 w5 := ⟨hS.os, hS.tape, hS.output, hS.size, hS.block⟩
        go_simp
        exact hK _ _ (Below.refl _ _) rfl
      refine steps_cons ?_ ?_
      · refine step_on rfl rfl ?_
        intro ev w5 hS hc hf hold hval a K ha hK
        have e33 : ev (.tmp 33) = .pointer (some ⟨g, 0, none⟩) := hval 8 33 (by kernel_rfl) rfl
        replace hS : Grow W2 w5 := ⟨hS.os, hS.tape, hS.output, hS.size, hS.block⟩
        go_simp
        exact hK _ _ (Below.refl _ _) rfl
      refine steps_cons ?_ ?_
      · refine step_on rfl rfl ?_
        intro ev w5 hS hc hf hold hval a K ha hK
        have e34 : ev (.tmp 34) = .pointer (some ⟨g, 0, none⟩) := hval 9 34 (by kernel_rfl) rfl
        replace hS : Grow W2 w5 := ⟨hS.os, hS.tape, hS.output, hS.size, hS.block⟩
        have c35 : w5.cell? ⟨g, 0, none⟩ = some (.pointer (some ⟨gp, 0, none⟩)) := ((F.mod.below hS F.mod.lt).cell 0).trans rfl
        go_simp
        exact hK _ _ (Below.refl _ _) rfl
      refine steps_cons ?_ ?_
      · refine step_on rfl rfl ?_
        intro ev w5 hS hc hf hold hval a K ha hK
        have e35 : ev (.tmp 35) = .pointer (some ⟨gp, 0, none⟩) := hval 10 35 (by kernel_rfl) rfl
        replace hS : Grow W2 w5 := ⟨hS.os, hS.tape, hS.output, hS.size, hS.block⟩
        go_simp
        exact hK _ _ (Below.refl _ _) rfl
      refine steps_cons ?_ ?_
      · refine step_on rfl rfl ?_
        intro ev w5 hS hc hf hold hval a K ha hK
        have e36 : ev (.tmp 36) = .pointer (some ⟨gp, 0, none⟩) := hval 11 36 (by kernel_rfl) rfl
        replace hS : Grow W2 w5 := ⟨hS.os, hS.tape, hS.output, hS.size, hS.block⟩
        go_simp
        exact hK _ _ (Below.refl _ _) rfl
      refine steps_cons ?_ ?_
      · refine step_on rfl rfl ?_
        intro ev w5 hS hc hf hold hval a K ha hK
        have e37 : ev (.tmp 37) = .pointer (some ⟨gp, 0, none⟩) := hval 12 37 (by kernel_rfl) rfl
        replace hS : Grow W2 w5 := ⟨hS.os, hS.tape, hS.output, hS.size, hS.block⟩
        have c38 : w5.cell? ⟨gp, 0, none⟩ = some (.slice A n c) := ((F.pl.below hS F.pl.lt).cell 0).trans rfl
        go_simp
        exact hK _ _ (Below.refl _ _) rfl
      refine steps_cons ?_ ?_
      · refine step_on rfl rfl ?_
        intro ev w5 hS hc hf hold hval a K ha hK
        have e38 : ev (.tmp 38) = .slice A n c := hval 13 38 (by kernel_rfl) rfl
        replace hS : Grow W2 w5 := ⟨hS.os, hS.tape, hS.output, hS.size, hS.block⟩
        go_simp
        exact hK _ _ (Below.refl _ _) rfl
      refine steps_cons ?_ ?_
      · refine step_on rfl rfl ?_
        intro ev w5 hS hc hf hold hval a K ha hK
        have e31 : ev (.tmp 31) = .int .i64 most := hval 6 31 (by kernel_rfl) rfl
        have e39 : ev (.tmp 39) = .int .i64 (n : Int) := hval 14 39 (by kernel_rfl) rfl
        replace hS : Grow W2 w5 := ⟨hS.os, hS.tape, hS.output, hS.size, hS.block⟩
        go_simp
        exact hK _ _ (Below.refl _ _) (i64_eq (by rw [IntKind.wrap_i64]; omega))
      refine steps_cons ?_ ?_
      · refine step_on rfl rfl ?_
        intro ev w5 hS hc hf hold hval a K ha hK
        have e27 : ev (.tmp 27) = .int .i64 (nd : Int) := hval 2 27 (by kernel_rfl) rfl
        have e40 : ev (.tmp 40) = .int .i64 (most - (n : Int)) := hval 15 40 (by kernel_rfl) rfl
        replace hS : Grow W2 w5 := ⟨hS.os, hS.tape, hS.output, hS.size, hS.block⟩
        go_simp
        exact hK _ _ (Below.refl _ _) (bool_eq (by simp <;> omega))
      refine steps_cons ?_ ?_
      · refine step_on rfl rfl ?_
        intro ev w5 hS hc hf hold hval a K ha hK
        have e41 : ev (.tmp 41) = .bool true := hval 16 41 (by kernel_rfl) rfl
        replace hS : Grow W2 w5 := ⟨hS.os, hS.tape, hS.output, hS.size, hS.block⟩
        go_simp
        exact hK _ _ (Below.refl _ _) rfl
      exact steps_nil
    · intro ev w6 hS hval
      replace hS : Grow W2 w6 := ⟨hS.os, hS.tape, hS.output, hS.size, hS.block⟩
      have e24 : ev (.tmp 24) = .bool true := hval 17 24 rfl
      simp only [putsOf, List.foldl_cons, List.foldl_nil, Act.put, List.setIfInBounds_toArray, List.set_cons_zero, List.set_cons_succ]
      rw [e24]
      clear hval
      have hF := F.grow hS
      have hres := hF.res
      have r0 : w6.cell? ⟨w.heap.size + 1, 0, none⟩ = some (.int .i64 0) := (hres.cell 0).trans rfl
      have f0 := hres.frozen 0
      have r1 : w6.cell? ⟨w.heap.size + 1, 1, none⟩ = some (.int .i64 0) := (hres.cell 1).trans rfl
      have f1 := hres.frozen 1
      have r2 : w6.cell? ⟨w.heap.size + 1, 2, none⟩ = some (.slice none 0 0) := (hres.cell 2).trans rfl
      have f2 := hres.frozen 2
      have r3 : w6.cell? ⟨w.heap.size + 1, 3, none⟩ = some (.slice none 0 0) := (hres.cell 3).trans rfl
      have f3 := hres.frozen 3
      go_wp2
      have hbl := grow_set (v0 := .int .i64 3) (v1 := .int .i64 0) (v2 := .slice none 0 0) (v3 := .slice none 0 0) (Nat.le_succ w.heap.size) hF.low
      exact do_ret (s := w.heap.size + 1) (A1 := none) (c1 := 0) (A2 := none) (c2 := 0) (.inl rfl) rfl (res_set hres) (Keep.of_below hbl) (made_nil _ _ _) (made_nil _ _ _) (Hp.out.keep hbl)
set_option maxRecDepth 100000 in
set_option maxHeartbeats 4000000 in
theorem Do_del_range (g gp : Nat) (AD : Option Addr) (nd cd B : Nat) (p k : Int) (most : Int) (T D : List UInt8) (w : World) (hg : Bk w g 49 #[.pointer (some ⟨gp, 0, none⟩), .int .i64 most]) (hp : PlS w gp T)
    (hd : Rd w B 1 AD nd (D.map bv)) (hB : B ≤ w.heap.size) (hdne : 0 < nd → ∀ a, AD = some a → a.block ≠ gp) (hgne : g ≠ gp) (hT : T.length ≤ 549755813888) (hD : nd ≤ 549755813888) (hpb : -9223372036854775808 ≤ (p : Int) ∧ (p : Int) ≤ 9223372036854775807) (hkb : -9223372036854775808 ≤ (k : Int) ∧ (k : Int) ≤ 9223372036854775807) (hmb : 0 ≤ most ∧ most ≤ 2147483648)
    (hhas : hasB T.length p k = false) :
    Calls Try.prog 10 #[.pointer (some ⟨g, 0, none⟩), stepV 2 p k AD nd cd] w fun e w' => DoTold gp (T) ⟨2, 0, [], []⟩ w w' e := by
  have Hp := Lib.hid hp
  obtain ⟨A, c, hb, hr, hnc, hne⟩ := hp
  obtain ⟨n, hn⟩ : ∃ n, T.length = n := ⟨_, rfl⟩
  rw [hn] at hb hr hnc hT hne
  rw [hn] at hhas
  have hDl : D.length = nd := by simpa using hd.1
  have F := do_start (kind := 2) (p := p) (k := k) (cd := cd) hg hb hr hd hB hgne
  have HF := Lib.hid F
  have Hn := Lib.hid hn
  have Hne := Lib.hid hne
  have Hdne := Lib.hid hdne
  clear hb hr hd hg F hn hne hdne
  unfold stepV
  go_enter Try.func10, Try.ntmps10
  go_wp2
  obtain ⟨W, hW⟩ : ∃ W, (w.alloc (.cells #[.int .i64 2, .int .i64 p, .int .i64 k, .slice AD nd cd] 32)).alloc (.cells #[.int .i64 0, .int .i64 0, .slice none 0 0, .slice none 0 0] 29) = W := ⟨_, rfl⟩
  rw [hW] at HF ⊢
  have F := HF.out
  clear hW HF
  refine wp_region_any (by kernel_rfl) ?_
  refine wpAny_loose2 [55, 56, 57, 58, 59, 60, 61, 62, 63, 64] Grow (Vs [is (.pointer (some ⟨g, 0, none⟩)), is (.pointer (some ⟨g, 0, none⟩)), is (.pointer (some ⟨g, 0, none⟩)), is (.pointer (some ⟨gp, 0, none⟩)), is (.pointer (some ⟨w.heap.size, 1, none⟩)), is (.int .i64 p), is (.pointer (some ⟨w.heap.size, 2, none⟩)), is (.int .i64 k), is (.bool false), is (.bool true)]) _ _ rfl (by kernel_rfl) (Below.refl _ _) (fun _ _ => Grow.trans) (stb_all (by repeat' (first | exact stb_is _ | exact stb_row _ _ _ | (refine List.forall_mem_cons.2 ⟨?_, ?_⟩) | (intro p hp; cases hp)))) ?_ ?_
  · refine steps_of ?_
    refine steps_cons ?_ ?_
    · refine step_on rfl rfl ?_
      intro ev w5 hS hc hf hold hval a K ha hK
      have e0 : ev (.tmp 0) = .pointer (some ⟨g, 0, none⟩) := hold 0 (by kernel_rfl)
      replace hS : Grow W w5 := ⟨hS.os, hS.tape, hS.output, hS.size, hS.block⟩
      go_simp
      exact hK _ _ (Below.refl _ _) rfl
    refine steps_cons ?_ ?_
    · refine step_on rfl rfl ?_
      intro ev w5 hS hc hf hold hval a K ha hK
      have e55 : ev (.tmp 55) = .pointer (some ⟨g, 0, none⟩) := hval 0 55 (by kernel_rfl) rfl
      replace hS : Grow W w5 := ⟨hS.os, hS.tape, hS.output, hS.size, hS.block⟩
      go_simp
      exact hK _ _ (Below.refl _ _) rfl
    refine steps_cons ?_ ?_
    · refine step_on rfl rfl ?_
      intro ev w5 hS hc hf hold hval a K ha hK
      have e56 : ev (.tmp 56) = .pointer (some ⟨g, 0, none⟩) := hval 1 56 (by kernel_rfl) rfl
      replace hS : Grow W w5 := ⟨hS.os, hS.tape, hS.output, hS.size, hS.block⟩
      go_simp
      exact hK _ _ (Below.refl _ _) rfl
    refine steps_cons ?_ ?_
    · refine step_on rfl rfl ?_
      intro ev w5 hS hc hf hold hval a K ha hK
      have e57 : ev (.tmp 57) = .pointer (some ⟨g, 0, none⟩) := hval 2 57 (by kernel_rfl) rfl
      replace hS : Grow W w5 := ⟨hS.os, hS.tape, hS.output, hS.size, hS.block⟩
      have c58 : w5.cell? ⟨g, 0, none⟩ = some (.pointer (some ⟨gp, 0, none⟩)) := ((F.mod.below hS F.mod.lt).cell 0).trans rfl
      go_simp
      exact hK _ _ (Below.refl _ _) rfl
    refine steps_cons ?_ ?_
    · refine step_on rfl rfl ?_
      intro ev w5 hS hc hf hold hval a K ha hK
      have e3 : ev (.tmp 3) = .pointer (some ⟨w.heap.size, 0, none⟩) := hold 3 (by kernel_rfl)
      replace hS : Grow W w5 := ⟨hS.os, hS.tape, hS.output, hS.size, hS.block⟩
      go_simp
      exact hK _ _ (Below.refl _ _) rfl
    refine steps_cons ?_ ?_
    · refine step_on rfl rfl ?_
      intro ev w5 hS hc hf hold hval a K ha hK
      have e59 : ev (.tmp 59) = .pointer (some ⟨w.heap.size, 1, none⟩) := hval 4 59 (by kernel_rfl) rfl
      replace hS : Grow W w5 := ⟨hS.os, hS.tape, hS.output, hS.size, hS.block⟩
      have c60 : w5.cell? ⟨w.heap.size, 1, none⟩ = some (.int .i64 p) := ((F.step.below hS F.step.lt).cell 1).trans rfl
      go_simp
      exact hK _ _ (Below.refl _ _) rfl
    refine steps_cons ?_ ?_
    · refine step_on rfl rfl ?_
      intro ev w5 hS hc hf hold hval a K ha hK
      have e3 : ev (.tmp 3) = .pointer (some ⟨w.heap.size, 0, none⟩) := hold 3 (by kernel_rfl)
      replace hS : Grow W w5 := ⟨hS.os, hS.tape, hS.output, hS.size, hS.block⟩
      go_simp
      exact hK _ _ (Below.refl _ _) rfl
    refine steps_cons ?_ ?_
    · refine step_on rfl rfl ?_
      intro ev w5 hS hc hf hold hval a K ha hK
      have e61 : ev (.tmp 61) = .pointer (some ⟨w.heap.size, 2, none⟩) := hval 6 61 (by kernel_rfl) rfl
      replace hS : Grow W w5 := ⟨hS.os, hS.tape, hS.output, hS.size, hS.block⟩
      have c62 : w5.cell? ⟨w.heap.size, 2, none⟩ = some (.int .i64 k) := ((F.step.below hS F.step.lt).cell 2).trans rfl
      go_simp
      exact hK _ _ (Below.refl _ _) rfl
    refine steps_cons ?_ ?_
    · refine step_on rfl rfl ?_
      intro ev w5 hS hc hf hold hval a K ha hK
      have e58 : ev (.tmp 58) = .pointer (some ⟨gp, 0, none⟩) := hval 3 58 (by kernel_rfl) rfl
      have e60 : ev (.tmp 60) = .int .i64 p := hval 5 60 (by kernel_rfl) rfl
      have e62 : ev (.tmp 62) = .int .i64 k := hval 7 62 (by kernel_rfl) rfl
      replace hS : Grow W w5 := ⟨hS.os, hS.tape, hS.output, hS.size, hS.block⟩
      go_simp
      refine (has_any gp A n c p (k) w5 (((F.pl.below hS F.pl.lt).cell 0).trans rfl) (by omega) hpb hkb).mono ?_
      rintro e w8 ⟨rfl, rfl⟩
      exact hK _ _ (Below.refl _ _) (bool_eq hhas)
    refine steps_cons ?_ ?_
    · refine step_on rfl rfl ?_
      intro ev w5 hS hc hf hold hval a K ha hK
      have e63 : ev (.tmp 63) = .bool false := hval 8 63 (by kernel_rfl) rfl
      replace hS : Grow W w5 := ⟨hS.os, hS.tape, hS.output, hS.size, hS.block⟩
      go_simp
      exact hK _ _ (Below.refl _ _) rfl
    exact steps_nil
  · intro ev w6 hS hval
    replace hS : Grow W w6 := ⟨hS.os, hS.tape, hS.output, hS.size, hS.block⟩
    have e64 : ev (.tmp 64) = .bool true := hval 9 64 rfl
    simp only [putsOf, List.foldl_cons, List.foldl_nil, Act.put, List.setIfInBounds_toArray, List.set_cons_zero, List.set_cons_succ]
    rw [e64]
    clear hval
    have hF := F.grow hS
    have hres := hF.res
    have r0 : w6.cell? ⟨w.heap.size + 1, 0, none⟩ = some (.int .i64 0) := (hres.cell 0).trans rfl
    have f0 := hres.frozen 0
    have r1 : w6.cell? ⟨w.heap.size + 1, 1, none⟩ = some (.int .i64 0) := (hres.cell 1).trans rfl
    have f1 := hres.frozen 1
    have r2 : w6.cell? ⟨w.heap.size + 1, 2, none⟩ = some (.slice none 0 0) := (hres.cell 2).trans rfl
    have f2 := hres.frozen 2
    have r3 : w6.cell? ⟨w.heap.size + 1, 3, none⟩ = some (.slice none 0 0) := (hres.cell 3).trans rfl
    have f3 := hres.frozen 3
    go_wp2
    have hbl := grow_set (v0 := .int .i64 2) (v1 := .int .i64 0) (v2 := .slice none 0 0) (v3 := .slice none 0 0) (Nat.le_succ w.heap.size) hF.low
    exact do_ret (s := w.heap.size + 1) (A1 := none) (c1 := 0) (A2 := none) (c2 := 0) (.inl rfl) rfl (res_set hres) (Keep.of_below hbl) (made_nil _ _ _) (made_nil _ _ _) (Hp.out.keep hbl)
set_option maxRecDepth 100000 in
set_option maxHeartbeats 4000000 in
theorem Do_take_range (g gp : Nat) (AD : Option Addr) (nd cd B : Nat) (p k : Int) (most : Int) (T D : List UInt8) (w : World) (hg : Bk w g 49 #[.pointer (some ⟨gp, 0, none⟩), .int .i64 most]) (hp : PlS w gp T)
    (hd : Rd w B 1 AD nd (D.map bv)) (hB : B ≤ w.heap.size) (hdne : 0 < nd → ∀ a, AD = some a → a.block ≠ gp) (hgne : g ≠ gp) (hT : T.length ≤ 549755813888) (hD : nd ≤ 549755813888) (hpb : -9223372036854775808 ≤ (p : Int) ∧ (p : Int) ≤ 9223372036854775807) (hkb : -9223372036854775808 ≤ (k : Int) ∧ (k : Int) ≤ 9223372036854775807) (hmb : 0 ≤ most ∧ most ≤ 2147483648)
    (hhas : hasB T.length p k = false) :
    Calls Try.prog 10 #[.pointer (some ⟨g, 0, none⟩), stepV 5 p k AD nd cd] w fun e w' => DoTold gp (T) ⟨2, 0, [], []⟩ w w' e := by
  have Hp := Lib.hid hp
  obtain ⟨A, c, hb, hr, hnc, hne⟩ := hp
  obtain ⟨n, hn⟩ : ∃ n, T.length = n := ⟨_, rfl⟩
  rw [hn] at hb hr hnc hT hne
  rw [hn] at hhas
  have hDl : D.length = nd := by simpa using hd.1
  have F := do_start (kind := 5) (p := p) (k := k) (cd := cd) hg hb hr hd hB hgne
  have HF := Lib.hid F
  have Hn := Lib.hid hn
  have Hne := Lib.hid hne
  have Hdne := Lib.hid hdne
  clear hb hr hd hg F hn hne hdne
  unfold stepV
  go_enter Try.func10, Try.ntmps10
  go_wp2
  obtain ⟨W, hW⟩ : ∃ W, (w.alloc (.cells #[.int .i64 5, .int .i64 p, .int .i64 k, .slice AD nd cd] 32)).alloc (.cells #[.int .i64 0, .int .i64 0, .slice none 0 0, .slice none 0 0] 29) = W := ⟨_, rfl⟩
  rw [hW] at HF ⊢
  have F := HF.out
  clear hW HF
  refine wp_region_any (by kernel_rfl) ?_
  refine wpAny_loose2 [55, 56, 57, 58, 59, 60, 61, 62, 63, 64] Grow (Vs [is (.pointer (some ⟨g, 0, none⟩)), is (.pointer (some ⟨g, 0, none⟩)), is (.pointer (some ⟨g, 0, none⟩)), is (.pointer (some ⟨gp, 0, none⟩)), is (.pointer (some ⟨w.heap.size, 1, none⟩)), is (.int .i64 p), is (.pointer (some ⟨w.heap.size, 2, none⟩)), is (.int .i64 k), is (.bool false), is (.bool true)]) _ _ rfl (by kernel_rfl) (Below.refl _ _) (fun _ _ => Grow.trans) (stb_all (by repeat' (first | exact stb_is _ | exact stb_row _ _ _ | (refine List.forall_mem_cons.2 ⟨?_, ?_⟩) | (intro p hp; cases hp)))) ?_ ?_
  · refine steps_of ?_
    refine steps_cons ?_ ?_
    · refine step_on rfl rfl ?_
      intro ev w5 hS hc hf hold hval a K ha hK
      have e0 : ev (.tmp 0) = .pointer (some ⟨g, 0, none⟩) := hold 0 (by kernel_rfl)
      replace hS : Grow W w5 := ⟨hS.os, hS.tape, hS.output, hS.size, hS.block⟩
      go_simp
      exact hK _ _ (Below.refl _ _) rfl
    refine steps_cons ?_ ?_
    · refine step_on rfl rfl ?_
      intro ev w5 hS hc hf hold hval a K ha hK
      have e55 : ev (.tmp 55) = .pointer (some ⟨g, 0, none⟩) := hval 0 55 (by kernel_rfl) rfl
      replace hS : Grow W w5 := ⟨hS.os, hS.tape, hS.output, hS.size, hS.block⟩
      go_simp
      exact hK _ _ (Below.refl _ _) rfl
    refine steps_cons ?_ ?_
    · refine step_on rfl rfl ?_
      intro ev w5 hS hc hf hold hval a K ha hK
      have e56 : ev (.tmp 56) = .pointer (some ⟨g, 0, none⟩) := hval 1 56 (by kernel_rfl) rfl
      replace hS : Grow W w5 := ⟨hS.os, hS.tape, hS.output, hS.size, hS.block⟩
      go_simp
      exact hK _ _ (Below.refl _ _) rfl
    refine steps_cons ?_ ?_
    · refine step_on rfl rfl ?_
      intro ev w5 hS hc hf hold hval a K ha hK
      have e57 : ev (.tmp 57) = .pointer (some ⟨g, 0, none⟩) := hval 2 57 (by kernel_rfl) rfl
      replace hS : Grow W w5 := ⟨hS.os, hS.tape, hS.output, hS.size, hS.block⟩
      have c58 : w5.cell? ⟨g, 0, none⟩ = some (.pointer (some ⟨gp, 0, none⟩)) := ((F.mod.below hS F.mod.lt).cell 0).trans rfl
      go_simp
      exact hK _ _ (Below.refl _ _) rfl
    refine steps_cons ?_ ?_
    · refine step_on rfl rfl ?_
      intro ev w5 hS hc hf hold hval a K ha hK
      have e3 : ev (.tmp 3) = .pointer (some ⟨w.heap.size, 0, none⟩) := hold 3 (by kernel_rfl)
      replace hS : Grow W w5 := ⟨hS.os, hS.tape, hS.output, hS.size, hS.block⟩
      go_simp
      exact hK _ _ (Below.refl _ _) rfl
    refine steps_cons ?_ ?_
    · refine step_on rfl rfl ?_
      intro ev w5 hS hc hf hold hval a K ha hK
      have e59 : ev (.tmp 59) = .pointer (some ⟨w.heap.size, 1, none⟩) := hval 4 59 (by kernel_rfl) rfl
      replace hS : Grow W w5 := ⟨hS.os, hS.tape, hS.output, hS.size, hS.block⟩
      have c60 : w5.cell? ⟨w.heap.size, 1, none⟩ = some (.int .i64 p) := ((F.step.below hS F.step.lt).cell 1).trans rfl
      go_simp
      exact hK _ _ (Below.refl _ _) rfl
    refine steps_cons ?_ ?_
    · refine step_on rfl rfl ?_
      intro ev w5 hS hc hf hold hval a K ha hK
      have e3 : ev (.tmp 3) = .pointer (some ⟨w.heap.size, 0, none⟩) := hold 3 (by kernel_rfl)
      replace hS : Grow W w5 := ⟨hS.os, hS.tape, hS.output, hS.size, hS.block⟩
      go_simp
      exact hK _ _ (Below.refl _ _) rfl
    refine steps_cons ?_ ?_
    · refine step_on rfl rfl ?_
      intro ev w5 hS hc hf hold hval a K ha hK
      have e61 : ev (.tmp 61) = .pointer (some ⟨w.heap.size, 2, none⟩) := hval 6 61 (by kernel_rfl) rfl
      replace hS : Grow W w5 := ⟨hS.os, hS.tape, hS.output, hS.size, hS.block⟩
      have c62 : w5.cell? ⟨w.heap.size, 2, none⟩ = some (.int .i64 k) := ((F.step.below hS F.step.lt).cell 2).trans rfl
      go_simp
      exact hK _ _ (Below.refl _ _) rfl
    refine steps_cons ?_ ?_
    · refine step_on rfl rfl ?_
      intro ev w5 hS hc hf hold hval a K ha hK
      have e58 : ev (.tmp 58) = .pointer (some ⟨gp, 0, none⟩) := hval 3 58 (by kernel_rfl) rfl
      have e60 : ev (.tmp 60) = .int .i64 p := hval 5 60 (by kernel_rfl) rfl
      have e62 : ev (.tmp 62) = .int .i64 k := hval 7 62 (by kernel_rfl) rfl
      replace hS : Grow W w5 := ⟨hS.os, hS.tape, hS.output, hS.size, hS.block⟩
      go_simp
      refine (has_any gp A n c p (k) w5 (((F.pl.below hS F.pl.lt).cell 0).trans rfl) (by omega) hpb hkb).mono ?_
      rintro e w8 ⟨rfl, rfl⟩
      exact hK _ _ (Below.refl _ _) (bool_eq hhas)
    refine steps_cons ?_ ?_
    · refine step_on rfl rfl ?_
      intro ev w5 hS hc hf hold hval a K ha hK
      have e63 : ev (.tmp 63) = .bool false := hval 8 63 (by kernel_rfl) rfl
      replace hS : Grow W w5 := ⟨hS.os, hS.tape, hS.output, hS.size, hS.block⟩
      go_simp
      exact hK _ _ (Below.refl _ _) rfl
    exact steps_nil
  · intro ev w6 hS hval
    replace hS : Grow W w6 := ⟨hS.os, hS.tape, hS.output, hS.size, hS.block⟩
    have e64 : ev (.tmp 64) = .bool true := hval 9 64 rfl
    simp only [putsOf, List.foldl_cons, List.foldl_nil, Act.put, List.setIfInBounds_toArray, List.set_cons_zero, List.set_cons_succ]
    rw [e64]
    clear hval
    have hF := F.grow hS
    have hres := hF.res
    have r0 : w6.cell? ⟨w.heap.size + 1, 0, none⟩ = some (.int .i64 0) := (hres.cell 0).trans rfl
    have f0 := hres.frozen 0
    have r1 : w6.cell? ⟨w.heap.size + 1, 1, none⟩ = some (.int .i64 0) := (hres.cell 1).trans rfl
    have f1 := hres.frozen 1
    have r2 : w6.cell? ⟨w.heap.size + 1, 2, none⟩ = some (.slice none 0 0) := (hres.cell 2).trans rfl
    have f2 := hres.frozen 2
    have r3 : w6.cell? ⟨w.heap.size + 1, 3, none⟩ = some (.slice none 0 0) := (hres.cell 3).trans rfl
    have f3 := hres.frozen 3
    go_wp2
    have hbl := grow_set (v0 := .int .i64 2) (v1 := .int .i64 0) (v2 := .slice none 0 0) (v3 := .slice none 0 0) (Nat.le_succ w.heap.size) hF.low
    exact do_ret (s := w.heap.size + 1) (A1 := none) (c1 := 0) (A2 := none) (c2 := 0) (.inl rfl) rfl (res_set hres) (Keep.of_below hbl) (made_nil _ _ _) (made_nil _ _ _) (Hp.out.keep hbl)
set_option maxRecDepth 100000 in
set_option maxHeartbeats 4000000 in
theorem Do_set_range (g gp : Nat) (AD : Option Addr) (nd cd B : Nat) (p k : Int) (most : Int) (T D : List UInt8) (w : World) (hg : Bk w g 49 #[.pointer (some ⟨gp, 0, none⟩), .int .i64 most]) (hp : PlS w gp T)
    (hd : Rd w B 1 AD nd (D.map bv)) (hB : B ≤ w.heap.size) (hdne : 0 < nd → ∀ a, AD = some a → a.block ≠ gp) (hgne : g ≠ gp) (hT : T.length ≤ 549755813888) (hD : nd ≤ 549755813888) (hpb : -9223372036854775808 ≤ (p : Int) ∧ (p : Int) ≤ 9223372036854775807) (hkb : -9223372036854775808 ≤ (k : Int) ∧ (k : Int) ≤ 9223372036854775807) (hmb : 0 ≤ most ∧ most ≤ 2147483648)
    (hhas : hasB T.length p nd = false) :
    Calls Try.prog 10 #[.pointer (some ⟨g, 0, none⟩), stepV 3 p k AD nd cd] w fun e w' => DoTold gp (T) ⟨2, 0, [], []⟩ w w' e := by
  have Hp := Lib.hid hp
  obtain ⟨A, c, hb, hr, hnc, hne⟩ := hp
  obtain ⟨n, hn⟩ : ∃ n, T.length = n := ⟨_, rfl⟩
  rw [hn] at hb hr hnc hT hne
  rw [hn] at hhas
  have hDl : D.length = nd := by simpa using hd.1
  have F := do_start (kind := 3) (p := p) (k := k) (cd := cd) hg hb hr hd hB hgne
  have HF := Lib.hid F
  have Hn := Lib.hid hn
  have Hne := Lib.hid hne
  have Hdne := Lib.hid hdne
  clear hb hr hd hg F hn hne hdne
  unfold stepV
  go_enter Try.func10, Try.ntmps10
  go_wp2
  obtain ⟨W, hW⟩ : ∃ W, (w.alloc (.cells #[.int .i64 3, .int .i64 p, .int .i64 k, .slice AD nd cd] 32)).alloc (.cells #[.int .i64 0, .int .i64 0, .slice none 0 0, .slice none 0 0] 29) = W := ⟨_, rfl⟩
  rw [hW] at HF ⊢
  have F := HF.out
  clear hW HF
  refine wp_region_any (by kernel_rfl) ?_
  refine wpAny_loose2 [97, 98, 99, 100, 101, 102, 103, 104, 105, 106, 107] Grow (Vs [is (.pointer (some ⟨g, 0, none⟩)), is (.pointer (some ⟨g, 0, none⟩)), is (.pointer (some ⟨g, 0, none⟩)), is (.pointer (some ⟨gp, 0, none⟩)), is (.pointer (some ⟨w.heap.size, 1, none⟩)), is (.int .i64 p), is (.pointer (some ⟨w.heap.size, 3, none⟩)), is (.slice AD nd cd), is (.int .i64 (nd : Int)), is (.bool false), is (.bool true)]) _ _ rfl (by kernel_rfl) (Below.refl _ _) (fun _ _ => Grow.trans) (stb_all (by repeat' (first | exact stb_is _ | exact stb_row _ _ _ | (refine List.forall_mem_cons.2 ⟨?_, ?_⟩) | (intro p hp; cases hp)))) ?_ ?_
  · refine steps_of ?_
    refine steps_cons ?_ ?_
    · refine step_on rfl rfl ?_
      intro ev w5 hS hc hf hold hval a K ha hK
      have e0 : ev (.tmp 0) = .pointer (some ⟨g, 0, none⟩) := hold 0 (by kernel_rfl)
      replace hS : Grow W w5 := ⟨hS.os, hS.tape, hS.output, hS.size, hS.block⟩
      go_simp
      exact hK _ _ (Below.refl _ _) rfl
    refine steps_cons ?_ ?_
    · refine step_on rfl rfl ?_
      intro ev w5 hS hc hf hold hval a K ha hK
      have e97 : ev (.tmp 97) = .pointer (some ⟨g, 0, none⟩) := hval 0 97 (by kernel_rfl) rfl
      replace hS : Grow W w5 := ⟨hS.os, hS.tape, hS.output, hS.size, hS.block⟩
      go_simp
      exact hK _ _ (Below.refl _ _) rfl
    refine steps_cons ?_ ?_
    · refine step_on rfl rfl ?_
      intro ev w5 hS hc hf hold hval a K ha hK
      have e98 : ev (.tmp 98) = .pointer (some ⟨g, 0, none⟩) := hval 1 98 (by kernel_rfl) rfl
      replace hS : Grow W w5 := ⟨hS.os, hS.tape, hS.output, hS.size, hS.block⟩
      go_simp
      exact hK _ _ (Below.refl _ _) rfl
    refine steps_cons ?_ ?_
    · refine step_on rfl rfl ?_
      intro ev w5 hS hc hf hold hval a K ha hK
      have e99 : ev (.tmp 99) = .pointer (some ⟨g, 0, none⟩) := hval 2 99 (by kernel_rfl) rfl
      replace hS : Grow W w5 := ⟨hS.os, hS.tape, hS.output, hS.size, hS.block⟩
      have c100 : w5.cell? ⟨g, 0, none⟩ = some (.pointer (some ⟨gp, 0, none⟩)) := ((F.mod.below hS F.mod.lt).cell 0).trans rfl
      go_simp
      exact hK _ _ (Below.refl _ _) rfl
    refine steps_cons ?_ ?_
    · refine step_on rfl rfl ?_
      intro ev w5 hS hc hf hold hval a K ha hK
      have e3 : ev (.tmp 3) = .pointer (some ⟨w.heap.size, 0, none⟩) := hold 3 (by kernel_rfl)
      replace hS : Grow W w5 := ⟨hS.os, hS.tape, hS.output, hS.size, hS.block⟩
      go_simp
      exact hK _ _ (Below.refl _ _) rfl
    refine steps_cons ?_ ?_
    · refine step_on rfl rfl ?_
      intro ev w5 hS hc hf hold hval a K ha hK
      have e101 : ev (.tmp 101) = .pointer (some ⟨w.heap.size, 1, none⟩) := hval 4 101 (by kernel_rfl) rfl
      replace hS : Grow W w5 := ⟨hS.os, hS.tape, hS.output, hS.size, hS.block⟩
      have c102 : w5.cell? ⟨w.heap.size, 1, none⟩ = some (.int .i64 p) := ((F.step.below hS F.step.lt).cell 1).trans rfl
      go_simp
      exact hK _ _ (Below.refl _ _) rfl
    refine steps_cons ?_ ?_
    · refine step_on rfl rfl ?_
      intro ev w5 hS hc hf hold hval a K ha hK
      have e3 : ev (.tmp 3) = .pointer (some ⟨w.heap.size, 0, none⟩) := hold 3 (by kernel_rfl)
      replace hS : Grow W w5 := ⟨hS.os, hS.tape, hS.output, hS.size, hS.block⟩
      go_simp
      exact hK _ _ (Below.refl _ _) rfl
    refine steps_cons ?_ ?_
    · refine step_on rfl rfl ?_
      intro ev w5 hS hc hf hold hval a K ha hK
      have e103 : ev (.tmp 103) = .pointer (some ⟨w.heap.size, 3, none⟩) := hval 6 103 (by kernel_rfl) rfl
      replace hS : Grow W w5 := ⟨hS.os, hS.tape, hS.output, hS.size, hS.block⟩
      have c104 : w5.cell? ⟨w.heap.size, 3, none⟩ = some (.slice AD nd cd) := ((F.step.below hS F.step.lt).cell 3).trans rfl
      go_simp
      exact hK _ _ (Below.refl _ _) rfl
    refine steps_cons ?_ ?_
    · refine step_on rfl rfl ?_
      intro ev w5 hS hc hf hold hval a K ha hK
      have e104 : ev (.tmp 104) = .slice AD nd cd := hval 7 104 (by kernel_rfl) rfl
      replace hS : Grow W w5 := ⟨hS.os, hS.tape, hS.output, hS.size, hS.block⟩
      go_simp
      exact hK _ _ (Below.refl _ _) rfl
    refine steps_cons ?_ ?_
    · refine step_on rfl rfl ?_
      intro ev w5 hS hc hf hold hval a K ha hK
      have e100 : ev (.tmp 100) = .pointer (some ⟨gp, 0, none⟩) := hval 3 100 (by kernel_rfl) rfl
      have e102 : ev (.tmp 102) = .int .i64 p := hval 5 102 (by kernel_rfl) rfl
      have e105 : ev (.tmp 105) = .int .i64 (nd : Int) := hval 8 105 (by kernel_rfl) rfl
      replace hS : Grow W w5 := ⟨hS.os, hS.tape, hS.output, hS.size, hS.block⟩
      go_simp
      refine (has_any gp A n c p (nd) w5 (((F.pl.below hS F.pl.lt).cell 0).trans rfl) (by omega) hpb (by omega)).mono ?_
      rintro e w8 ⟨rfl, rfl⟩
      exact hK _ _ (Below.refl _ _) (bool_eq hhas)
    refine steps_cons ?_ ?_
    · refine step_on rfl rfl ?_
      intro ev w5 hS hc hf hold hval a K ha hK
      have e106 : ev (.tmp 106) = .bool false := hval 9 106 (by kernel_rfl) rfl
      replace hS : Grow W w5 := ⟨hS.os, hS.tape, hS.output, hS.size, hS.block⟩
      go_simp
      exact hK _ _ (Below.refl _ _) rfl
    exact steps_nil
  · intro ev w6 hS hval
    replace hS : Grow W w6 := ⟨hS.os, hS.tape, hS.output, hS.size, hS.block⟩
    have e107 : ev (.tmp 107) = .bool true := hval 10 107 rfl
    simp only [putsOf, List.foldl_cons, List.foldl_nil, Act.put, List.setIfInBounds_toArray, List.set_cons_zero, List.set_cons_succ]
    rw [e107]
    clear hval
    have hF := F.grow hS
    have hres := hF.res
    have r0 : w6.cell? ⟨w.heap.size + 1, 0, none⟩ = some (.int .i64 0) := (hres.cell 0).trans rfl
    have f0 := hres.frozen 0
    have r1 : w6.cell? ⟨w.heap.size + 1, 1, none⟩ = some (.int .i64 0) := (hres.cell 1).trans rfl
    have f1 := hres.frozen 1
    have r2 : w6.cell? ⟨w.heap.size + 1, 2, none⟩ = some (.slice none 0 0) := (hres.cell 2).trans rfl
    have f2 := hres.frozen 2
    have r3 : w6.cell? ⟨w.heap.size + 1, 3, none⟩ = some (.slice none 0 0) := (hres.cell 3).trans rfl
    have f3 := hres.frozen 3
    go_wp2
    have hbl := grow_set (v0 := .int .i64 2) (v1 := .int .i64 0) (v2 := .slice none 0 0) (v3 := .slice none 0 0) (Nat.le_succ w.heap.size) hF.low
    exact do_ret (s := w.heap.size + 1) (A1 := none) (c1 := 0) (A2 := none) (c2 := 0) (.inl rfl) rfl (res_set hres) (Keep.of_below hbl) (made_nil _ _ _) (made_nil _ _ _) (Hp.out.keep hbl)
end Go.Proofs.Ytmebhlopmgfobaa
