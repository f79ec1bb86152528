/- A model that the law's own call has made, and its calls. Conditions: sizes of at most 2^39. -/
import Derived.Test.YtmebhlopmgfobaaModSame
namespace Go.Proofs.Ytmebhlopmgfobaa
open Go.RowKit
set_option linter.unusedVariables false
set_option linter.unusedSimpArgs false
/-- The code of an answer, out of its value. -/
theorem run_code (code num : Int) (v2 v3 : Value) (w : World) : (Instr.field 29 (.agg #[.int .i64 code, .int .i64 num, v2, v3]) 0).run Try.prog w = .ok (.int .i64 code) w := by kernel_rfl
/-- Since w0 a model has been made: it is T, and may be so long. -/
structure MS (w0 w : World) (g gp : Nat) (T : List UInt8) (most : Int) : Prop where
  low : Below w0.heap.size w0 w
  g0 : w0.heap.size ≤ g
  gp0 : w0.heap.size ≤ gp
  ne : g ≠ gp
  mod : Bk w g 49 #[.pointer (some ⟨gp, 0, none⟩), .int .i64 most]
  pl : PlS w gp T
section
variable {w0 w w' : World} {g gp : Nat} {T : List UInt8} {most : Int}
theorem MS.grow (M : MS w0 w g gp T most) (h : Below w.heap.size w w') : MS w0 w' g gp T most := ⟨M.low.trans (Below.mono h M.low.size), M.g0, M.gp0, M.ne, M.mod.below h M.mod.lt, M.pl.keep h⟩
theorem MS.alloc (M : MS w0 w g gp T most) (o : Obj) : MS w0 (w.alloc o) g gp T most := M.grow ((Below.refl _ _).alloc (Nat.le_refl _) o)
theorem MS.size (M : MS w0 w g gp T most) : w0.heap.size ≤ w.heap.size := M.low.size
theorem MS.pls (M : MS w0 w g gp T most) : ∃ A c, Bk w gp 47 #[.slice A T.length c] ∧ Rd w w.heap.size 1 A T.length (T.map bv) := by
  obtain ⟨A, c, h1, h2, _⟩ := M.pl
  exact ⟨A, c, h1, h2⟩
theorem PlS.lt (h : PlS w gp T) : gp < w.heap.size := by
  obtain ⟨A, c, h1, _⟩ := h
  exact h1.lt
theorem ms_new {e : Ending} (w0 w w' : World) (most : Int) (hl : Below w0.heap.size w0 w) (h : NewTold most w w' e) : ∃ g gp, e = .returned (.tuple #[.pointer (some ⟨g, 0, none⟩), .int .i64 0]) ∧ MS w0 w' g gp [] most ∧ w.heap.size ≤ g ∧ w.heap.size ≤ gp := by
  obtain ⟨g, gp, he, hb, hg, hgp, hne, h1, h2⟩ := h
  have := hl.size
  exact ⟨g, gp, he, ⟨hl.trans (hb.mono hl.size), by omega, by omega, hne, h1, none, 0, h2, Rd.nil _ _ _ _, Nat.le_refl _, fun _ a ha => by cases ha⟩, hg, hgp⟩
/-- What a step of such a model tells. -/
structure Ans (w0 w w' : World) (g gp : Nat) (T2 : List UInt8) (most : Int) (X : List UInt8) (L : List Nat) (A1 : Option Addr) (c1 : Nat) (A2 : Option Addr) (c2 : Nat) : Prop where
  ms : MS w0 w' g gp T2 most
  keep : Keep (fun b => b = gp) w w'
  data : Made w' w.heap.size 5 1 A1 X.length c1 (X.map bv)
  places : Made w' w.heap.size 3 1 A2 L.length c2 (L.map nv)
theorem Do_ms (M : MS w0 w g gp T most) (AD : Option Addr) (nd cd B : Nat) (kind p k : Int) (D T2 X : List UInt8) (L : List Nat) (code num : Int) (nx nl : Nat) (h2 : doM T most kind p k D = (T2, ⟨code, num, X, L⟩)) (hx : X.length = nx) (hl : L.length = nl)
    (hd : Rd w B 1 AD nd (D.map bv)) (hB : B ≤ w.heap.size) (hdne : 0 < nd → ∀ a, AD = some a → a.block ≠ gp) (hT : T.length ≤ 549755813888) (hD : nd ≤ 549755813888) (hpb : -9223372036854775808 ≤ p ∧ p ≤ 9223372036854775807) (hkb : -9223372036854775808 ≤ k ∧ k ≤ 9223372036854775807) (hmb : 0 ≤ most ∧ most ≤ 2147483648) :
    Calls Try.prog 10 #[.pointer (some ⟨g, 0, none⟩), .agg #[.int .i64 kind, .int .i64 p, .int .i64 k, .slice AD nd cd]] w fun e w' => ∃ A1 c1 A2 c2, e = .returned (.agg #[.int .i64 code, .int .i64 num, .slice A1 nx c1, .slice A2 nl c2]) ∧ Ans w0 w w' g gp T2 most X L A1 c1 A2 c2 := by
  subst hx
  subst hl
  refine (Do_any g gp AD nd cd B kind p k most T D T2 ⟨code, num, X, L⟩ h2 w M.mod M.pl hd hB hdne M.ne hT hD hpb hkb hmb).mono ?_
  rintro e w' ⟨A1, c1, A2, c2, he, hk, h3, h4, h5⟩
  refine ⟨A1, c1, A2, c2, he, ⟨M.low.trans (hk.to_below M.low.size fun b hb h => ?_), M.g0, M.gp0, M.ne, hk.bk M.mod (fun h => M.ne h), h5⟩, hk, h3, h4⟩
  have h6 : b = gp := h
  have := M.gp0
  omega
theorem Text_ms (M : MS w0 w g gp T most) (n : Nat) (hn : T.length = n) (hT : T.length ≤ 549755813888) :
    Calls Try.prog 11 #[.pointer (some ⟨g, 0, none⟩)] w fun e w' => ∃ A' c', e = .returned (.slice A' n c') ∧ Made w' w.heap.size 5 1 A' n c' (T.map bv) ∧ Below w.heap.size w w' := by
  subst hn
  obtain ⟨A, c, h1, h2⟩ := M.pls
  exact mText_any g gp A T.length c _ T most w M.mod h1 h2 (Nat.le_refl _) (by omega)
end
end Go.Proofs.Ytmebhlopmgfobaa
