/- Regions that draw their order and in which one operation appends to a row of the function's own: the properties that stay. No conditions. -/
import Derived.Test.YthcoldomeedbnaaLoose3
namespace Go.Proofs.Ythcoldomeedbnaa
open Go.RowKit Go
set_option linter.unusedVariables false
/-- Operation J may write the row's block; the others lay new blocks only. -/
def PushStep (J : Nat) (vs : Value) (j : Nat) (w w' : World) : Prop := (j = J → Keep (fun b => vs.ownBlock = some b) w w') ∧ (j ≠ J → Grow w w')
def GrowP (vs : Value) (W0 w : World) : Prop := Keep (fun b => vs.ownBlock = some b) W0 w
def PushPre (J base : Nat) (e : TypeId) (sz : Nat) (vs : Value) (n : Nat) (xs : List Value) (j : Nat) (w : World) : Prop := j = J → w.ownsRow base e sz vs n xs
theorem push_any {J j : Nat} {vs : Value} {w w' : World} (h : PushStep J vs j w w') : Keep (fun b => vs.ownBlock = some b) w w' := by
  by_cases hj : j = J
  · exact h.1 hj
  · exact Keep.of_below (h.2 hj)
theorem pushC {J j : Nat} {vs : Value} {W0 w w' : World} (h : GrowP vs W0 w) (k : PushStep J vs j w w') : GrowP vs W0 w' := Keep.trans h (push_any k)
theorem push_grow {J j : Nat} {vs : Value} {w w' : World} (hj : j ≠ J) (h : Grow w w') : PushStep J vs j w w' := ⟨fun e => absurd e hj, fun _ => h⟩
theorem push_keep {J : Nat} {vs : Value} {w w' : World} (h : w.grownBy w' vs.ownBlock) : PushStep J vs J w w' := ⟨fun _ => Keep.grown (Keep.refl _ _) h fun k hk => .inl hk, fun e => absurd rfl e⟩
theorem pushPre_stab {J base sz n i j : Nat} {e : TypeId} {vs : Value} {xs : List Value} {w w' : World} (hij : i ≠ j) (h : PushPre J base e sz vs n xs i w) (k : PushStep J vs j w w') : PushPre J base e sz vs n xs i w' := by
  intro hi
  subst hi
  exact own_below (h rfl) (k.2 fun e => hij e.symm)
/-- A slice of one element in a block of its own. -/
def new1 (vs : Value) (e : TypeId) (cs : Array Value) : Value → World → Prop := fun v w => ∃ g, v = .slice (some ⟨g, 0, none⟩) 1 1 ∧ Bk w g e cs ∧ vs.ownBlock ≠ some g
theorem new1_stab {J j : Nat} {vs : Value} {e : TypeId} {cs : Array Value} {v : Value} {w w' : World} (k : PushStep J vs j w w') (h : new1 vs e cs v w) : new1 vs e cs v w' := by
  obtain ⟨g, h1, h2, h3⟩ := h
  exact ⟨g, h1, Keep.bk (push_any k) h2 h3, h3⟩
def ownr (base : Nat) (e : TypeId) (sz n : Nat) (xs : List Value) : Value → World → Prop := fun v w => w.ownsRow base e sz v n xs
theorem ownr_stab {J j base sz n : Nat} {vs : Value} {e : TypeId} {xs : List Value} {v : Value} {w w' : World} (hj : j ≠ J) (k : PushStep J vs j w w') (h : ownr base e sz n xs v w) : ownr base e sz n xs v w' := own_below h (k.2 hj)
theorem push_ne {base sz n : Nat} {e : TypeId} {vs : Value} {xs : List Value} {W0 w : World} (h : W0.ownsRow base e sz vs n xs) (hS : GrowP vs W0 w) : vs.ownBlock ≠ some w.heap.size := by
  intro hb
  have := (h.lt _ hb).2
  have := Keep.size hS
  omega
theorem rd_bk {w : World} {g sz : Nat} {e : TypeId} {cs : Array Value} (h : Bk w g e cs) (hs : cs.size = sz) : Rd w w.heap.size sz (some ⟨g, 0, none⟩) 1 cs.toList := by
  refine ⟨by simp [hs], fun _ => ⟨g, 0, rfl, h.lt, fun i u hu => ?_⟩⟩
  rw [Nat.zero_add, h.cell i]
  rw [← hu]
  simp
end Go.Proofs.Ythcoldomeedbnaa
