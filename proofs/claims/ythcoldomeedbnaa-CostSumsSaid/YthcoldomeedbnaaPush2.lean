/- Two appends in one region that draws its order: properties of blocks. No conditions. -/
import Derived.Test.YthcoldomeedbnaaPush
import Derived.Test.YthcoldomeedbnaaLoose5
namespace Go.Proofs.Ythcoldomeedbnaa
open Go.RowKit Go
set_option linter.unusedVariables false
/-- A row of one's own, with a property of its block. -/
def ownf (base : Nat) (e : TypeId) (sz n : Nat) (xs : List Value) (F : Nat → Prop) : Value → World → Prop := fun v w => w.ownsRow base e sz v n xs ∧ ∀ g, v.ownBlock = some g → F g
/-- A slice of one element in a block that is new since N. -/
def newg (N : Nat) (e : TypeId) (cs : Array Value) : Value → World → Prop := fun v w => ∃ g, v = .slice (some ⟨g, 0, none⟩) 1 1 ∧ Bk w g e cs ∧ N ≤ g
/-- A row kept by steps that write another block only. -/
theorem ownk_keep {w w' : World} {base : Nat} {e : TypeId} {sz n : Nat} {v vs : Value} {xs : List Value} (h : w.ownsRow base e sz v n xs) (hne : ∀ g, v.ownBlock = some g → vs.ownBlock ≠ some g) (hS : Keep (fun b => vs.ownBlock = some b) w w') : w'.ownsRow base e sz v n xs := by
  refine ⟨h.1, ?_⟩
  rcases h.2 with hn | ⟨g, cap, cur, rfl, hb, hgg, rest⟩
  · exact .inl hn
  · refine .inr ⟨g, cap, cur, rfl, hb, ?_, rest⟩
    have hg : g < w.heap.size := lt_of_block hgg
    rw [hS.block g hg (hne g rfl)]
    exact hgg
theorem newg_stab {J j N : Nat} {vs : Value} {e : TypeId} {cs : Array Value} {v : Value} {w w' : World} (hva : ∀ g, vs.ownBlock = some g → g < N) (k : PushStep J vs j w w') (h : newg N e cs v w) : newg N e cs v w' := by
  obtain ⟨g, h1, h2, h3⟩ := h
  refine ⟨g, h1, Keep.bk (push_any k) h2 (fun hb => ?_), h3⟩
  have := hva g hb
  omega
theorem ownf_stab {J j base sz n : Nat} {vs : Value} {e : TypeId} {xs : List Value} {F : Nat → Prop} {v : Value} {w w' : World} (hj : j ≠ J) (k : PushStep J vs j w w') (h : ownf base e sz n xs F v w) : ownf base e sz n xs F v w' := ⟨own_below h.1 (k.2 hj), h.2⟩
theorem ownf_keep {J j N base sz n : Nat} {vs : Value} {e : TypeId} {xs : List Value} {v : Value} {w w' : World} (hva : ∀ g, vs.ownBlock = some g → g < N) (k : PushStep J vs j w w') (h : ownf base e sz n xs (fun g => N ≤ g) v w) : ownf base e sz n xs (fun g => N ≤ g) v w' :=
  ⟨ownk_keep h.1 (fun g hg hb => by have := hva g hb; have := h.2 g hg; omega) (push_any k), h.2⟩
/-- The blocks of the values 3 and 8 are others than those of 5, 7 and 9. -/
def Apart (i l : Nat) (v u : Value) : Prop := (((i = 3 ∨ i = 8) ∧ (l = 5 ∨ l = 7 ∨ l = 9)) ∨ ((l = 3 ∨ l = 8) ∧ (i = 5 ∨ i = 7 ∨ i = 9))) → ∀ g, v.ownBlock = some g → u.ownBlock ≠ some g
theorem Apart.symm {i l : Nat} {v u : Value} (h : Apart i l v u) : Apart l i u v := fun hc g hu hv => h hc.symm g hv hu
theorem apart_none {j l : Nat} {v u : Value} (h : j = 0 ∨ j = 1 ∨ j = 2 ∨ j = 4 ∨ j = 6) : Apart j l v u ∧ Apart l j u v :=
  ⟨fun hc => absurd hc (by omega), fun hc => absurd hc (by omega)⟩
theorem apart_of {j l : Nat} {v u : Value} (h : (((j = 3 ∨ j = 8) ∧ (l = 5 ∨ l = 7 ∨ l = 9)) ∨ ((l = 3 ∨ l = 8) ∧ (j = 5 ∨ j = 7 ∨ j = 9))) → ∀ g, v.ownBlock = some g → u.ownBlock ≠ some g) : Apart j l v u ∧ Apart l j u v := ⟨h, Apart.symm h⟩
theorem own_one {w : World} {base g sz : Nat} {e : TypeId} {cs : Array Value} (hg : base ≤ g) (hb : Bk w g e cs) (hs : cs.size = sz) : w.ownsRow base e sz (.slice (some ⟨g, 0, none⟩) 1 1) 1 cs.toList := by
  refine ⟨by simp [hs], .inr ⟨g, 1, cs, rfl, hg, hb, Nat.le_refl _, by decide, ?_, ?_⟩⟩
  · simp [hs]
  · rw [Nat.one_mul]
    exact List.take_of_length_le (by simp [hs])
/-- An append onto a block that is new since N leaves the older blocks. -/
theorem shp_one (l : List Value) (h : ∀ u ∈ l, u.oneCell' = true) : ∀ u ∈ l, u.oneCell' = true := h
end Go.Proofs.Ythcoldomeedbnaa
