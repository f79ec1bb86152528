/- What a lookup leaves alone: all but the cells of visits (Vis), what a tree is (TreeAt). No conditions. -/
import Derived.Test.YtdpknieiigibfaaFnBuild
namespace Go.Proofs.Ytdpknieiigibfaa
open Go.RowKit
set_option linter.unusedVariables false
set_option linter.unusedSimpArgs false
theorem own_same {w w' : World} {B : Nat} {e : TypeId} {sz n : Nat} {v : Value} {xs : List Value} (h : w.ownsRow B e sz v n xs) (hs : ∀ b cs, v.ownBlock = some b → Bk w b e cs → Bk w' b e cs) : w'.ownsRow B e sz v n xs := by
  refine ⟨h.1, ?_⟩
  rcases h.2 with h1 | ⟨g, cap, cur, h1, h2, h3, h4⟩
  · exact .inl h1
  · exact .inr ⟨g, cap, cur, h1, h2, hs g cur (by rw [h1]; rfl) h3, h4⟩
theorem made_same {w w' : World} {B : Nat} {e : TypeId} {sz n c : Nat} {A : Option Addr} {xs : List Value} (h : Made w B e sz A n c xs) (hs : ∀ b cs, Bk w b e cs → Bk w' b e cs) : Made w' B e sz A n c xs := by
  have h1 := own_same (w' := w') h.own fun b cs _ => hs b cs
  exact ⟨h1, Rd.of_own h1, h.cap, h.max⟩
/-- All old blocks, but for those of F, are as they were, but for the cells of visits of trees and waves. -/
structure VisF (F : Nat → Prop) (w w' : World) : Prop where
  os : w'.os = w.os
  tape : w'.tape = w.tape
  output : w'.output = w.output
  size : w.heap.size ≤ w'.heap.size
  block : ∀ b, b < w.heap.size → ¬ F b → w'.heap[b]? = w.heap[b]? ∨ (∃ cs v, Bk w b 125 cs ∧ Bk w' b 125 (cs.setIfInBounds 3 (.int .i64 v))) ∨ (∃ cs v, Bk w b 98 cs ∧ Bk w' b 98 (cs.setIfInBounds 10 (.int .i64 v)))
abbrev Vis : World → World → Prop := VisF (fun _ => False)
theorem Vis.refl (w : World) : Vis w w := ⟨rfl, rfl, rfl, Nat.le_refl _, fun _ _ _ => .inl rfl⟩
theorem VisF.of_vis {F : Nat → Prop} {w w' : World} (h : Vis w w') : VisF F w w' := ⟨h.os, h.tape, h.output, h.size, fun b hb _ => h.block b hb (fun x => x)⟩
theorem VisF.of_keep {F : Nat → Prop} {w w' : World} (h : Keep F w w') : VisF F w w' := ⟨h.os, h.tape, h.output, h.size, fun b hb hn => .inl (h.block b hb hn)⟩
theorem VisF.to_vis {F : Nat → Prop} {w w' : World} (h : VisF F w w') (hf : ∀ b, b < w.heap.size → ¬ F b) : Vis w w' := ⟨h.os, h.tape, h.output, h.size, fun b hb _ => h.block b hb (hf b hb)⟩
theorem set_set (cs : Array Value) (i : Nat) (u v : Value) : (cs.setIfInBounds i u).setIfInBounds i v = cs.setIfInBounds i v := by
  apply Array.ext
  · simp
  · intro j h1 h2
    simp [Array.getElem_setIfInBounds]
theorem bk_inj {w : World} {g : Nat} {t t' : TypeId} {cs cs' : Array Value} (h : Bk w g t cs) (h' : Bk w g t' cs') : t = t' ∧ cs = cs' := by
  unfold Bk at h h'
  rw [h] at h'
  injection h' with h'
  injection h' with h1 h2
  exact ⟨h2, h1⟩
theorem VisF.trans {F : Nat → Prop} {w w1 w' : World} (h : VisF F w w1) (k : VisF F w1 w') : VisF F w w' := by
  refine ⟨k.os.trans h.os, k.tape.trans h.tape, k.output.trans h.output, Nat.le_trans h.size k.size, fun b hb hn => ?_⟩
  have hb1 : b < w1.heap.size := Nat.lt_of_lt_of_le hb h.size
  rcases h.block b hb hn with e1 | ⟨cs, v, e1, e2⟩ | ⟨cs, v, e1, e2⟩ <;> rcases k.block b hb1 hn with f1 | ⟨cs', v', f1, f2⟩ | ⟨cs', v', f1, f2⟩
  · exact .inl (f1.trans e1)
  · exact .inr (.inl ⟨cs', v', e1.symm.trans f1, f2⟩)
  · exact .inr (.inr ⟨cs', v', e1.symm.trans f1, f2⟩)
  · exact .inr (.inl ⟨cs, v, e1, f1.trans e2⟩)
  · obtain ⟨_, rfl⟩ := bk_inj e2 f1
    rw [set_set] at f2
    exact .inr (.inl ⟨cs, v', e1, f2⟩)
  · exact absurd (bk_inj e2 f1).1 (by decide)
  · exact .inr (.inr ⟨cs, v, e1, f1.trans e2⟩)
  · exact absurd (bk_inj e2 f1).1 (by decide)
  · obtain ⟨_, rfl⟩ := bk_inj e2 f1
    rw [set_set] at f2
    exact .inr (.inr ⟨cs, v', e1, f2⟩)
theorem Vis.trans {w w1 w' : World} (h : Vis w w1) (k : Vis w1 w') : Vis w w' := VisF.trans h k
theorem Vis.of_below {w w' : World} (h : Below w.heap.size w w') : Vis w w' := ⟨h.os, h.tape, h.output, h.size, fun b hb _ => .inl (h.block b hb)⟩
theorem Vis.set_tree {w : World} {g : Nat} {cs : Array Value} (h : Bk w g 125 cs) (v : Int) : Vis w (w.setCell ⟨g, 3, none⟩ (.int .i64 v)) := by
  refine ⟨rfl, rfl, rfl, by simp [World.setCell], fun b hb _ => ?_⟩
  by_cases e : b = g
  · subst e
    exact .inr (.inl ⟨cs, v, h, h.set 3 _⟩)
  · exact .inl (heap_setCell_other w ⟨g, 3, none⟩ b _ (fun x => e x))
theorem Vis.set_wave {w : World} {g : Nat} {cs : Array Value} (h : Bk w g 98 cs) (v : Int) : Vis w (w.setCell ⟨g, 10, none⟩ (.int .i64 v)) := by
  refine ⟨rfl, rfl, rfl, by simp [World.setCell], fun b hb _ => ?_⟩
  by_cases e : b = g
  · subst e
    exact .inr (.inr ⟨cs, v, h, h.set 10 _⟩)
  · exact .inl (heap_setCell_other w ⟨g, 10, none⟩ b _ (fun x => e x))
theorem VisF.put {F : Nat → Prop} {w w1 : World} (h : VisF F w w1) {p : Addr} (hp : F p.block ∨ w.heap.size ≤ p.block) (u : Value) : VisF F w (w1.setCell p u) := by
  refine ⟨h.os, h.tape, h.output, by simpa [World.setCell] using h.size, fun b hb hn => ?_⟩
  have e : (w1.setCell p u).heap[b]? = w1.heap[b]? := heap_setCell_other w1 p b u (fun x => by
    rcases hp with hp | hp
    · rw [← x] at hp
      exact hn hp
    · omega)
  rcases h.block b hb hn with e1 | ⟨cs, v, e1, e2⟩ | ⟨cs, v, e1, e2⟩
  · exact .inl (e.trans e1)
  · exact .inr (.inl ⟨cs, v, e1, e.trans e2⟩)
  · exact .inr (.inr ⟨cs, v, e1, e.trans e2⟩)
theorem Vis.fresh {w w1 : World} (h : Vis w w1) {p : Addr} (hp : w.heap.size ≤ p.block) (u : Value) : Vis w (w1.setCell p u) := VisF.put h (.inr hp) u
theorem Vis.alloc {w w1 : World} (h : Vis w w1) (o : Obj) : Vis w (w1.alloc o) := h.trans (Vis.of_below ((Below.refl _ _).alloc (Nat.le_refl _) _))
theorem Vis.below {w w1 w2 : World} (h : Vis w w1) (k : Below w1.heap.size w1 w2) : Vis w w2 := h.trans (Vis.of_below k)
theorem VisF.bk {F : Nat → Prop} {w w' : World} {g : Nat} {t : TypeId} {cs : Array Value} (h : VisF F w w') (hb : Bk w g t cs) (h1 : t ≠ 125) (h2 : t ≠ 98) (hn : ¬ F g) : Bk w' g t cs := by
  rcases h.block g hb.lt hn with e1 | ⟨cs', v, e1, e2⟩ | ⟨cs', v, e1, e2⟩
  · exact e1.trans hb
  · exact absurd (bk_inj hb e1).1 h1
  · exact absurd (bk_inj hb e1).1 h2
theorem VisF.tree {F : Nat → Prop} {w w' : World} {g : Nat} {a b c : Value} {v : Int} (h : VisF F w w') (hb : Bk w g 125 #[a, b, c, .int .i64 v]) (hn : ¬ F g) : ∃ v', Bk w' g 125 #[a, b, c, .int .i64 v'] := by
  rcases h.block g hb.lt hn with e1 | ⟨cs', v', e1, e2⟩ | ⟨cs', v', e1, e2⟩
  · exact ⟨v, e1.trans hb⟩
  · obtain ⟨_, rfl⟩ := bk_inj hb e1
    exact ⟨v', e2⟩
  · exact absurd (bk_inj hb e1).1 (by decide)
theorem VisF.wave {F : Nat → Prop} {w w' : World} {g : Nat} {cs : Array Value} (h : VisF F w w') (hb : Bk w g 98 cs) (hn : ¬ F g) : Bk w' g 98 cs ∨ ∃ v', Bk w' g 98 (cs.setIfInBounds 10 (.int .i64 v')) := by
  rcases h.block g hb.lt hn with e1 | ⟨cs', v', e1, e2⟩ | ⟨cs', v', e1, e2⟩
  · exact .inl (e1.trans hb)
  · exact absurd (bk_inj hb e1).1 (by decide)
  · obtain ⟨_, rfl⟩ := bk_inj hb e1
    exact .inr ⟨v', e2⟩
theorem Vis.bk {w w' : World} {g : Nat} {t : TypeId} {cs : Array Value} (h : Vis w w') (hb : Bk w g t cs) (h1 : t ≠ 125) (h2 : t ≠ 98) : Bk w' g t cs := VisF.bk h hb h1 h2 (fun x => x)
theorem Vis.tree {w w' : World} {g : Nat} {a b c : Value} {v : Int} (h : Vis w w') (hb : Bk w g 125 #[a, b, c, .int .i64 v]) : ∃ v', Bk w' g 125 #[a, b, c, .int .i64 v'] := VisF.tree h hb (fun x => x)
theorem Vis.wave {w w' : World} {g : Nat} {cs : Array Value} (h : Vis w w') (hb : Bk w g 98 cs) : Bk w' g 98 cs ∨ ∃ v', Bk w' g 98 (cs.setIfInBounds 10 (.int .i64 v')) := VisF.wave h hb (fun x => x)
/-- What a lookup leaves alone, and which blocks it writes. -/
def VisK (F : Nat → Prop) (w w' : World) : Prop := Vis w w' ∧ Keep F w w'
theorem VisK.refl (F : Nat → Prop) (w : World) : VisK F w w := ⟨Vis.refl w, Keep.refl F w⟩
theorem VisK.trans {F : Nat → Prop} {w w1 w' : World} (h : VisK F w w1) (k : VisK F w1 w') : VisK F w w' := ⟨h.1.trans k.1, h.2.trans k.2⟩
theorem VisK.below {F : Nat → Prop} {w w1 w' : World} (h : VisK F w w1) (k : Below w1.heap.size w1 w') : VisK F w w' := ⟨h.1.trans (Vis.of_below k), h.2.trans (Keep.of_below k)⟩
theorem VisK.of_below {F : Nat → Prop} {w w' : World} (k : Below w.heap.size w w') : VisK F w w' := (VisK.refl F w).below k
theorem VisK.alloc {F : Nat → Prop} {w w1 : World} (h : VisK F w w1) (o : Obj) : VisK F w (w1.alloc o) := h.below ((Below.refl _ _).alloc (Nat.le_refl _) _)
theorem VisK.set_tree {w : World} {g : Nat} {cs : Array Value} (h : Bk w g 125 cs) (v : Int) : VisK (fun b => b = g) w (w.setCell ⟨g, 3, none⟩ (.int .i64 v)) := ⟨Vis.set_tree h v, Keep.setCell (F := fun b => b = g) (Keep.refl _ _) (p := ⟨g, 3, none⟩) (.inl rfl) _⟩
theorem VisK.mono {F G : Nat → Prop} {w w' : World} (h : VisK F w w') (hf : ∀ b, F b → G b) : VisK G w w' := ⟨h.1, h.2.mono fun b _ => hf b⟩
theorem Vis.own {w w' : World} {B : Nat} {e : TypeId} {sz n : Nat} {v : Value} {xs : List Value} (k : Vis w w') (h : w.ownsRow B e sz v n xs) (h1 : e ≠ 125) (h2 : e ≠ 98) : w'.ownsRow B e sz v n xs :=
  own_same h fun b cs _ hb => k.bk hb h1 h2
theorem Vis.made {w w' : World} {B : Nat} {e : TypeId} {sz n c : Nat} {A : Option Addr} {xs : List Value} (k : Vis w w') (h : Made w B e sz A n c xs) (h1 : e ≠ 125) (h2 : e ≠ 98) : Made w' B e sz A n c xs :=
  made_same h fun b cs hb => k.bk hb h1 h2
/-- A slice that reads as a list, in a block of the type t. -/
def RdT (w : World) (t : TypeId) (A : Option Addr) (n : Nat) (xs : List Value) : Prop :=
  xs.length = n ∧ (0 < n → ∃ b off cs, A = some ⟨b, off, none⟩ ∧ Bk w b t cs ∧ ∀ j u, xs[j]? = some u → cs[off + j]? = some u)
theorem RdT.rd {w : World} {t : TypeId} {A : Option Addr} {n : Nat} {xs : List Value} (h : RdT w t A n xs) : Rd w w.heap.size 1 A n xs := by
  refine ⟨by rw [h.1, Nat.mul_one], fun hn => ?_⟩
  obtain ⟨b, off, cs, e, hb, hc⟩ := h.2 hn
  exact ⟨b, off, e, hb.lt, fun j u hu => (hb.cell _).trans (hc j u hu)⟩
theorem RdT.same {w w' : World} {t : TypeId} {A : Option Addr} {n : Nat} {xs : List Value} (h : RdT w t A n xs) (hs : ∀ b cs, Bk w b t cs → Bk w' b t cs) : RdT w' t A n xs := by
  refine ⟨h.1, fun hn => ?_⟩
  obtain ⟨b, off, cs, e, hb, hc⟩ := h.2 hn
  exact ⟨b, off, cs, e, hs b cs hb, hc⟩
theorem Vis.rdT {w w' : World} {t : TypeId} {A : Option Addr} {n : Nat} {xs : List Value} (k : Vis w w') (h : RdT w t A n xs) (h1 : t ≠ 125) (h2 : t ≠ 98) : RdT w' t A n xs := h.same fun b cs hb => k.bk hb h1 h2
theorem Leaf.vis {w w' : World} {B gt ga gl cl gb : Nat} {rt v : Int} {bs : List Bool} (h : Leaf w B gt ga gl cl gb rt v bs) (k : Vis w w') : ∃ v', Leaf w' B gt ga gl cl gb rt v' bs := by
  obtain ⟨v', h1⟩ := k.tree h.tree
  obtain ⟨A, c, h2, h3⟩ := h.arena
  exact ⟨v', h1, k.own h.row (by decide) (by decide), k.bk h.blk (by decide) (by decide), A, c, k.bk h2 (by decide) (by decide), k.made h3 (by decide) (by decide)⟩
/-- gt is a tree of these bits: no node, or one leaf. -/
def TreeAt (w : World) (gt : Nat) (bs : List Bool) : Prop :=
  ∃ (ga : Nat) (v : Int), (bs = [] ∧ Bk w gt 125 #[.pointer (some ⟨ga, 0, none⟩), .slice none 0 0, .int .i64 (-1), .int .i64 v] ∧ Bk w ga 88 #[.slice none 0 0, .slice none 0 0, .int .i64 268435456]) ∨ (bs ≠ [] ∧ bs.length ≤ 128 ∧ ∃ gl cl gb, Leaf w 0 gt ga gl cl gb 0 v bs)
theorem TreeAt.vis {w w' : World} {gt : Nat} {bs : List Bool} (h : TreeAt w gt bs) (k : Vis w w') : TreeAt w' gt bs := by
  obtain ⟨ga, v, ⟨h1, h2, h3⟩ | ⟨h1, h2, gl, cl, gb, h3⟩⟩ := h
  · obtain ⟨v', h4⟩ := k.tree h2
    exact ⟨ga, v', .inl ⟨h1, h4, k.bk h3 (by decide) (by decide)⟩⟩
  · obtain ⟨v', h4⟩ := h3.vis k
    exact ⟨ga, v', .inr ⟨h1, h2, gl, cl, gb, h4⟩⟩
/-- A tree is as it was if the blocks of its types are. -/
theorem TreeAt.same {w w' : World} {gt : Nat} {bs : List Bool} (h : TreeAt w gt bs) (k : ∀ b t cs, t ∈ [125, 88, 136, 145, 4] → Bk w b t cs → Bk w' b t cs) : TreeAt w' gt bs := by
  obtain ⟨ga, v, ⟨h1, h2, h3⟩ | ⟨h1, h2, gl, cl, gb, h3⟩⟩ := h
  · exact ⟨ga, v, .inl ⟨h1, k _ _ _ (by decide) h2, k _ _ _ (by decide) h3⟩⟩
  · obtain ⟨A, c, h4, h5⟩ := h3.arena
    exact ⟨ga, v, .inr ⟨h1, h2, gl, cl, gb, k _ _ _ (by decide) h3.tree, own_same h3.row fun b cs _ hb => k _ _ _ (by decide) hb, k _ _ _ (by decide) h3.blk, A, c, k _ _ _ (by decide) h4, made_same h5 fun b cs hb => k _ _ _ (by decide) hb⟩⟩
theorem TreeAt.below {w w' : World} {gt : Nat} {bs : List Bool} (h : TreeAt w gt bs) (k : Below w.heap.size w w') : TreeAt w' gt bs := h.same fun b t cs _ hb => hb.below k hb.lt
theorem TreeAt.lt {w : World} {gt : Nat} {bs : List Bool} (h : TreeAt w gt bs) : gt < w.heap.size := by
  obtain ⟨ga, v, ⟨h1, h2, h3⟩ | ⟨h1, h2, gl, cl, gb, h3⟩⟩ := h
  · exact h2.lt
  · exact h3.tree.lt
/-- A tree all of whose blocks were made since B. -/
def TreeB (w : World) (B gt : Nat) (bs : List Bool) : Prop :=
  ∃ (ga : Nat) (v : Int), B ≤ gt ∧ B ≤ ga ∧ ((bs = [] ∧ Bk w gt 125 #[.pointer (some ⟨ga, 0, none⟩), .slice none 0 0, .int .i64 (-1), .int .i64 v] ∧ Bk w ga 88 #[.slice none 0 0, .slice none 0 0, .int .i64 268435456]) ∨ (bs ≠ [] ∧ bs.length ≤ 128 ∧ ∃ gl cl gb, B ≤ gb ∧ Leaf w B gt ga gl cl gb 0 v bs))
theorem TreeB.at {w : World} {B gt : Nat} {bs : List Bool} (h : TreeB w B gt bs) : TreeAt w gt bs := by
  obtain ⟨ga, v, _, _, ⟨h1, h2, h3⟩ | ⟨h1, h2, gl, cl, gb, _, h3⟩⟩ := h
  · exact ⟨ga, v, .inl ⟨h1, h2, h3⟩⟩
  · exact ⟨ga, v, .inr ⟨h1, h2, gl, cl, gb, h3.mono (Nat.zero_le _)⟩⟩
theorem TreeB.keep {w w' : World} {F : Nat → Prop} {B gt : Nat} {bs : List Bool} (h : TreeB w B gt bs) (k : Keep F w w') (hf : ∀ b, F b → b < B) : TreeB w' B gt bs := by
  obtain ⟨ga, v, l1, l2, ⟨h1, h2, h3⟩ | ⟨h1, h2, gl, cl, gb, l3, h3⟩⟩ := h
  · exact ⟨ga, v, l1, l2, .inl ⟨h1, k.bk h2 (fun f => by have := hf _ f; omega), k.bk h3 (fun f => by have := hf _ f; omega)⟩⟩
  · obtain ⟨A, c, h4, h5⟩ := h3.arena
    exact ⟨ga, v, l1, l2, .inr ⟨h1, h2, gl, cl, gb, l3, k.bk h3.tree (fun f => by have := hf _ f; omega), own_keepF h3.row k hf, k.bk h3.blk (fun f => by have := hf _ f; omega), A, c, k.bk h4 (fun f => by have := hf _ f; omega), h5.keepF k hf⟩⟩
theorem TreeB.below {w w' : World} {B gt : Nat} {bs : List Bool} (h : TreeB w B gt bs) (k : Below w.heap.size w w') : TreeB w' B gt bs := h.keep (F := fun _ => False) (Keep.of_below k) (fun _ f => f.elim)
theorem TreeB.mono {w : World} {B B' gt : Nat} {bs : List Bool} (h : TreeB w B gt bs) (hB : B' ≤ B) : TreeB w B' gt bs := by
  obtain ⟨ga, v, l1, l2, ⟨h1, h2, h3⟩ | ⟨h1, h2, gl, cl, gb, l3, h3⟩⟩ := h
  · exact ⟨ga, v, by omega, by omega, .inl ⟨h1, h2, h3⟩⟩
  · exact ⟨ga, v, by omega, by omega, .inr ⟨h1, h2, gl, cl, gb, by omega, h3.mono hB⟩⟩
end Go.Proofs.Ytdpknieiigibfaa
