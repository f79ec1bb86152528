/- What a lookup leaves alone: all but the cells of visits (Vis), what a tree is (TreeAt). No conditions. The walks of the tree's Len, Visits, like, Rank and New. Conditions: at most 128 bits. The walks of sym's Is, Path, Bit. Conditions: a symbol (below 257). The walks of sym's Of and All (of one part), and of slices.Clone of ints. Conditions: at most 128 bytes, 2^30 ints. Plain laws of sorting suffixes by doubling. No conditions. The walks of the two closures of sorted.Rows. Conditions: at most 1000 symbols, numbers up to 1000. -/
import Derived.Test.YthkkcelfgcholaaGreatPkC
import Derived.BigQuiet
namespace Go.Proofs.YthkkcelfgcholaaGreat
open Go.RowKit
set_option linter.unusedVariables false
set_option linter.unusedSimpArgs false
theorem own_same {w w' : World} {B : Nat} {e : TypeId} {sz n : Nat} {v : Value} {xs : List Value} (h : w.ownsRow B e sz v n xs) (hs : ∀ b cs, v.ownBlock = some b → Bk w b e cs → Bk w' b e cs) : w'.ownsRow B e sz v n xs := by
  refine ⟨h.1, ?_⟩
  rcases h.2 with h1 | ⟨g, cap, cur, h1, h2, h3, h4⟩
  · exact .inl h1
  · exact .inr ⟨g, cap, cur, h1, h2, hs g cur (by rw [h1]; rfl) h3, h4⟩
theorem made_same {w w' : World} {B : Nat} {e : TypeId} {sz n c : Nat} {A : Option Addr} {xs : List Value} (h : Made w B e sz A n c xs) (hs : ∀ b cs, Bk w b e cs → Bk w' b e cs) : Made w' B e sz A n c xs := by
  have h1 := own_same (w' := w') h.own fun b cs _ => hs b cs
  exact ⟨h1, Rd.of_own h1, h.cap, h.max⟩
/-- All old blocks, but for those of F, are as they were, but for the cells of visits of trees and waves. -/
structure VisF (F : Nat → Prop) (w w' : World) : Prop where
  os : w'.os = w.os
  tape : w'.tape = w.tape
  output : w'.output = w.output
  size : w.heap.size ≤ w'.heap.size
  block : ∀ b, b < w.heap.size → ¬ F b → w'.heap[b]? = w.heap[b]? ∨ (∃ cs v, Bk w b 117 cs ∧ Bk w' b 117 (cs.setIfInBounds 3 (.int .i64 v))) ∨ (∃ cs v, Bk w b 82 cs ∧ Bk w' b 82 (cs.setIfInBounds 10 (.int .i64 v)))
abbrev Vis : World → World → Prop := VisF (fun _ => False)
theorem Vis.refl (w : World) : Vis w w := ⟨rfl, rfl, rfl, Nat.le_refl _, fun _ _ _ => .inl rfl⟩
theorem VisF.of_vis {F : Nat → Prop} {w w' : World} (h : Vis w w') : VisF F w w' := ⟨h.os, h.tape, h.output, h.size, fun b hb _ => h.block b hb (fun x => x)⟩
theorem VisF.of_keep {F : Nat → Prop} {w w' : World} (h : Keep F w w') : VisF F w w' := ⟨h.os, h.tape, h.output, h.size, fun b hb hn => .inl (h.block b hb hn)⟩
theorem VisF.to_vis {F : Nat → Prop} {w w' : World} (h : VisF F w w') (hf : ∀ b, b < w.heap.size → ¬ F b) : Vis w w' := ⟨h.os, h.tape, h.output, h.size, fun b hb _ => h.block b hb (hf b hb)⟩
theorem set_set (cs : Array Value) (i : Nat) (u v : Value) : (cs.setIfInBounds i u).setIfInBounds i v = cs.setIfInBounds i v := by
  apply Array.ext
  · simp
  · intro j h1 h2
    simp [Array.getElem_setIfInBounds]
theorem bk_inj {w : World} {g : Nat} {t t' : TypeId} {cs cs' : Array Value} (h : Bk w g t cs) (h' : Bk w g t' cs') : t = t' ∧ cs = cs' := by
  unfold Bk at h h'
  rw [h] at h'
  injection h' with h'
  injection h' with h1 h2
  exact ⟨h2, h1⟩
theorem VisF.trans {F : Nat → Prop} {w w1 w' : World} (h : VisF F w w1) (k : VisF F w1 w') : VisF F w w' := by
  refine ⟨k.os.trans h.os, k.tape.trans h.tape, k.output.trans h.output, Nat.le_trans h.size k.size, fun b hb hn => ?_⟩
  have hb1 : b < w1.heap.size := Nat.lt_of_lt_of_le hb h.size
  rcases h.block b hb hn with e1 | ⟨cs, v, e1, e2⟩ | ⟨cs, v, e1, e2⟩ <;> rcases k.block b hb1 hn with f1 | ⟨cs', v', f1, f2⟩ | ⟨cs', v', f1, f2⟩
  · exact .inl (f1.trans e1)
  · exact .inr (.inl ⟨cs', v', e1.symm.trans f1, f2⟩)
  · exact .inr (.inr ⟨cs', v', e1.symm.trans f1, f2⟩)
  · exact .inr (.inl ⟨cs, v, e1, f1.trans e2⟩)
  · obtain ⟨_, rfl⟩ := bk_inj e2 f1
    rw [set_set] at f2
    exact .inr (.inl ⟨cs, v', e1, f2⟩)
  · exact absurd (bk_inj e2 f1).1 (by decide)
  · exact .inr (.inr ⟨cs, v, e1, f1.trans e2⟩)
  · exact absurd (bk_inj e2 f1).1 (by decide)
  · obtain ⟨_, rfl⟩ := bk_inj e2 f1
    rw [set_set] at f2
    exact .inr (.inr ⟨cs, v', e1, f2⟩)
theorem Vis.trans {w w1 w' : World} (h : Vis w w1) (k : Vis w1 w') : Vis w w' := VisF.trans h k
theorem Vis.of_below {w w' : World} (h : Below w.heap.size w w') : Vis w w' := ⟨h.os, h.tape, h.output, h.size, fun b hb _ => .inl (h.block b hb)⟩
theorem Vis.set_tree {w : World} {g : Nat} {cs : Array Value} (h : Bk w g 117 cs) (v : Int) : Vis w (w.setCell ⟨g, 3, none⟩ (.int .i64 v)) := by
  refine ⟨rfl, rfl, rfl, by simp [World.setCell], fun b hb _ => ?_⟩
  by_cases e : b = g
  · subst e
    exact .inr (.inl ⟨cs, v, h, h.set 3 _⟩)
  · exact .inl (heap_setCell_other w ⟨g, 3, none⟩ b _ (fun x => e x))
theorem Vis.set_wave {w : World} {g : Nat} {cs : Array Value} (h : Bk w g 82 cs) (v : Int) : Vis w (w.setCell ⟨g, 10, none⟩ (.int .i64 v)) := by
  refine ⟨rfl, rfl, rfl, by simp [World.setCell], fun b hb _ => ?_⟩
  by_cases e : b = g
  · subst e
    exact .inr (.inr ⟨cs, v, h, h.set 10 _⟩)
  · exact .inl (heap_setCell_other w ⟨g, 10, none⟩ b _ (fun x => e x))
theorem VisF.put {F : Nat → Prop} {w w1 : World} (h : VisF F w w1) {p : Addr} (hp : F p.block ∨ w.heap.size ≤ p.block) (u : Value) : VisF F w (w1.setCell p u) := by
  refine ⟨h.os, h.tape, h.output, by simpa [World.setCell] using h.size, fun b hb hn => ?_⟩
  have e : (w1.setCell p u).heap[b]? = w1.heap[b]? := heap_setCell_other w1 p b u (fun x => by
    rcases hp with hp | hp
    · rw [← x] at hp
      exact hn hp
    · omega)
  rcases h.block b hb hn with e1 | ⟨cs, v, e1, e2⟩ | ⟨cs, v, e1, e2⟩
  · exact .inl (e.trans e1)
  · exact .inr (.inl ⟨cs, v, e1, e.trans e2⟩)
  · exact .inr (.inr ⟨cs, v, e1, e.trans e2⟩)
theorem Vis.fresh {w w1 : World} (h : Vis w w1) {p : Addr} (hp : w.heap.size ≤ p.block) (u : Value) : Vis w (w1.setCell p u) := VisF.put h (.inr hp) u
theorem Vis.alloc {w w1 : World} (h : Vis w w1) (o : Obj) : Vis w (w1.alloc o) := h.trans (Vis.of_below ((Below.refl _ _).alloc (Nat.le_refl _) _))
theorem Vis.below {w w1 w2 : World} (h : Vis w w1) (k : Below w1.heap.size w1 w2) : Vis w w2 := h.trans (Vis.of_below k)
theorem VisF.bk {F : Nat → Prop} {w w' : World} {g : Nat} {t : TypeId} {cs : Array Value} (h : VisF F w w') (hb : Bk w g t cs) (h1 : t ≠ 117) (h2 : t ≠ 82) (hn : ¬ F g) : Bk w' g t cs := by
  rcases h.block g hb.lt hn with e1 | ⟨cs', v, e1, e2⟩ | ⟨cs', v, e1, e2⟩
  · exact e1.trans hb
  · exact absurd (bk_inj hb e1).1 h1
  · exact absurd (bk_inj hb e1).1 h2
theorem VisF.tree {F : Nat → Prop} {w w' : World} {g : Nat} {a b c : Value} {v : Int} (h : VisF F w w') (hb : Bk w g 117 #[a, b, c, .int .i64 v]) (hn : ¬ F g) : ∃ v', Bk w' g 117 #[a, b, c, .int .i64 v'] := by
  rcases h.block g hb.lt hn with e1 | ⟨cs', v', e1, e2⟩ | ⟨cs', v', e1, e2⟩
  · exact ⟨v, e1.trans hb⟩
  · obtain ⟨_, rfl⟩ := bk_inj hb e1
    exact ⟨v', e2⟩
  · exact absurd (bk_inj hb e1).1 (by decide)
theorem VisF.wave {F : Nat → Prop} {w w' : World} {g : Nat} {cs : Array Value} (h : VisF F w w') (hb : Bk w g 82 cs) (hn : ¬ F g) : Bk w' g 82 cs ∨ ∃ v', Bk w' g 82 (cs.setIfInBounds 10 (.int .i64 v')) := by
  rcases h.block g hb.lt hn with e1 | ⟨cs', v', e1, e2⟩ | ⟨cs', v', e1, e2⟩
  · exact .inl (e1.trans hb)
  · exact absurd (bk_inj hb e1).1 (by decide)
  · obtain ⟨_, rfl⟩ := bk_inj hb e1
    exact .inr ⟨v', e2⟩
theorem Vis.bk {w w' : World} {g : Nat} {t : TypeId} {cs : Array Value} (h : Vis w w') (hb : Bk w g t cs) (h1 : t ≠ 117) (h2 : t ≠ 82) : Bk w' g t cs := VisF.bk h hb h1 h2 (fun x => x)
theorem Vis.tree {w w' : World} {g : Nat} {a b c : Value} {v : Int} (h : Vis w w') (hb : Bk w g 117 #[a, b, c, .int .i64 v]) : ∃ v', Bk w' g 117 #[a, b, c, .int .i64 v'] := VisF.tree h hb (fun x => x)
theorem Vis.wave {w w' : World} {g : Nat} {cs : Array Value} (h : Vis w w') (hb : Bk w g 82 cs) : Bk w' g 82 cs ∨ ∃ v', Bk w' g 82 (cs.setIfInBounds 10 (.int .i64 v')) := VisF.wave h hb (fun x => x)
/-- What a lookup leaves alone, and which blocks it writes. -/
def VisK (F : Nat → Prop) (w w' : World) : Prop := Vis w w' ∧ Keep F w w'
theorem VisK.refl (F : Nat → Prop) (w : World) : VisK F w w := ⟨Vis.refl w, Keep.refl F w⟩
theorem VisK.trans {F : Nat → Prop} {w w1 w' : World} (h : VisK F w w1) (k : VisK F w1 w') : VisK F w w' := ⟨h.1.trans k.1, h.2.trans k.2⟩
theorem VisK.below {F : Nat → Prop} {w w1 w' : World} (h : VisK F w w1) (k : Below w1.heap.size w1 w') : VisK F w w' := ⟨h.1.trans (Vis.of_below k), h.2.trans (Keep.of_below k)⟩
theorem VisK.of_below {F : Nat → Prop} {w w' : World} (k : Below w.heap.size w w') : VisK F w w' := (VisK.refl F w).below k
theorem VisK.alloc {F : Nat → Prop} {w w1 : World} (h : VisK F w w1) (o : Obj) : VisK F w (w1.alloc o) := h.below ((Below.refl _ _).alloc (Nat.le_refl _) _)
theorem VisK.set_tree {w : World} {g : Nat} {cs : Array Value} (h : Bk w g 117 cs) (v : Int) : VisK (fun b => b = g) w (w.setCell ⟨g, 3, none⟩ (.int .i64 v)) := ⟨Vis.set_tree h v, Keep.setCell (F := fun b => b = g) (Keep.refl _ _) (p := ⟨g, 3, none⟩) (.inl rfl) _⟩
theorem VisK.mono {F G : Nat → Prop} {w w' : World} (h : VisK F w w') (hf : ∀ b, F b → G b) : VisK G w w' := ⟨h.1, h.2.mono fun b _ => hf b⟩
theorem Vis.own {w w' : World} {B : Nat} {e : TypeId} {sz n : Nat} {v : Value} {xs : List Value} (k : Vis w w') (h : w.ownsRow B e sz v n xs) (h1 : e ≠ 117) (h2 : e ≠ 82) : w'.ownsRow B e sz v n xs :=
  own_same h fun b cs _ hb => k.bk hb h1 h2
theorem Vis.made {w w' : World} {B : Nat} {e : TypeId} {sz n c : Nat} {A : Option Addr} {xs : List Value} (k : Vis w w') (h : Made w B e sz A n c xs) (h1 : e ≠ 117) (h2 : e ≠ 82) : Made w' B e sz A n c xs :=
  made_same h fun b cs hb => k.bk hb h1 h2
/-- A slice that reads as a list, in a block of the type t. -/
def RdT (w : World) (t : TypeId) (A : Option Addr) (n : Nat) (xs : List Value) : Prop :=
  xs.length = n ∧ (0 < n → ∃ b off cs, A = some ⟨b, off, none⟩ ∧ Bk w b t cs ∧ ∀ j u, xs[j]? = some u → cs[off + j]? = some u)
theorem RdT.rd {w : World} {t : TypeId} {A : Option Addr} {n : Nat} {xs : List Value} (h : RdT w t A n xs) : Rd w w.heap.size 1 A n xs := by
  refine ⟨by rw [h.1, Nat.mul_one], fun hn => ?_⟩
  obtain ⟨b, off, cs, e, hb, hc⟩ := h.2 hn
  exact ⟨b, off, e, hb.lt, fun j u hu => (hb.cell _).trans (hc j u hu)⟩
theorem RdT.same {w w' : World} {t : TypeId} {A : Option Addr} {n : Nat} {xs : List Value} (h : RdT w t A n xs) (hs : ∀ b cs, Bk w b t cs → Bk w' b t cs) : RdT w' t A n xs := by
  refine ⟨h.1, fun hn => ?_⟩
  obtain ⟨b, off, cs, e, hb, hc⟩ := h.2 hn
  exact ⟨b, off, cs, e, hs b cs hb, hc⟩
/-- A leaf alone, as a lookup sees it. -/
structure LeafV (w : World) (B gt ga gl cl gb : Nat) (rt v : Int) (bs : List Bool) : Prop where
  tree : Bk w gt 117 #[.pointer (some ⟨ga, 0, none⟩), .slice (some ⟨gl, 0, none⟩) 1 cl, .int .i64 rt, .int .i64 v]
  row : RowS B gl cl gb (bs.length : Int) ((bs.count true : Nat) : Int) w
  blk : Bk w gb 147 (blkC bs)
theorem Leaf.toV {w : World} {B gt ga gl cl gb : Nat} {rt v : Int} {bs : List Bool} (h : Leaf w B gt ga gl cl gb rt v bs) : LeafV w 0 gt ga gl cl gb rt v bs := ⟨h.tree, own_mono h.row (Nat.zero_le _), h.blk⟩
theorem LeafV.vis {w w' : World} {B gt ga gl cl gb : Nat} {rt v : Int} {bs : List Bool} (h : LeafV w B gt ga gl cl gb rt v bs) (k : Vis w w') : ∃ v', LeafV w' B gt ga gl cl gb rt v' bs := by
  obtain ⟨v', h1⟩ := k.tree h.tree
  exact ⟨v', h1, k.own h.row (by decide) (by decide), k.bk h.blk (by decide) (by decide)⟩
/-- gt is a tree of these bits: no node, or one leaf. -/
def TreeAt (w : World) (gt : Nat) (bs : List Bool) : Prop :=
  ∃ (ga : Nat) (v : Int), (bs = [] ∧ ∃ vl, Bk w gt 117 #[.pointer (some ⟨ga, 0, none⟩), vl, .int .i64 (-1), .int .i64 v]) ∨ (bs ≠ [] ∧ bs.length ≤ 128 ∧ ∃ gl cl gb, LeafV w 0 gt ga gl cl gb 0 v bs)
theorem TreeAt.vis {w w' : World} {gt : Nat} {bs : List Bool} (h : TreeAt w gt bs) (k : Vis w w') : TreeAt w' gt bs := by
  obtain ⟨ga, v, ⟨h1, vl, h2⟩ | ⟨h1, h2, gl, cl, gb, h3⟩⟩ := h
  · obtain ⟨v', h4⟩ := k.tree h2
    exact ⟨ga, v', .inl ⟨h1, vl, h4⟩⟩
  · obtain ⟨v', h4⟩ := h3.vis k
    exact ⟨ga, v', .inr ⟨h1, h2, gl, cl, gb, h4⟩⟩
/-- A tree is as it was if the blocks of its types are. -/
theorem TreeAt.same {w w' : World} {gt : Nat} {bs : List Bool} (h : TreeAt w gt bs) (k : ∀ b t cs, t ∈ [117, 108, 120, 147, 4] → Bk w b t cs → Bk w' b t cs) : TreeAt w' gt bs := by
  obtain ⟨ga, v, ⟨h1, vl, h2⟩ | ⟨h1, h2, gl, cl, gb, h3⟩⟩ := h
  · exact ⟨ga, v, .inl ⟨h1, vl, k _ _ _ (by decide) h2⟩⟩
  · exact ⟨ga, v, .inr ⟨h1, h2, gl, cl, gb, k _ _ _ (by decide) h3.tree, own_same h3.row fun b cs _ hb => k _ _ _ (by decide) hb, k _ _ _ (by decide) h3.blk⟩⟩
theorem TreeAt.below {w w' : World} {gt : Nat} {bs : List Bool} (h : TreeAt w gt bs) (k : Below w.heap.size w w') : TreeAt w' gt bs := h.same fun b t cs _ hb => hb.below k hb.lt
theorem TreeAt.lt {w : World} {gt : Nat} {bs : List Bool} (h : TreeAt w gt bs) : gt < w.heap.size := by
  obtain ⟨ga, v, ⟨h1, vl, h2⟩ | ⟨h1, h2, gl, cl, gb, h3⟩⟩ := h
  · exact h2.lt
  · exact h3.tree.lt
/-- A tree all of whose blocks were made since B. -/
def TreeB (w : World) (B gt : Nat) (bs : List Bool) : Prop :=
  ∃ (ga : Nat) (v : Int), B ≤ gt ∧ B ≤ ga ∧ ((bs = [] ∧ Bk w gt 117 #[.pointer (some ⟨ga, 0, none⟩), .slice none 0 0, .int .i64 (-1), .int .i64 v] ∧ Bk w ga 108 #[.slice none 0 0, .slice none 0 0, .int .i64 268435456]) ∨ (bs ≠ [] ∧ bs.length ≤ 128 ∧ ∃ gl cl gb, B ≤ gb ∧ Leaf w B gt ga gl cl gb 0 v bs))
theorem TreeB.at {w : World} {B gt : Nat} {bs : List Bool} (h : TreeB w B gt bs) : TreeAt w gt bs := by
  obtain ⟨ga, v, _, _, ⟨h1, h2, h3⟩ | ⟨h1, h2, gl, cl, gb, _, h3⟩⟩ := h
  · exact ⟨ga, v, .inl ⟨h1, _, h2⟩⟩
  · exact ⟨ga, v, .inr ⟨h1, h2, gl, cl, gb, h3.toV⟩⟩
theorem TreeB.keep {w w' : World} {F : Nat → Prop} {B gt : Nat} {bs : List Bool} (h : TreeB w B gt bs) (k : Keep F w w') (hf : ∀ b, F b → b < B) : TreeB w' B gt bs := by
  obtain ⟨ga, v, l1, l2, ⟨h1, h2, h3⟩ | ⟨h1, h2, gl, cl, gb, l3, h3⟩⟩ := h
  · exact ⟨ga, v, l1, l2, .inl ⟨h1, k.bk h2 (fun f => by have := hf _ f; omega), k.bk h3 (fun f => by have := hf _ f; omega)⟩⟩
  · obtain ⟨A, c, h4, h5⟩ := h3.arena
    exact ⟨ga, v, l1, l2, .inr ⟨h1, h2, gl, cl, gb, l3, k.bk h3.tree (fun f => by have := hf _ f; omega), own_keepF h3.row k hf, k.bk h3.blk (fun f => by have := hf _ f; omega), A, c, k.bk h4 (fun f => by have := hf _ f; omega), h5.keepF k hf⟩⟩
theorem TreeB.below {w w' : World} {B gt : Nat} {bs : List Bool} (h : TreeB w B gt bs) (k : Below w.heap.size w w') : TreeB w' B gt bs := h.keep (F := fun _ => False) (Keep.of_below k) (fun _ f => f.elim)
theorem TreeB.mono {w : World} {B B' gt : Nat} {bs : List Bool} (h : TreeB w B gt bs) (hB : B' ≤ B) : TreeB w B' gt bs := by
  obtain ⟨ga, v, l1, l2, ⟨h1, h2, h3⟩ | ⟨h1, h2, gl, cl, gb, l3, h3⟩⟩ := h
  · exact ⟨ga, v, by omega, by omega, .inl ⟨h1, h2, h3⟩⟩
  · exact ⟨ga, v, by omega, by omega, .inr ⟨h1, h2, gl, cl, gb, by omega, h3.mono hB⟩⟩
end Go.Proofs.YthkkcelfgcholaaGreat
namespace Go.Proofs.YthkkcelfgcholaaGreat
open Go.RowKit
set_option linter.unusedVariables false
set_option linter.unusedSimpArgs false
theorem LeafV.cells {w : World} {B gt ga gl cl gb : Nat} {rt v : Int} {bs : List Bool} (h : LeafV w B gt ga gl cl gb rt v bs) :
    w.cell? ⟨gt, 0, none⟩ = some (.pointer (some ⟨ga, 0, none⟩)) ∧ w.cell? ⟨gt, 1, none⟩ = some (.slice (some ⟨gl, 0, none⟩) 1 cl) ∧ w.cell? ⟨gt, 2, none⟩ = some (.int .i64 rt) ∧ w.cell? ⟨gt, 3, none⟩ = some (.int .i64 v) ∧
    w.cell? ⟨gl, 0, none⟩ = some (.int .i64 (-1)) ∧ w.cell? ⟨gl, 1, none⟩ = some (.int .i64 (-1)) ∧ w.cell? ⟨gl, 2, none⟩ = some (.int .i64 0) ∧ w.cell? ⟨gl, 3, none⟩ = some (.int .i64 (bs.length : Int)) ∧ w.cell? ⟨gl, 4, none⟩ = some (.int .i64 ((bs.count true : Nat) : Int)) ∧ w.cell? ⟨gl, 5, none⟩ = some (.int .i64 0) ∧ w.cell? ⟨gl, 6, none⟩ = some (.int .i64 0) ∧ w.cell? ⟨gl, 7, none⟩ = some (.pointer (some ⟨gb, 0, none⟩)) := by
  have k := fun j hj => World.ownsRow.cellAt h.row j hj
  exact ⟨(h.tree.cell 0).trans rfl, (h.tree.cell 1).trans rfl, (h.tree.cell 2).trans rfl, (h.tree.cell 3).trans rfl, (k 0 (by omega)).trans rfl, (k 1 (by omega)).trans rfl, (k 2 (by omega)).trans rfl, (k 3 (by omega)).trans rfl, (k 4 (by omega)).trans rfl, (k 5 (by omega)).trans rfl, (k 6 (by omega)).trans rfl, (k 7 (by omega)).trans rfl⟩
set_option maxRecDepth 100000 in
theorem TreeLen_any (gt : Nat) (bs : List Bool) (w : World) (h : TreeAt w gt bs) :
    Calls Tryz.prog 127 #[.pointer (some ⟨gt, 0, none⟩)] w fun e w' => e = .returned (.int .i64 (bs.length : Int)) ∧ Below w.heap.size w w' := by
  obtain ⟨ga, v, ⟨rfl, vl, h2⟩ | ⟨h1, h2, gl, cl, gb, h3⟩⟩ := h
  · have c2 : w.cell? ⟨gt, 2, none⟩ = some (.int .i64 (-1)) := (h2.cell 2).trans rfl
    clear h2
    go_enter Tryz.func127, Tryz.ntmps127
    go_wp2
    go_ret
    exact ⟨rfl, Below.refl _ _⟩
  · obtain ⟨c0, c1, c2, c3, d0, d1, d2, d3, d4, d5, d6, d7⟩ := h3.cells
    clear h3
    go_enter Tryz.func127, Tryz.ntmps127
    go_wp2
    go_quiet (fail)
    go_wp2
    go_ret
    exact ⟨rfl, ⟨rfl, rfl, rfl, Nat.le_refl _, fun _ _ => rfl⟩⟩
theorem TreeAt.visits {w : World} {gt : Nat} {bs : List Bool} (h : TreeAt w gt bs) : ∃ v, w.cell? ⟨gt, 3, none⟩ = some (.int .i64 v) := by
  obtain ⟨ga, v, ⟨rfl, vl, h2⟩ | ⟨h1, h2, gl, cl, gb, h3⟩⟩ := h
  · exact ⟨v, (h2.cell 3).trans rfl⟩
  · exact ⟨v, h3.cells.2.2.2.1⟩
set_option maxRecDepth 100000 in
theorem TreeVisits_any (gt : Nat) (v : Int) (w : World) (h : w.cell? ⟨gt, 3, none⟩ = some (.int .i64 v)) :
    Calls Tryz.prog 90 #[.pointer (some ⟨gt, 0, none⟩)] w fun e w' => e = .returned (.int .i64 v) ∧ Below w.heap.size w w' := by
  go_enter Tryz.func90, Tryz.ntmps90
  go_wp2
  go_ret
  exact ⟨rfl, Below.refl _ _⟩
set_option maxRecDepth 100000 in
theorem like_any (n o : Nat) (b : Bool) (w : World) (hn : n ≤ 128) (ho : o ≤ n) :
    Calls Tryz.prog 129 #[.int .i64 (n : Int), .int .i64 (o : Int), .bool b] w fun e w' => e = .returned (.int .i64 ((if b then o else n - o : Nat) : Int)) ∧ Below w.heap.size w w' := by
  cases b
  · go_enter Tryz.func129, Tryz.ntmps129
    go_wp2
    go_ret
    exact ⟨ret_i64 (by omega), Below.refl _ _⟩
  · go_enter Tryz.func129, Tryz.ntmps129
    go_wp2
    go_ret
    exact ⟨ret_i64 (by simp), Below.refl _ _⟩
theorem count_both (l : List Bool) : l.count true + l.count false = l.length := by
  induction l with
  | nil => rfl
  | cons x l ih => cases x <;> simp <;> omega
set_option maxRecDepth 100000 in
set_option maxHeartbeats 1000000 in
theorem TreeRank_any (gt : Nat) (bs : List Bool) (k : Nat) (b : Bool) (w : World) (h : TreeAt w gt bs) (hk : k ≤ bs.length) :
    Calls Tryz.prog 94 #[.pointer (some ⟨gt, 0, none⟩), .int .i64 (k : Int), .bool b] w fun e w' => e = .returned (.int .i64 (((bs.take k).count b : Nat) : Int)) ∧ VisK (fun b => b = gt) w w' := by
  have hbl : bs.length ≤ 128 := by
    obtain ⟨ga, v, ⟨rfl, vl, h2⟩ | ⟨h1, h2, h3⟩⟩ := h
    · simp
    · exact h2
  have hv0 : ∃ cs, Bk w gt 117 cs ∧ 3 < cs.size := by
    obtain ⟨ga, v, ⟨rfl, vl, h2⟩ | ⟨h1, h2, gl, cl, gb, h3⟩⟩ := h
    · exact ⟨_, h2, by simp⟩
    · exact ⟨_, h3.tree, by simp⟩
  obtain ⟨cs, hcs, hc3⟩ := hv0
  have hv1 := VisK.set_tree hcs 0
  have ht1 := h.vis hv1.1
  have hgl := hcs.lt
  have c3 : w.cell? ⟨gt, 3, none⟩ = some cs[3] := by rw [hcs.cell 3]; simp [hc3]
  have f3 := hcs.frozen 3
  have m1 : max (k : Int) 0 = (k : Int) := by omega
  have m2 : min (k : Int) (bs.length : Int) = (k : Int) := by omega
  have HV := Lib.hid hv1
  have Hh := Lib.hid h
  have Hbl := Lib.hid hbl
  have Ht := Lib.hid ht1
  obtain ⟨N, hN⟩ : ∃ N, bs.length = N := ⟨_, rfl⟩
  have HN := Lib.hid hN
  have Hk := Lib.hid hk
  clear h hbl hv1 ht1 hcs hN hk
  go_enter Tryz.func94, Tryz.ntmps94
  go_wp2_with fail
  clear c3 f3
  refine (TreeLen_any gt bs _ Ht.out).mono ?_
  rintro e w2 ⟨rfl, hb2⟩
  have hv2 := HV.out.below hb2
  have ht2 := Hh.out.vis hv2.1
  have HV2 := Lib.hid hv2
  have Ht2 := Lib.hid ht2
  clear hv2 ht2 HV Ht hb2 Hh
  rcases Nat.eq_zero_or_pos k with hk0 | hk0
  · subst hk0
    go_wp2_with fail
    go_ret
    exact ⟨rfl, HV2.out⟩
  · have hk1 : ¬ ((k : Int) = 0) := by omega
    obtain ⟨ga, v, ⟨hbe, _, _⟩ | ⟨hbe, hb2, gl, cl, gb, hl⟩⟩ := Ht2.out
    · have h1 := Hk.out
      rw [hbe] at h1
      simp at h1
      omega
    obtain ⟨c0, c1, c2, c3, d0, d1, d2, d3, d4, d5, d6, d7⟩ := hl.cells
    have hl2 := hl.row.lt
    have hgl2 := hl.tree.lt
    have hgt_gl : gt ≠ gl := hl.row.bk_ne hl.tree (by decide)
    have f3 := hl.tree.frozen 3
    have Hl := Lib.hid hl
    have H2 := Lib.hid hb2
    clear hl hb2 hbe
    go_wp2_with fail
    go_loopw [1, 7, 8] (fun x y z wr => x = .int .i64 (k : Int) ∧ y = .int .i64 0 ∧ z = .int .i64 0 ∧ wr = w2) (fun _ _ _ _ => 0)
    case atStart => exact ⟨rfl, rfl, rfl, rfl⟩
    case round =>
      obtain ⟨rfl, rfl, rfl, rfl⟩ := hrel
      go_wp2_with fail
      have hgb := Bk.ne Hl.out.blk Hl.out.tree (by decide)
      have hv3 := (VisK.set_tree Hl.out.tree (wrap64 (v + 1))).alloc (.cells #[.int .i64 (-1), .int .i64 (-1), .int .i64 0, .int .i64 (bs.length : Int), .int .i64 ((bs.count true : Nat) : Int), .int .i64 0, .int .i64 0, .pointer (some ⟨gb, 0, none⟩)] 120)
      refine (BlockRank_any gb bs k _ ((Hl.out.blk.far hgb _).alloc _) H2.out (by rw [HN.out] at *; exact Hk.out)).mono ?_
      rintro e w4 ⟨rfl, hb4⟩
      have hv4 := (HV2.out.trans hv3).below hb4
      obtain ⟨q, hq⟩ : ∃ q, List.count true (List.take k bs) = q := ⟨_, rfl⟩
      have hqk : q ≤ k := by
        rw [← hq]
        exact Nat.le_trans List.count_le_length (by rw [List.length_take]; omega)
      have hfin : (if b then q else k - q) = (bs.take k).count b := by
        have h1 := count_both (bs.take k)
        have h2 : (bs.take k).length = k := by rw [List.length_take]; have := Hk.out; omega
        cases b
        · simp; omega
        · simp; omega
      rw [hq]
      have HF := Lib.hid hfin
      have HV4 := Lib.hid hv4
      have hkN : k ≤ 128 := Nat.le_trans Hk.out Hbl.out
      clear hq hfin hv3 hb4 hv4
      go_wp2_with fail
      refine (like_any k q b _ hkN hqk).mono ?_
      rintro e w5 ⟨rfl, hb5⟩
      rw [HF.out]
      have hv5 := HV4.out.below hb5
      have hcb : (bs.take k).count b ≤ 128 := Nat.le_trans List.count_le_length (by rw [List.length_take]; omega)
      obtain ⟨r, hr⟩ : ∃ r, List.count b (List.take k bs) = r := ⟨_, rfl⟩
      rw [hr] at hcb ⊢
      clear HF HV4
      go_wp2_with fail
      go_ret
      exact ⟨ret_i64 (by rw [hr] <;> omega), hv5⟩
theorem own0 (w : World) (B : Nat) (e : TypeId) (sz : Nat) : w.ownsRow B e sz (.slice none 0 0) 0 [] := World.ownsRow_nil _ _ _ _
set_option maxRecDepth 100000 in
theorem TreeNew_any (A : Option Addr) (m c B : Nat) (bs : List Bool) (w : World) (hr : Rd w B 1 A m (bs.map Value.bool)) (hB : B ≤ w.heap.size) (hm : m ≤ 128) (hmc : m ≤ c) :
    Calls Tryz.prog 115 #[.slice A m c] w fun e w' => ∃ gt, e = .returned (.pointer (some ⟨gt, 0, none⟩)) ∧ TreeB w' w.heap.size gt bs ∧ Below w.heap.size w w' := by
  have hbl : bs.length = m := by simpa using hr.1
  have Hr := Lib.hid hr
  have Hbl := Lib.hid hbl
  clear hr hbl
  go_enter Tryz.func115, Tryz.ntmps115
  go_wp2_with fail
  refine (ArenaNew_any _).mono ?_
  rintro e w1 ⟨rfl, ha1, hb1⟩
  have Ha1 := Lib.hid ha1
  have Hb1 := Lib.hid hb1
  have hs1 := hb1.size
  clear ha1 hb1
  rcases Nat.eq_zero_or_pos m with h0 | h0
  · subst h0
    have hnil : bs = [] := List.eq_nil_of_length_eq_zero Hbl.out
    go_wp2_with fail
    go_ret
    have hbB := Hb1.out.alloc hs1 (.cells #[.pointer (some ⟨w.heap.size, 0, none⟩), .slice none 0 0, .int .i64 (-1), .int .i64 0] 117)
    exact ⟨_, rfl, ⟨_, 0, hs1, Nat.le_refl _, .inl ⟨hnil, Bk.new _ _ _, Ha1.out.alloc _⟩⟩, hbB⟩
  · have hq1 : ((m : Int) + 128 - 1) / 128 = 1 := by omega
    have hne : bs ≠ [] := by
      intro e
      have := Hbl.out
      rw [e] at this
      simp at this
      omega
    have hb2 := Hb1.out.alloc hs1 (.cells #[.pointer (some ⟨w.heap.size, 0, none⟩), .slice none 0 0, .int .i64 (-1), .int .i64 0] 117)
    have ht2 := Bk.new w1 117 #[.pointer (some ⟨w.heap.size, 0, none⟩), .slice none 0 0, .int .i64 (-1), .int .i64 0]
    have ha2 := Ha1.out.alloc (.cells #[.pointer (some ⟨w.heap.size, 0, none⟩), .slice none 0 0, .int .i64 (-1), .int .i64 0] 117)
    have hr2 := ((Hr.out.mono hB).below hb2).mono hb2.size
    obtain ⟨w2, hw2⟩ : ∃ w2, w1.alloc (.cells #[.pointer (some ⟨w.heap.size, 0, none⟩), .slice none 0 0, .int .i64 (-1), .int .i64 0] 117) = w2 := ⟨_, rfl⟩
    have Ht2 := Lib.hid ht2
    have Ha2 := Lib.hid ha2
    have Hr2 := Lib.hid hr2
    have Hb2 := Lib.hid hb2
    clear ht2 ha2 hr2 hb2
    go_wp2_with fail
    rw [hw2] at Ht2 Ha2 Hr2 Hb2
    clear hw2
    refine (build_one w1.heap.size w.heap.size 0 A m c w2.heap.size bs w2 Ht2.out Ha2.out Hr2.out (Nat.le_refl _) hm hmc).mono ?_
    rintro e w3 ⟨rfl, hk3, gl, cl, gb, hl, hgb⟩
    have c2 := hl.tree.lt
    have f2 := hl.tree.frozen 2
    have c2' : w3.cell? ⟨w1.heap.size, 2, none⟩ = some (.int .i64 (-1)) := (hl.tree.cell 2).trans rfl
    have Hl := Lib.hid hl
    have Hk3 := Lib.hid hk3
    clear hl hk3
    go_wp2_with fail
    go_ret
    have hset : ∀ b t cs, t ≠ 117 → Bk w3 b t cs → Bk (w3.setCell ⟨w1.heap.size, 2, none⟩ (.int .i64 0)) b t cs := fun b t cs ht h => h.far (Bk.ne h Hl.out.tree ht) _
    obtain ⟨A', c', h5, h6⟩ := Hl.out.arena
    have hk3 : Below w.heap.size w2 w3 := Hk3.out.to_below Hb2.out.size (fun b hb e => by rcases e with e | e <;> omega)
    have hb4 : Below w.heap.size w w3 := Hb2.out.trans hk3
    have hs2 := Hb2.out.size
    refine ⟨_, rfl, ⟨_, 0, hs1, Nat.le_refl _, .inr ⟨hne, by rw [Hbl.out]; exact hm, gl, cl, gb, by omega, Hl.out.tree.set 2 _, own_mono (own_same Hl.out.row fun b cs _ h => hset _ _ _ (by decide) h) hs2, hset _ _ _ (by decide) Hl.out.blk, A', c', hset _ _ _ (by decide) h5, (made_same h6 fun b cs h => hset _ _ _ (by decide) h).mono hs2⟩⟩, ?_⟩
    exact hb4.setCell hs1 _
end Go.Proofs.YthkkcelfgcholaaGreat
namespace Go.Proofs.YthkkcelfgcholaaGreat
open Go.RowKit
set_option linter.unusedVariables false
set_option linter.unusedSimpArgs false
def sv (s : Nat) : Value := .int .i64 (s : Int)
def pathN (s lv : Nat) : Nat := s / 2 ^ (9 - lv)
def bitB (s lv : Nat) : Bool := decide (s / 2 ^ (8 - lv) % 2 = 1)
set_option maxRecDepth 100000 in
theorem SymIs_any (s : Nat) (w : World) (hs : s < 257) :
    Calls Tryz.prog 96 #[.int .i64 (s : Int)] w fun e w' => e = .returned (.bool true) ∧ Below w.heap.size w w' := by
  have h0 : (0 : Int) ≤ (s : Int) := by omega
  have h1 : (s : Int) < 257 := by omega
  go_enter Tryz.func96, Tryz.ntmps96
  go_wp2
  go_ret
  exact ⟨rfl, Below.refl _ _⟩
theorem cast_shr (s k : Nat) : (s : Int) / 2 ^ k = ((s / 2 ^ k : Nat) : Int) := by push_cast; rfl
theorem and1 (q : Nat) (h : q < 257) : bits .and .i64 (q : Int) 1 = ((q % 2 : Nat) : Int) := by
  have h1 := (bits_nat .i64 10 (by decide) (fun n h0 h1 => by rw [IntKind.wrap_i64]; omega) q 1 (by omega) (by omega)).1
  rw [show ((1 : Nat) : Int) = 1 from rfl] at h1
  rw [h1, Nat.and_one_is_mod]
set_option maxRecDepth 100000 in
theorem SymPath_any (s lv : Nat) (w : World) (hs : s < 257) (hl : lv ≤ 9) :
    Calls Tryz.prog 97 #[.int .i64 (s : Int), .int .i64 (lv : Int)] w fun e w' => e = .returned (.int .i64 ((pathN s lv : Nat) : Int)) ∧ Below w.heap.size w w' := by
  have h0 : ¬ ((lv : Int) < 0) := by omega
  have h1 : ¬ ((lv : Int) > 9) := by omega
  go_enter Tryz.func97, Tryz.ntmps97
  go_wp2_with fail
  refine (SymIs_any s _ hs).mono ?_
  rintro e w1 ⟨rfl, hb⟩
  go_wp2_with fail
  go_ret
  exact ⟨ret_i64 (cast_shr _ _), hb⟩
set_option maxRecDepth 100000 in
theorem SymBit_any (s lv : Nat) (w : World) (hs : s < 257) (hl : lv < 9) :
    Calls Tryz.prog 98 #[.int .i64 (s : Int), .int .i64 (lv : Int)] w fun e w' => e = .returned (.bool (bitB s lv)) ∧ Below w.heap.size w w' := by
  have h0 : ¬ ((lv : Int) < 0) := by omega
  have h1 : ¬ ((lv : Int) ≥ 9) := by omega
  go_enter Tryz.func98, Tryz.ntmps98
  go_wp2_with fail
  refine (SymIs_any s _ hs).mono ?_
  rintro e w1 ⟨rfl, hb⟩
  go_wp2_with fail
  go_ret
  refine ⟨ret_bool ?_, hb⟩
  have hq : s / 2 ^ (8 - lv) < 257 := Nat.lt_of_le_of_lt (Nat.div_le_self _ _) hs
  rw [cast_shr, and1 _ hq]
  unfold bitB
  generalize s / 2 ^ (8 - lv) % 2 = r
  by_cases h : r = 1
  · subst h; rfl
  · have h2 : ((r : Int) == 1) = false := by simp; omega
    rw [h2]
    simp [h]
end Go.Proofs.YthkkcelfgcholaaGreat
namespace Go.Proofs.YthkkcelfgcholaaGreat
open Go.RowKit
set_option linter.unusedVariables false
set_option linter.unusedSimpArgs false
theorem int_info : (Tryz.prog.info? 3).map (fun i => (i.zero, i.size, i.bytes)) = some (some (.int .i64 0), 1, 8) := by kernel_rfl
theorem oneCell_sv (l : List Nat) : ∀ u ∈ l.map sv, u.oneCell' = true := by
  intro u hu
  obtain ⟨x, _, rfl⟩ := List.mem_map.1 hu
  rfl
/-- A text's symbols, and the end. -/
def symB (t : List UInt8) : List Nat := t.map (fun c => c.toNat + 1)
def symL (t : List UInt8) : List Nat := symB t ++ [0]
theorem symL_len (t : List UInt8) : (symL t).length = t.length + 1 := by simp [symL, symB]
theorem symL_lt (t : List UInt8) : ∀ s ∈ symL t, s < 257 := by
  intro s hs
  unfold symL symB at hs
  rcases List.mem_append.1 hs with h | h
  · obtain ⟨c, _, rfl⟩ := List.mem_map.1 h
    have := c.toNat_lt
    omega
  · simp at h
    omega
set_option maxRecDepth 100000 in
theorem SymOf_any (c : UInt8) (w : World) :
    Calls Tryz.prog 20 #[.int .u8 (c.toNat : Int)] w fun e w' => e = .returned (.int .i64 ((c.toNat + 1 : Nat) : Int)) ∧ Below w.heap.size w w' := by
  have hc := c.toNat_lt
  have h64 : IntKind.i64.wrap (c.toNat : Int) = (c.toNat : Int) := by rw [IntKind.wrap_i64]; omega
  go_enter Tryz.func20, Tryz.ntmps20
  go_wp2
  go_ret
  exact ⟨ret_i64 (by omega), Below.refl _ _⟩
set_option maxRecDepth 100000 in
set_option maxHeartbeats 1000000 in
theorem SymAll_any (gs g0 : Nat) (A : Option Addr) (m c B : Nat) (t : List UInt8) (w : World) (hs : Bk w gs 23 #[.slice A m c]) (hr : Rd w B 1 A m (t.map bv)) (hB : B ≤ w.heap.size) (hm : m ≤ 1000) :
    Calls Tryz.prog 41 #[.slice (some ⟨gs, 0, none⟩) 1 1] w fun e w' => ∃ A' c', e = .returned (.slice A' (m + 1) c') ∧ Made w' w.heap.size 3 1 A' (m + 1) c' ((symL t).map sv) ∧ Below w.heap.size w w' := by
  obtain ⟨i0, hi0, hz0, hz1, hz2⟩ := info_parts int_info
  have htl : t.length = m := by simpa using hr.1
  have c0 : w.cell? ⟨gs, 0, none⟩ = some (.slice A m c) := (hs.cell 0).trans rfl
  have hgs := hs.lt
  have Hr := Lib.hid (hr.mono hB)
  have Htl := Lib.hid htl
  clear hs hr htl
  go_enter Tryz.func41, Tryz.ntmps41
  go_wp2_with fail
  go_loopw [3, 10] (fun v i wr => ∃ k : Nat, k ≤ 1 ∧ i = .int .i64 k ∧ wr.ownsRow w.heap.size 3 1 v (if k = 0 then 0 else m) ((if k = 0 then [] else symB t).map sv) ∧ Below w.heap.size w wr) (fun _ i _ => 1 - (intOf i).toNat)
  case atStart => exact ⟨0, by omega, rfl, World.ownsRow_nil _ _ _ _, Below.refl _ _⟩
  case round =>
    obtain ⟨k, hk, rfl, hown, hb⟩ := hrel
    have hsz := hb.size
    rcases k with _ | k
    · have d0 : wr.cell? ⟨gs, 0, none⟩ = some (.slice A m c) := (hb.cell hgs).trans c0
      have Hown := Lib.hid hown
      have Hb := Lib.hid hb
      clear hown hb
      go_wp2_with fail
      obtain ⟨W, hW⟩ : ∃ W, W = wr := ⟨_, rfl⟩
      subst hW
      go_loopw [3, 16] (fun v i wr2 => ∃ k : Nat, k ≤ m ∧ i = .int .i64 k ∧ wr2.ownsRow w.heap.size 3 1 v k ((symB (t.take k)).map sv) ∧ Below w.heap.size w wr2) (fun _ i _ => m - (intOf i).toNat)
      case atStart => exact ⟨0, by omega, rfl, Hown.out, Hb.out⟩
      case round =>
        obtain ⟨k, hk, rfl, hown, hb⟩ := hrel
        have hsz := hb.size
        by_cases hlt : k < m
        · have hkl : k < t.length := by rw [Htl.out]; exact hlt
          obtain ⟨x, hx⟩ : ∃ x, t[k]? = some x := ⟨t[k], List.getElem?_eq_getElem hkl⟩
          obtain ⟨b, off, u, rfl, hbl, hu, hc⟩ := (Hr.out.below hb).get hlt
          rw [List.getElem?_map, hx] at hu
          simp at hu
          subst hu
          have htk : t.take (k + 1) = t.take k ++ [x] := by rw [List.take_add_one, hx]; rfl
          unfold bv at hc
          have HTK := Lib.hid htk
          have Hown2 := Lib.hid hown
          clear htk hx hown
          go_wp2_with fail
          refine (SymOf_any x _).mono ?_
          rintro e w1 ⟨rfl, hb1⟩
          have hown1 := own_below Hown2.out hb1
          have hb2 := hb.trans (hb1.mono hsz)
          have hsz2 := hb2.size
          have Hown3 := Lib.hid hown1
          clear hown1
          go_wp2_with (at_builtin; refine wpList_push _ rfl (.tmp 20) (.tmp 23) _ rfl w.heap.size 3 i0 (.int .i64 0) 1 8 Tryz.underlying22 hi0 hz0 hz1 hz2 rfl (by decide) _ k _ rfl Hown3.out rfl rfl (by simp [Value.oneCell']) (by unfold maxLen; omega) (by omega) hsz2 ?_; intro v2 w2 hown2 hg2 hs2 hat2)
          have hb3 := below_grown hb2 Hown3.out hg2 hsz2
          clear hg2 hat2
          go_roundw
          case rel =>
            refine ⟨k + 1, by omega, by go_num, ?_, hb3⟩
            rw [HTK.out, symB, List.map_append, List.map_append]
            exact hown2
          case measure => simp [intOf]; omega
        · have hkm : k = m := by omega
          subst hkm
          rw [List.take_of_length_le (by rw [Htl.out]; omega)] at hown
          have Hown2 := Lib.hid hown
          clear hown
          go_wp2_with fail
          go_roundw
          case rel => exact ⟨1, by omega, by go_num, Hown2.out, hb⟩
          case measure => simp [intOf]
    · have hk0 : k = 0 := by omega
      subst hk0
      rw [if_neg (by omega), if_neg (by omega)] at hown
      have Hown := Lib.hid hown
      have hlS : (symL t).map sv = (symB t).map sv ++ [.int .i64 0] := by simp [symL, sv]
      have HlS := Lib.hid hlS
      clear hown hlS
      go_wp2_with (at_builtin; refine wpList_push _ rfl (.tmp 27) (.tmp 28) _ rfl w.heap.size 3 i0 (.int .i64 0) 1 8 Tryz.underlying22 hi0 hz0 hz1 hz2 rfl (by decide) _ m _ rfl Hown.out rfl rfl (by simp [Value.oneCell']) (by unfold maxLen; omega) (by omega) hsz ?_; intro v2 w2 hown2 hg2 hs2 hat2)
      have hb3 := below_grown hb Hown.out hg2 hsz
      obtain ⟨A', c', rfl, hm'⟩ := made_of_own hown2
      go_ret
      exact ⟨A', c', rfl, by rw [HlS.out]; exact hm', hb3⟩
set_option maxRecDepth 100000 in
set_option maxHeartbeats 1000000 in
theorem CloneInts_any (A : Option Addr) (n c B : Nat) (l : List Nat) (w : World) (hr : Rd w B 1 A n (l.map sv)) (hB : B ≤ w.heap.size) (hn : n ≤ 1073741824) :
    Calls Tryz.prog 42 #[.slice A n c] w fun e w' => ∃ A' c', e = .returned (.slice A' n c') ∧ Made w' w.heap.size 3 1 A' n c' (l.map sv) ∧ Below w.heap.size w w' := by
  obtain ⟨i0, hi0, hz0, hz1, hz2⟩ := info_parts int_info
  have q22 : ∀ (w : World) (a : Option Addr) (n c : Nat), (binOp .eql 22 (.slice a n c) (.slice none 0 0)).run Tryz.prog w = .ok (.bool a.isNone) w := fun w a n c => Lib.run_eql_slice_nil w _ _ a n c _ _ Tryz.underlying22
  rcases A with _ | a
  · have hn0 : n = 0 := by
      rcases Nat.eq_zero_or_pos n with h | h
      · exact h
      · obtain ⟨_, _, h, _⟩ := hr.2 h
        cases h
    subst hn0
    have hl : l = [] := by
      have := hr.1
      simp only [List.length_map, Nat.zero_mul] at this
      exact List.eq_nil_of_length_eq_zero this
    subst hl
    go_enter Tryz.func42, Tryz.ntmps42
    go_wp2
    go_ret
    exact ⟨none, 0, rfl, ⟨World.ownsRow_nil _ _ _ _, Rd.nil _ _ _ _, Nat.le_refl _, Nat.zero_le _⟩, Below.refl _ _⟩
  · have Hr := Lib.hid hr
    clear hr
    go_enter Tryz.func42, Tryz.ntmps42
    go_wp2_with (at_builtin; refine wpList_append_rd _ rfl (.tmp 5) (.tmp 6) _ rfl w.heap.size 3 i0 (.int .i64 0) 1 8 Tryz.underlying22 hi0 hz0 hz1 hz2 rfl (by decide) (.slice (some ⟨w.heap.size, 0, none⟩) 0 0) 0 [] rfl (own_empty w 3 1) w.heap.size (some a) n c _ rfl ((Hr.out.mono hB).alloc (Nat.le_refl _) _) (oneCell_sv _) (by unfold maxLen; omega) (by omega) (by simp) ?_; intro v5 w5 hown5 hg5 hat5)
    have hB5 := below_grown ((Below.refl w.heap.size w).alloc (Nat.le_refl _) _) (own_empty w 3 1) hg5 (by simp)
    rw [Nat.zero_add, List.nil_append] at hown5
    obtain ⟨A', c', rfl, hm⟩ := made_of_own hown5
    go_wp2
    go_ret
    exact ⟨A', c', rfl, hm, hB5⟩
end Go.Proofs.YthkkcelfgcholaaGreat
namespace Go.Proofs.YthkkcelfgcholaaGreat
set_option linter.unusedVariables false
set_option linter.unusedSimpArgs false
/-- The number at p, -1 behind the end. -/
def aN (l : List Nat) (p : Nat) : Int := match l[p]? with
  | some x => (x : Int)
  | none => -1
theorem aN_lt {l : List Nat} {p : Nat} (h : p < l.length) : aN l p = (l[p] : Int) := by
  unfold aN
  rw [List.getElem?_eq_getElem h]
theorem aN_some {l : List Nat} {p x : Nat} (h : l[p]? = some x) : aN l p = (x : Int) := by
  unfold aN
  rw [h]
theorem aN_ge {l : List Nat} {p : Nat} (h : l.length ≤ p) : aN l p = -1 := by
  unfold aN
  rw [List.getElem?_eq_none h]
theorem aN_nonneg {l : List Nat} {p : Nat} (h : p < l.length) : 0 ≤ aN l p := by
  rw [aN_lt h]
  omega
section
variable (a : Nat → Int)
def eqW (w i j : Nat) : Prop := ∀ m, m < w → a (i + m) = a (j + m)
def ltW (w i j : Nat) : Prop := ∃ k, k < w ∧ (∀ m, m < k → a (i + m) = a (j + m)) ∧ a (i + k) < a (j + k)
variable {a}
theorem eqW.symm {w i j : Nat} (h : eqW a w i j) : eqW a w j i := fun m hm => (h m hm).symm
theorem eqW.trans {w i j k : Nat} (h : eqW a w i j) (h' : eqW a w j k) : eqW a w i k := fun m hm => (h m hm).trans (h' m hm)
theorem eqW.refl (w i : Nat) : eqW a w i i := fun _ _ => rfl
theorem ltW_tri (w i j : Nat) : ltW a w i j ∨ eqW a w i j ∨ ltW a w j i := by
  induction w with
  | zero => exact .inr (.inl fun m hm => absurd hm (by omega))
  | succ w ih =>
    rcases ih with ⟨k, h1, h2⟩ | h | ⟨k, h1, h2⟩
    · exact .inl ⟨k, by omega, h2⟩
    · rcases Int.lt_trichotomy (a (i + w)) (a (j + w)) with h1 | h1 | h1
      · exact .inl ⟨w, by omega, h, h1⟩
      · refine .inr (.inl fun m hm => ?_)
        rcases Nat.lt_or_ge m w with h2 | h2
        · exact h m h2
        · have : m = w := by omega
          subst this
          exact h1
      · exact .inr (.inr ⟨w, by omega, h.symm, h1⟩)
    · exact .inr (.inr ⟨k, by omega, h2⟩)
theorem ltW.not_eq {w i j : Nat} (h : ltW a w i j) : ¬ eqW a w i j := by
  obtain ⟨k, h1, h2, h3⟩ := h
  intro he
  have := he k h1
  omega
theorem ltW.trans {w i j k : Nat} (h : ltW a w i j) (h' : ltW a w j k) : ltW a w i k := by
  obtain ⟨p, p1, p2, p3⟩ := h
  obtain ⟨q, q1, q2, q3⟩ := h'
  rcases Nat.lt_trichotomy p q with e | e | e
  · exact ⟨p, p1, fun m hm => (p2 m hm).trans (q2 m (by omega)), by rw [← q2 p e]; exact p3⟩
  · subst e
    exact ⟨p, p1, fun m hm => (p2 m hm).trans (q2 m hm), Int.lt_trans p3 q3⟩
  · exact ⟨q, q1, fun m hm => (p2 m (by omega)).trans (q2 m hm), by rw [p2 q e]; exact q3⟩
theorem ltW.irrefl {w i : Nat} (h : ltW a w i i) : False := h.not_eq (eqW.refl _ _)
theorem ltW.asymm {w i j : Nat} (h : ltW a w i j) (h' : ltW a w j i) : False := (h.trans h').irrefl
theorem ltW.eq_right {w i j k : Nat} (h : ltW a w i j) (h' : eqW a w j k) : ltW a w i k := by
  obtain ⟨p, p1, p2, p3⟩ := h
  exact ⟨p, p1, fun m hm => (p2 m hm).trans (h' m (by omega)), by rw [← h' p p1]; exact p3⟩
theorem ltW.eq_left {w i j k : Nat} (h' : eqW a w i j) (h : ltW a w j k) : ltW a w i k := by
  obtain ⟨p, p1, p2, p3⟩ := h
  exact ⟨p, p1, fun m hm => (h' m (by omega)).trans (p2 m hm), by rw [h' p p1]; exact p3⟩
theorem ltW.le_right {w i j k : Nat} (h : ltW a w i j) (h' : ¬ ltW a w k j) : ltW a w i k := by
  rcases ltW_tri (a := a) w j k with h1 | h1 | h1
  · exact h.trans h1
  · exact h.eq_right h1
  · exact absurd h1 h'
theorem eqW_double (w i j : Nat) : eqW a (w + w) i j ↔ eqW a w i j ∧ eqW a w (i + w) (j + w) := by
  constructor
  · intro h
    refine ⟨fun m hm => h m (by omega), fun m hm => ?_⟩
    have := h (w + m) (by omega)
    rwa [← Nat.add_assoc, ← Nat.add_assoc] at this
  · intro ⟨h1, h2⟩ m hm
    rcases Nat.lt_or_ge m w with h | h
    · exact h1 m h
    · have := h2 (m - w) (by omega)
      rwa [show i + w + (m - w) = i + m by omega, show j + w + (m - w) = j + m by omega] at this
theorem ltW_double (w i j : Nat) : ltW a (w + w) i j ↔ ltW a w i j ∨ (eqW a w i j ∧ ltW a w (i + w) (j + w)) := by
  constructor
  · intro ⟨k, h1, h2, h3⟩
    rcases Nat.lt_or_ge k w with h | h
    · exact .inl ⟨k, h, h2, h3⟩
    · refine .inr ⟨fun m hm => h2 m (by omega), k - w, by omega, fun m hm => ?_, ?_⟩
      · have := h2 (w + m) (by omega)
        rwa [← Nat.add_assoc, ← Nat.add_assoc] at this
      · rwa [show i + w + (k - w) = i + k by omega, show j + w + (k - w) = j + k by omega]
  · rintro (⟨k, h1, h2, h3⟩ | ⟨h0, k, h1, h2, h3⟩)
    · exact ⟨k, by omega, h2, h3⟩
    · refine ⟨w + k, by omega, fun m hm => ?_, by rwa [← Nat.add_assoc, ← Nat.add_assoc]⟩
      rcases Nat.lt_or_ge m w with h | h
      · exact h0 m h
      · have := h2 (m - w) (by omega)
        rwa [show i + w + (m - w) = i + m by omega, show j + w + (m - w) = j + m by omega] at this
/-- The numbers r stand as the first w letters do. -/
def RankOk (a r : Nat → Int) (w : Nat) : Prop := ∀ i j, r i < r j ↔ ltW a w i j
theorem RankOk.eq {r : Nat → Int} {w : Nat} (h : RankOk a r w) (i j : Nat) : r i = r j ↔ eqW a w i j := by
  constructor
  · intro e
    rcases ltW_tri (a := a) w i j with h1 | h1 | h1
    · have := (h i j).2 h1
      omega
    · exact h1
    · have := (h j i).2 h1
      omega
  · intro e
    have h1 : ¬ (r i < r j) := fun x => ((h i j).1 x).not_eq e
    have h2 : ¬ (r j < r i) := fun x => ((h j i).1 x).not_eq e.symm
    omega
/-- The comparison of the program. -/
def ordV (r : Nat → Int) (w i j : Nat) : Int := if r i ≠ r j then r i - r j else r (i + w) - r (j + w)
theorem ordV_lt {r : Nat → Int} {w : Nat} (h : RankOk a r w) (i j : Nat) : ordV r w i j < 0 ↔ ltW a (w + w) i j := by
  unfold ordV
  rw [ltW_double]
  by_cases e : r i = r j
  · rw [if_neg (by simpa using e)]
    have h1 : ¬ ltW a w i j := fun x => by have := (h i j).2 x; omega
    have h2 := (h.eq i j).1 e
    have h3 := h (i + w) (j + w)
    constructor
    · intro h4
      exact .inr ⟨h2, h3.1 (by omega)⟩
    · rintro (h4 | ⟨_, h4⟩)
      · exact absurd h4 h1
      · have := h3.2 h4
        omega
  · rw [if_pos e]
    have h3 := h i j
    constructor
    · intro h4
      exact .inl (h3.1 (by omega))
    · rintro (h4 | ⟨h4, _⟩)
      · have := h3.2 h4
        omega
      · exact absurd ((h.eq i j).2 h4) e
theorem ordV_eq {r : Nat → Int} {w : Nat} (h : RankOk a r w) (i j : Nat) : ordV r w i j = 0 ↔ eqW a (w + w) i j := by
  unfold ordV
  rw [eqW_double]
  by_cases e : r i = r j
  · rw [if_neg (by simpa using e)]
    constructor
    · intro h4
      exact ⟨(h.eq i j).1 e, (h.eq _ _).1 (by omega)⟩
    · intro ⟨_, h4⟩
      have := (h.eq _ _).2 h4
      omega
  · rw [if_pos e]
    constructor
    · intro h4
      exact absurd (show r i = r j by omega) e
    · intro ⟨h4, _⟩
      exact absurd ((h.eq i j).2 h4) e
/-- The new numbers, in the order of the rows f. -/
def cN (o : Nat → Nat → Int) (f : Nat → Nat) : Nat → Nat
  | 0 => 0
  | i + 1 => cN o f i + (if o (f i) (f (i + 1)) ≠ 0 then 1 else 0)
theorem cN_step (o : Nat → Nat → Int) (f : Nat → Nat) (i : Nat) : cN o f i ≤ cN o f (i + 1) ∧ cN o f (i + 1) ≤ cN o f i + 1 := by
  show cN o f i ≤ cN o f i + _ ∧ cN o f i + _ ≤ cN o f i + 1
  split <;> omega
theorem cN_le (o : Nat → Nat → Int) (f : Nat → Nat) (i d : Nat) : cN o f i ≤ cN o f (i + d) ∧ cN o f (i + d) ≤ cN o f i + d := by
  induction d with
  | zero => exact ⟨Nat.le_refl _, Nat.le_refl _⟩
  | succ d ih =>
    have := cN_step o f (i + d)
    rw [← Nat.add_assoc]
    omega
/-- Rows that are sorted by the first w letters: their numbers stand as these do. -/
theorem cN_rank {o : Nat → Nat → Int} {f : Nat → Nat} {w n : Nat} (ho : ∀ i j, o i j = 0 ↔ eqW a w i j) (hs : ∀ i, i + 1 < n → ¬ ltW a w (f (i + 1)) (f i)) (i d : Nat) (hn : i + d < n) :
    (cN o f i < cN o f (i + d) ↔ ltW a w (f i) (f (i + d))) ∧ ¬ ltW a w (f (i + d)) (f i) := by
  induction d with
  | zero => exact ⟨⟨fun h => absurd h (by simp), fun h => h.irrefl.elim⟩, fun h => h.irrefl⟩
  | succ d ih =>
    obtain ⟨h1, h2⟩ := ih (by omega)
    have h3 := hs (i + d) (by omega)
    have hm := cN_le o f i d
    have he : cN o f (i + (d + 1)) = cN o f (i + d) + (if o (f (i + d)) (f (i + d + 1)) ≠ 0 then 1 else 0) := rfl
    rw [show i + (d + 1) = i + d + 1 from rfl] at he ⊢
    have h4 : ¬ ltW a w (f (i + d + 1)) (f i) := fun h => h3 (h.le_right h2)
    refine ⟨?_, h4⟩
    by_cases hz : o (f (i + d)) (f (i + d + 1)) = 0
    · have hq := (ho _ _).1 hz
      rw [he, if_neg (by simpa using hz), Nat.add_zero, h1]
      exact ⟨fun h => h.eq_right hq, fun h => h.eq_right hq.symm⟩
    · rw [he, if_pos hz]
      refine ⟨fun _ => ?_, fun _ => by omega⟩
      have h5 : ltW a w (f (i + d)) (f (i + d + 1)) := by
        rcases ltW_tri (a := a) w (f (i + d)) (f (i + d + 1)) with h | h | h
        · exact h
        · exact absurd ((ho _ _).2 h) hz
        · exact absurd h h3
      rcases ltW_tri (a := a) w (f i) (f (i + d)) with h | h | h
      · exact h.trans h5
      · exact ltW.eq_left h h5
      · exact absurd h h2
end
/-- The end of a text makes all suffixes unlike. -/
theorem not_eqW {l : List Nat} {w i j : Nat} (hw : l.length ≤ w) (hi : i < l.length) (hj : j < l.length) (hij : i ≠ j) : ¬ eqW (aN l) w i j := by
  intro h
  rcases Nat.lt_or_ge i j with e | e
  · have h1 := h (l.length - j) (by omega)
    rw [aN_ge (show l.length ≤ j + (l.length - j) by omega)] at h1
    have := aN_nonneg (l := l) (p := i + (l.length - j)) (by omega)
    omega
  · have h1 := h (l.length - i) (by omega)
    rw [aN_ge (show l.length ≤ i + (l.length - i) by omega)] at h1
    have := aN_nonneg (l := l) (p := j + (l.length - i)) (by omega)
    omega
/-- The numbers that the rows' order gives stand as twice as many letters do. -/
theorem rank_next {l R : List Nat} {o : Nat → Nat → Int} {f : Nat → Nat} {w : Nat} (hw : 0 < w) (ho : ∀ i j, o i j = 0 ↔ eqW (aN l) w i j) (hs : ∀ i, i + 1 < l.length → ¬ ltW (aN l) w (f (i + 1)) (f i))
    (hlen : R.length = l.length) (hR : ∀ i, i < l.length → R[f i]? = some (cN o f i)) (hsur : ∀ p, p < l.length → ∃ i, i < l.length ∧ f i = p) : RankOk (aN l) (aN R) w := by
  have main : ∀ i j, i < l.length → j < l.length → (aN R (f i) < aN R (f j) ↔ ltW (aN l) w (f i) (f j)) := by
    intro i j hi hj
    rw [aN_some (hR i hi), aN_some (hR j hj)]
    rcases Nat.lt_or_ge i j with e | e
    · have := (cN_rank ho hs i (j - i) (by omega)).1
      rw [show i + (j - i) = j by omega] at this
      rw [← this]
      omega
    · have h1 := cN_rank ho hs j (i - j) (by omega)
      rw [show j + (i - j) = i by omega] at h1
      have h2 := (cN_le o f j (i - j)).1
      rw [show j + (i - j) = i by omega] at h2
      exact ⟨fun h => absurd h (by omega), fun h => absurd h h1.2⟩
  intro p q
  rcases Nat.lt_or_ge p l.length with hp | hp
  · obtain ⟨i, hi, rfl⟩ := hsur p hp
    rcases Nat.lt_or_ge q l.length with hq | hq
    · obtain ⟨j, hj, rfl⟩ := hsur q hq
      exact main i j hi hj
    · have h1 := aN_nonneg (l := R) (p := f i) (by rw [hlen]; exact hp)
      have h2 := aN_ge (l := R) (p := q) (by rw [hlen]; exact hq)
      refine ⟨fun h => absurd h (by omega), fun ⟨k, k1, k2, k3⟩ => ?_⟩
      exfalso
      have h3 := aN_nonneg (l := l) (p := f i) hp
      rcases k with _ | k
      · rw [Nat.add_zero, Nat.add_zero, aN_ge hq] at k3
        omega
      · have := k2 0 (by omega)
        rw [Nat.add_zero, Nat.add_zero, aN_ge hq] at this
        omega
  · have h2 := aN_ge (l := R) (p := p) (by rw [hlen]; exact hp)
    rcases Nat.lt_or_ge q l.length with hq | hq
    · have h1 := aN_nonneg (l := R) (p := q) (by rw [hlen]; exact hq)
      refine ⟨fun _ => ⟨0, hw, fun m hm => absurd hm (by omega), ?_⟩, fun _ => by omega⟩
      rw [Nat.add_zero, Nat.add_zero, aN_ge hp]
      have := aN_nonneg (l := l) (p := q) hq
      omega
    · have h1 := aN_ge (l := R) (p := q) (by rw [hlen]; exact hq)
      refine ⟨fun h => absurd h (by omega), fun ⟨k, k1, k2, k3⟩ => ?_⟩
      rw [aN_ge (by omega), aN_ge (by omega)] at k3
      exact absurd k3 (by omega)
/-- The last number tells whether all are unlike. -/
theorem cN_all {a : Nat → Int} {o : Nat → Nat → Int} {f : Nat → Nat} {w n : Nat} (ho : ∀ i j, o i j = 0 ↔ eqW a w i j) (hs : ∀ i, i + 1 < n → ¬ ltW a w (f (i + 1)) (f i)) (hn : 0 < n) (hl : cN o f (n - 1) = n - 1) (i j : Nat) (hij : i < j) (hj : j < n) : ltW a w (f i) (f j) := by
  have h1 := cN_le o f 0 i
  have h2 := cN_le o f i (j - i)
  have h3 := cN_le o f j (n - 1 - j)
  have h0 : cN o f 0 = 0 := rfl
  rw [Nat.zero_add] at h1
  rw [show i + (j - i) = j by omega] at h2
  rw [show j + (n - 1 - j) = n - 1 by omega] at h3
  have h4 := (cN_rank ho hs i (j - i) (by omega)).1
  rw [show i + (j - i) = j by omega] at h4
  exact h4.1 (by omega)
theorem cN_full {o : Nat → Nat → Int} {f : Nat → Nat} {n : Nat} (h : ∀ i, i + 1 < n → o (f i) (f (i + 1)) ≠ 0) (i : Nat) (hi : i < n) : cN o f i = i := by
  induction i with
  | zero => rfl
  | succ i ih =>
    show cN o f i + _ = _
    rw [if_pos (h i hi), ih (by omega)]
theorem rank_start (l : List Nat) : RankOk (aN l) (aN l) 1 := by
  intro i j
  constructor
  · intro h
    exact ⟨0, by omega, fun m hm => absurd hm (by omega), h⟩
  · rintro ⟨k, h1, _, h3⟩
    have : k = 0 := by omega
    subst this
    exact h3
end Go.Proofs.YthkkcelfgcholaaGreat
namespace Go.Proofs.YthkkcelfgcholaaGreat
open Go.RowKit
set_option linter.unusedVariables false
set_option linter.unusedSimpArgs false
/-- What the closures read: the width, the length, the ranks, the first closure. -/
structure OrdAt (W : World) (gw gn gr : Nat) (w n : Nat) (A : Option Addr) (c : Nat) (R : List Nat) : Prop where
  wide : W.cell? ⟨gw, 0, none⟩ = some (.int .i64 (w : Int))
  len : W.cell? ⟨gn, 0, none⟩ = some (.int .i64 (n : Int))
  rank : W.cell? ⟨gr, 0, none⟩ = some (.slice A n c)
  rd : Rd W W.heap.size 1 A n (R.map sv)
theorem OrdAt.drewN {W : World} {gw gn gr w n c : Nat} {A : Option Addr} {R : List Nat} (h : OrdAt W gw gn gr w n A c R) (q : Nat) : OrdAt (W.drewN q) gw gn gr w n A c R := ⟨h.wide, h.len, h.rank, h.rd⟩
theorem OrdAt.at {W : World} {gw gn gr w n c : Nat} {A : Option Addr} {R : List Nat} (h : OrdAt W gw gn gr w n A c R) {i : Nat} (hi : i < n) : ∃ (b off x : Nat), A = some ⟨b, off, none⟩ ∧ R[i]? = some x ∧ W.cell? ⟨b, off + i, none⟩ = some (.int .i64 (x : Int)) := by
  obtain ⟨b, off, u, rfl, hbl, hu, hc⟩ := h.rd.get hi
  rw [List.getElem?_map] at hu
  obtain ⟨x, hx, rfl⟩ := Option.map_eq_some_iff.1 hu
  exact ⟨b, off, x, rfl, hx, hc⟩
set_option maxRecDepth 100000 in
theorem Rows1_any (gw gn gr w n c : Nat) (A : Option Addr) (R : List Nat) (i : Nat) (W : World) (h : OrdAt W gw gn gr w n A c R) (hw : w ≤ 1000) (hn : n ≤ 1000) (hi : i < n) :
    Calls Tryz.prog 43 #[.int .i64 (i : Int), .pointer (some ⟨gw, 0, none⟩), .pointer (some ⟨gn, 0, none⟩), .pointer (some ⟨gr, 0, none⟩)] W fun e w' => e = .returned (.int .i64 (aN R (i + w))) ∧ ∃ q, w' = W.drewN q := by
  have hRl : R.length = n := by simpa using h.rd.1
  have c0 := h.wide
  have c1 := h.len
  have c2 := h.rank
  by_cases hlt : i + w < n
  · have hltI : (i : Int) + (w : Int) < (n : Int) := by omega
    obtain ⟨b, off, x, rfl, hx, hc⟩ := h.at hlt
    have hfin := aN_some hx
    have HF := Lib.hid hfin
    clear hx h hfin
    go_enter Tryz.func43, Tryz.ntmps43
    go_wp2
    go_ret
    exact ⟨by rw [HF.out]; first | rfl | simp_all, 0, rfl⟩
  · have hltI : ¬ ((i : Int) + (w : Int) < (n : Int)) := by omega
    have hfin := aN_ge (l := R) (p := i + w) (by omega)
    have HF := Lib.hid hfin
    clear h hfin
    go_enter Tryz.func43, Tryz.ntmps43
    go_wp2
    go_ret
    exact ⟨by rw [HF.out]; rfl, 0, rfl⟩
set_option maxRecDepth 100000 in
set_option maxHeartbeats 1000000 in
theorem Rows2_any (gw gn gr gb w n c : Nat) (A : Option Addr) (R : List Nat) (x y : Nat) (W : World) (h : OrdAt W gw gn gr w n A c R) (hb : W.cell? ⟨gb, 0, none⟩ = some (.func (.func 43) #[] #[.pointer (some ⟨gw, 0, none⟩), .pointer (some ⟨gn, 0, none⟩), .pointer (some ⟨gr, 0, none⟩)])) (hw : w ≤ 1000) (hn : n ≤ 1000) (hR : ∀ r ∈ R, r ≤ 1000) (hx : x < n) (hy : y < n) :
    Calls Tryz.prog 44 #[.int .i64 (x : Int), .int .i64 (y : Int), .pointer (some ⟨gr, 0, none⟩), .pointer (some ⟨gb, 0, none⟩)] W fun e w' => e = .returned (.int .i64 (ordV (aN R) w x y)) ∧ ∃ q, w' = W.drewN q := by
  have c2 := h.rank
  have H := Lib.hid h
  obtain ⟨b, off, p, hA, hp, hcp⟩ := h.at hx
  obtain ⟨b', off', q, hA', hq, hcq⟩ := h.at hy
  rw [hA] at hA'
  injection hA' with hA'
  injection hA' with e1 e2
  subst e1 e2
  have hp1 := hR p (List.mem_of_getElem? hp)
  have hq1 := hR q (List.mem_of_getElem? hq)
  have ep := aN_some hp
  have eq := aN_some hq
  have bound : ∀ i, -1 ≤ aN R i ∧ aN R i ≤ 1000 := by
    intro i
    unfold aN
    split
    · next z hz =>
      have := hR z (List.mem_of_getElem? hz)
      omega
    · omega
  have b1 := bound (x + w)
  have b2 := bound (y + w)
  have hov : ordV (aN R) w x y = if (p : Int) ≠ (q : Int) then (p : Int) - (q : Int) else aN R (x + w) - aN R (y + w) := by
    unfold ordV
    rw [ep, eq]
  obtain ⟨u, hu⟩ : ∃ u, aN R (x + w) = u := ⟨_, rfl⟩
  obtain ⟨v, hv⟩ : ∃ v, aN R (y + w) = v := ⟨_, rfl⟩
  rw [hu, hv] at hov
  rw [hu] at b1
  rw [hv] at b2
  rw [hov]
  subst hA
  have Hu := Lib.hid hu
  have Hv := Lib.hid hv
  clear h hp hq ep eq bound hov hu hv hR
  by_cases hpq : p = q
  · subst hpq
    rw [if_neg (by simp)]
    go_enter Tryz.func44, Tryz.ntmps44
    go_wp2
    go_quiet (fail)
    go_wp2
    have k1 : ∀ m : Nat, Calls Tryz.prog 43 #[.int .i64 (x : Int), .pointer (some ⟨gw, 0, none⟩), .pointer (some ⟨gn, 0, none⟩), .pointer (some ⟨gr, 0, none⟩)] (W.drewN (nq + m)) fun e w'' => e = .returned (.int .i64 u) ∧ ∃ n, w'' = W.drewN (nq + n) := fun m => by
      have h := Rows1_any gw gn gr w n c _ R x (W.drewN (nq + m)) (H.out.drewN _) hw hn hx
      rw [Hu.out] at h
      exact h.mono fun _ _ ⟨he, q, hq⟩ => ⟨he, m + q, by rw [hq, World.drewN_drewN, Nat.add_assoc]⟩
    have k2 : ∀ m : Nat, Calls Tryz.prog 43 #[.int .i64 (y : Int), .pointer (some ⟨gw, 0, none⟩), .pointer (some ⟨gn, 0, none⟩), .pointer (some ⟨gr, 0, none⟩)] (W.drewN (nq + m)) fun e w'' => e = .returned (.int .i64 v) ∧ ∃ n, w'' = W.drewN (nq + n) := fun m => by
      have h := Rows1_any gw gn gr w n c _ R y (W.drewN (nq + m)) (H.out.drewN _) hw hn hy
      rw [Hv.out] at h
      exact h.mono fun _ _ ⟨he, q, hq⟩ => ⟨he, m + q, by rw [hq, World.drewN_drewN, Nat.add_assoc]⟩
    have h64 : IntKind.i64.wrap (u - v) = u - v := by rw [IntKind.wrap_i64]; omega
    go_quiet ((first | (with_reducible exact k1 _) | (with_reducible exact k2 _)))
    go_wp2
    go_ret
    exact ⟨ret_i64 (by first | omega | rfl), _, World.drewN_drewN _ _ _⟩
  · have hpI : ¬ ((p : Int) = (q : Int)) := by omega
    rw [if_pos hpI]
    go_enter Tryz.func44, Tryz.ntmps44
    go_wp2
    go_quiet (fail)
    go_wp2
    go_quiet (fail)
    go_wp2
    go_ret
    exact ⟨ret_i64 (by omega), _, World.drewN_drewN _ _ _⟩
end Go.Proofs.YthkkcelfgcholaaGreat
