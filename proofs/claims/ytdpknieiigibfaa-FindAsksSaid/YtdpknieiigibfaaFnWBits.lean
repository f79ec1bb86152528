/- Words for the wave's New: rows of bits of one level, path by path. No conditions. -/
import Derived.Test.YtdpknieiigibfaaFnWRank
import Derived.Test.YtdpknieiigibfaaLoose10
namespace Go.Proofs.Ytdpknieiigibfaa
open Go.RowKit
set_option linter.unusedVariables false
set_option linter.unusedSimpArgs false
/-- m cells. -/
@[irreducible] def rowC (T : Nat → Value) (m : Nat) : Array Value := Array.ofFn (n := m) fun i => T i.val
theorem rowC_size (T : Nat → Value) (m : Nat) : (rowC T m).size = m := by unfold rowC; simp
theorem rowC_get (T : Nat → Value) (m i : Nat) (h : i < m) : (rowC T m)[i]? = some (T i) := by
  unfold rowC
  rw [Array.getElem?_ofFn, dif_pos h]
theorem rowC_set (T : Nat → Value) (m i : Nat) (h : i < m) (v : Value) : (rowC T m).setIfInBounds i v = rowC (fun j => if j = i then v else T j) m := by
  apply Array.ext_getElem?
  intro j
  rcases Nat.lt_or_ge j m with hj | hj
  · rw [rowC_get _ _ _ hj]
    by_cases e : i = j
    · subst e
      rw [Array.getElem?_setIfInBounds_self_of_lt (by rw [rowC_size]; exact h), if_pos rfl]
    · rw [Array.getElem?_setIfInBounds_ne e, rowC_get _ _ _ hj, if_neg (fun x => e x.symm)]
  · rw [Array.getElem?_eq_none (by simp [rowC_size]; exact hj), Array.getElem?_eq_none (by rw [rowC_size]; exact hj)]
theorem rowC_const (v : Value) (m : Nat) : rowC (fun _ => v) m = Array.replicate m v := by
  apply Array.ext_getElem?
  intro j
  rcases Nat.lt_or_ge j m with hj | hj
  · rw [rowC_get _ _ _ hj]
    simp [hj]
  · rw [Array.getElem?_eq_none (by rw [rowC_size]; exact hj), Array.getElem?_eq_none (by simpa using hj)]
/-- The m rows of bits R, at the slices T, which the block gB holds. -/
structure Bits (w : World) (B gB m : Nat) (T : Nat → Value) (R : Nat → List Bool) : Prop where
  blk : Bk w gB 86 (rowC T m)
  own : ∀ p, p < m → w.ownsRow B 4 1 (T p) (R p).length ((R p).map Value.bool)
  apart : ∀ p q, p < m → q < m → p ≠ q → ∀ b, (T p).ownBlock = some b → (T q).ownBlock ≠ some b
theorem Bits.same {w w' : World} {B gB m : Nat} {T : Nat → Value} {R : Nat → List Bool} (h : Bits w B gB m T R) (k1 : ∀ b cs, Bk w b 86 cs → Bk w' b 86 cs) (k2 : ∀ b cs, Bk w b 4 cs → Bk w' b 4 cs) : Bits w' B gB m T R :=
  ⟨k1 _ _ h.blk, fun p hp => own_same (h.own p hp) fun b cs _ hb => k2 b cs hb, h.apart⟩
theorem Bits.below {w w' : World} {B gB m : Nat} {T : Nat → Value} {R : Nat → List Bool} (h : Bits w B gB m T R) (k : Below w.heap.size w w') : Bits w' B gB m T R := h.same (fun b cs hb => hb.below k hb.lt) (fun b cs hb => hb.below k hb.lt)
theorem Bits.start (w : World) (B gB m : Nat) (h : Bk w gB 86 (rowC (fun _ => .slice none 0 0) m)) : Bits w B gB m (fun _ => .slice none 0 0) (fun _ => []) :=
  ⟨h, fun p hp => World.ownsRow_nil _ _ _ _, fun p q _ _ _ b hb => by simp [Value.ownBlock] at hb⟩
/-- One row has one bit more, at a slice of its own or a new one. -/
theorem Bits.push {w w1 : World} {B gB m p : Nat} {T : Nat → Value} {R : Nat → List Bool} {v : Value} {b : Bool} (h : Bits w B gB m T R) (hp : p < m) (k : Keep (fun b => (T p).ownBlock = some b) w w1)
    (ho : w1.ownsRow B 4 1 v ((R p).length + 1) ((R p).map Value.bool ++ [.bool b])) (ha : v.ownBlock = (T p).ownBlock ∨ ∃ g, v.ownBlock = some g ∧ w.heap.size ≤ g) :
    Bits (w1.setCell ⟨gB, p, none⟩ v) B gB m (fun j => if j = p then v else T j) (fun j => if j = p then R p ++ [b] else R j) := by
  have hne : (T p).ownBlock ≠ some gB := by
    intro e
    exact own_bk_ne (h.own p hp) h.blk (by decide) e.symm
  have hb1 := k.bk h.blk hne
  have hset : ∀ g cs, Bk w1 g 4 cs → Bk (w1.setCell ⟨gB, p, none⟩ v) g 4 cs := fun g cs hg => hg.far (Bk.ne hg hb1 (by decide)) _
  refine ⟨?_, fun q hq => ?_, fun q r hq hr hqr b' hb' => ?_⟩
  · rw [← rowC_set T m p hp v]
    exact hb1.set p v
  · by_cases e : q = p
    · subst e
      rw [if_pos rfl, if_pos rfl, List.length_append, List.map_append]
      exact own_same ho fun g cs _ hg => hset g cs hg
    · rw [if_neg e, if_neg e]
      refine own_same (h.own q hq) fun g cs hg hgb => hset g cs (k.bk hgb ?_)
      exact fun x => h.apart q p hq hp e g hg x
  · have lt : ∀ q, q < m → ∀ x, (T q).ownBlock = some x → x < w.heap.size := fun q hq x hx => ((h.own q hq).lt x hx).2
    have hv : ∀ q, q < m → q ≠ p → ∀ x, v.ownBlock = some x → (T q).ownBlock ≠ some x := by
      intro q hq hqp x hx hy
      rcases ha with ha | ⟨g, hg, hge⟩
      · rw [ha] at hx
        exact h.apart p q hp hq (fun e => hqp e.symm) x hx hy
      · rw [hg] at hx
        cases hx
        have := lt q hq _ hy
        omega
    by_cases e1 : q = p
    · subst e1
      rw [if_pos rfl] at hb'
      rw [if_neg (fun e => hqr e.symm)]
      exact hv r hr (fun e => hqr e.symm) b' hb'
    · rw [if_neg e1] at hb'
      by_cases e2 : r = p
      · subst e2
        rw [if_pos rfl]
        intro hx
        exact hv q hq e1 b' hx hb'
      · rw [if_neg e2]
        exact h.apart q r hq hr hqr b' hb'
theorem bits_snoc (L : List Nat) (s lv p : Nat) : bitsOf (L ++ [s]) lv p = if p = pathN s lv then bitsOf L lv p ++ [bitB s lv] else bitsOf L lv p := by
  unfold bitsOf
  rw [List.filter_append, List.map_append]
  by_cases e : p = pathN s lv
  · rw [if_pos e]
    simp [e]
  · rw [if_neg e]
    have : (pathN s lv == p) = false := by simp; omega
    simp [this]
theorem Bits.congr {w : World} {B gB m : Nat} {T : Nat → Value} {R R' : Nat → List Bool} (h : Bits w B gB m T R) (e : ∀ p, p < m → R p = R' p) : Bits w B gB m T R' :=
  ⟨h.blk, fun p hp => by rw [← e p hp]; exact h.own p hp, h.apart⟩
theorem own_ty {w : World} {base : Nat} {e : TypeId} {sz n b : Nat} {v : Value} {xs : List Value} (h : w.ownsRow base e sz v n xs) (hb : v.ownBlock = some b) : ∃ cs, Bk w b e cs := by
  rcases h.2 with ⟨rfl, _⟩ | ⟨g, cap, cur, rfl, _, hg, _⟩
  · simp [Value.ownBlock] at hb
  · have e1 : g = b := by simpa [Value.ownBlock] using hb
    subst e1
    exact ⟨cur, hg⟩
/-- Behind the write of the wave, and of blocks that are new, an older tree stands. -/
theorem TreeAt.keepT {w w' : World} {F : Nat → Prop} {gt : Nat} {bs : List Bool} (h : TreeAt w gt bs) (k : Keep F w w') (hf : ∀ b, F b → ∃ t cs, Bk w b t cs ∧ (t = 98 ∨ t = 102)) : TreeAt w' gt bs := by
  refine h.same fun b t cs hin hb => k.bk hb fun hF => ?_
  obtain ⟨t', cs', hb', ht⟩ := hf b hF
  have e := (bk_inj hb hb').1
  subst e
  rcases ht with rfl | rfl
  · exact absurd hin (by decide)
  · exact absurd hin (by decide)
theorem ShelfRow.keepW {w w' : World} {gv B : Nat} {cs : Array Value} {v : Value} {L : List Nat} {lv m : Nat} (h : ShelfRow w B v L lv m) (k : Keep (fun b => b = gv) w w') (hw : Bk w gv 98 cs) : ShelfRow w' B v L lv m := by
  obtain ⟨G, h1, h2⟩ := h
  refine ⟨G, own_same h1 fun b cs _ hb => k.bk hb fun e => ?_, fun p hp => ⟨(h2 p hp).1, (h2 p hp).2.keepT k fun b e => by
    have e' : b = gv := e
    subst e'
    exact ⟨_, cs, hw, .inl rfl⟩⟩⟩
  have e' : b = gv := e
  subst e'
  exact absurd (bk_inj hb hw).1 (by decide)
theorem ShelfRow.mono {w : World} {B B' : Nat} {v : Value} {L : List Nat} {lv m : Nat} (h : ShelfRow w B v L lv m) (hB : B' ≤ B) : ShelfRow w B' v L lv m := by
  obtain ⟨G, h1, h2⟩ := h
  exact ⟨G, own_mono h1 hB, fun p hp => ⟨Nat.le_trans hB (h2 p hp).1, (h2 p hp).2⟩⟩
end Go.Proofs.Ytdpknieiigibfaa
