/- A law's argument that is a slice of steps. No conditions. -/
import Derived.Test.YtmebhlopmgfobaaLaw
import Derived.Deep.Slices
import Derived.Deep.Fields
namespace Go.Proofs.Ytmebhlopmgfobaa
set_option linter.unusedSimpArgs false
open Go.ChangeShapes Go.WideShapes Go.ChangeAt Go.RowKit Go.Deep
/-- A step: kind, place, number, where its bytes lie, its bytes. -/
structure Stp where
  kind : Int
  p : Int
  k : Int
  A : Option Addr
  n : Nat
  c : Nat
  D : List UInt8
def stpCell (s : Stp) : List Value := [iv s.kind, iv s.p, iv s.k, .slice s.A s.n s.c]
def stpCells (l : List Stp) : List Value := l.flatMap stpCell
theorem stpCells_len (l : List Stp) : (stpCells l).length = l.length * 4 := by
  induction l with
  | nil => rfl
  | cons s l ih =>
    simp only [stpCells, List.flatMap_cons] at ih ⊢
    rw [List.length_append, ih, List.length_cons]
    simp only [stpCell, List.length_cons, List.length_nil]
    omega
theorem stpCells_get (l : List Stp) (i j : Nat) (s : Stp) (h : l[i]? = some s) (hj : j < 4) : (stpCells l)[i * 4 + j]? = (stpCell s)[j]? := by
  induction l generalizing i with
  | nil => simp at h
  | cons x l ih =>
    have e : stpCells (x :: l) = stpCell x ++ stpCells l := by simp [stpCells]
    have hl : (stpCell x).length = 4 := rfl
    rcases i with _ | i
    · simp at h
      subst h
      rw [e, Nat.zero_mul, Nat.zero_add, List.getElem?_append_left (by omega)]
    · simp only [List.getElem?_cons_succ] at h
      rw [e, List.getElem?_append_right (by omega), hl, show (i + 1) * 4 + j - 4 = i * 4 + j by omega]
      exact ih i h
def i64in (z : Int) : Prop := -9223372036854775808 ≤ z ∧ z ≤ 9223372036854775807
/-- What is known of a step that came in. -/
def Stp.good (w : World) (s : Stp) : Prop := i64in s.kind ∧ i64in s.p ∧ i64in s.k ∧ Rd w w.heap.size 1 s.A s.n (s.D.map bv) ∧ s.n ≤ s.c ∧ s.c ≤ maxLen
theorem arg_steps {H : Type} {enc : TypeId × Value → H} {w : World} {a : Option Addr} {len cap : Nat} {d : DataW H} {p : List MemPlace}
    (h : DataW.Trod enc Try.prog w 0 (fun _ => true) true 36 (.slice a len cap) d p) :
    ∃ l : List Stp, Rd w w.heap.size 4 a len (stpCells l) ∧ l.length = len ∧ (∀ s ∈ l, s.good w) ∧ len ≤ cap ∧ cap ≤ maxLen := by
  obtain ⟨fuel, hf⟩ := h
  rcases open_slice Try.underlying36 hf with ⟨hcs, _⟩ | ⟨x, l, c, m, n, D, Pl, hcs, _, hl, hm, hmm, _, hi⟩
  · simp [Value.cells] at hcs
    obtain ⟨rfl, rfl, rfl⟩ := hcs
    exact ⟨[], Rd.nil _ _ _ _, rfl, by simp, Nat.le_refl _, Nat.zero_le _⟩
  · simp [Value.cells] at hcs
    obtain ⟨rfl, rfl, rfl⟩ := hcs
    simp at hmm
    subst hmm
    have hC : Try.prog.cellsOf 32 = 4 := by kernel_rfl
    obtain ⟨fs, he, hone, hsz, ⟨q0, g0, t0⟩, ⟨q1, g1, t1⟩, ⟨q2, g2, t2⟩, ⟨q3, g3, t3⟩⟩ : ∃ fs : Array Field, Try.prog.underlying 32 = some (.struct fs) ∧ oneCellFields Try.prog fs = true ∧ fs.size = 4 ∧ (∃ f, fs[0]? = some f ∧ f.type = 3) ∧ (∃ f, fs[1]? = some f ∧ f.type = 3) ∧ (∃ f, fs[2]? = some f ∧ f.type = 3) ∧ (∃ f, fs[3]? = some f ∧ f.type = 22) :=
      ⟨_, Try.underlying32, rfl, rfl, ⟨_, rfl, rfl⟩, ⟨_, rfl, rfl⟩, ⟨_, rfl, rfl⟩, ⟨_, rfl, rfl⟩⟩
    have key : ∀ i, i < len → ∃ s : Stp, (∀ j, j < 4 → w.cell? (x.add (i * 4 + j)) = (stpCell s)[j]?) ∧ s.good w := by
      intro i hil
      obtain ⟨cs', hc, ht'⟩ := hi i (by omega)
      rw [hC] at hc
      obtain ⟨ys, n', hn', hy, hlen, hyl, hfld⟩ := DataW.trod_struct he ht'
      obtain ⟨_, hcl, hat⟩ := World.cells?_some hc
      rw [hC] at hlen
      match cs', hlen with
      | [u0, u1, u2, u3], _ =>
        have y0 : ys[0]? = some (ys[0]'(by rw [hyl, hsz]; decide)) := List.getElem?_eq_getElem _
        have y1 : ys[1]? = some (ys[1]'(by rw [hyl, hsz]; decide)) := List.getElem?_eq_getElem _
        have y2 : ys[2]? = some (ys[2]'(by rw [hyl, hsz]; decide)) := List.getElem?_eq_getElem _
        have y3 : ys[3]? = some (ys[3]'(by rw [hyl, hsz]; decide)) := List.getElem?_eq_getElem _
        have f0 := hfld 0 _ g0
        rw [(hone_of hone _ _ g0).1, (hone_of hone _ _ g0).2, t0, y0] at f0
        simp only [List.drop_zero, List.drop_succ_cons, List.take_succ_cons, List.take_zero] at f0
        have f1 := hfld 1 _ g1
        rw [(hone_of hone _ _ g1).1, (hone_of hone _ _ g1).2, t1, y1] at f1
        simp only [List.drop_zero, List.drop_succ_cons, List.take_succ_cons, List.take_zero] at f1
        have f2 := hfld 2 _ g2
        rw [(hone_of hone _ _ g2).1, (hone_of hone _ _ g2).2, t2, y2] at f2
        simp only [List.drop_zero, List.drop_succ_cons, List.take_succ_cons, List.take_zero] at f2
        have f3 := hfld 3 _ g3
        rw [(hone_of hone _ _ g3).1, (hone_of hone _ _ g3).2, t3, y3] at f3
        simp only [List.drop_zero, List.drop_succ_cons, List.take_succ_cons, List.take_zero] at f3
        obtain ⟨z0, e0, _, w0⟩ := DataW.trod_int Try.underlying3 f0
        obtain ⟨z1, e1, _, w1⟩ := DataW.trod_int Try.underlying3 f1
        obtain ⟨z2, e2, _, w2⟩ := DataW.trod_int Try.underlying3 f2
        injection e0 with e0
        injection e1 with e1
        injection e2 with e2
        subst e0
        subst e1
        subst e2
        have hsl : ∃ (A : Option Addr) (sn sc : Nat), u3 = .slice A sn sc := by
          rcases open_slice Try.underlying22 f3 with ⟨h1, _⟩ | ⟨x1, l1, c1, _, _, _, _, h1, _⟩
          · injection h1 with h1
            exact ⟨_, _, _, h1⟩
          · injection h1 with h1
            exact ⟨_, _, _, h1⟩
        obtain ⟨A, sn, sc, rfl⟩ := hsl
        obtain ⟨zs, r1, r2, r3, r4⟩ := arg_ints (d := (ys[3]'(by rw [hyl, hsz]; decide)).1) (p := (ys[3]'(by rw [hyl, hsz]; decide)).2) Try.underlying22 Try.underlying5 (by kernel_rfl) ⟨n', by simpa [Value.cells] using f3⟩
        obtain ⟨bs, hbs⟩ := bytes_of zs r2
        rw [hbs] at r1
        refine ⟨⟨z0, z1, z2, A, sn, sc, bs⟩, ?_, bounds_i64 w0, bounds_i64 w1, bounds_i64 w2, r1, r3, r4⟩
        intro j hj
        have := hat j hj
        rw [Go.Deep.add_add] at this
        rw [this]
        rcases j with _ | _ | _ | _ | j
        · rfl
        · rfl
        · rfl
        · rfl
        · omega
    have pick : ∃ g : Nat → Stp, ∀ i, i < len → (∀ j, j < 4 → w.cell? (x.add (i * 4 + j)) = (stpCell (g i))[j]?) ∧ (g i).good w := by
      refine ⟨fun q => if hq : q < len then Classical.choose (key q hq) else ⟨0, 0, 0, none, 0, 0, []⟩, fun q hq => ?_⟩
      simp only [hq, dif_pos]
      exact Classical.choose_spec (key q hq)
    obtain ⟨g, hg⟩ := pick
    refine ⟨(List.range len).map g, ⟨by rw [stpCells_len]; simp, fun hpos => ?_⟩, by simp, ?_, hl, hm⟩
    · have hc0 := (hg 0 hpos).1 0 (by omega)
      simp only [Nat.zero_mul, Nat.zero_add] at hc0
      have hc1 : w.cell? (x.add 0) = some (iv (g 0).kind) := hc0.trans rfl
      obtain ⟨b, off, spot⟩ := x
      have hspot : spot = none := by simpa [Addr.add] using World.cell?_spot hc1
      subst hspot
      have hb := World.block_lt_of_cell? w _ hc1
      refine ⟨b, off, rfl, by simpa [Addr.add] using hb, fun j u hu => ?_⟩
      have hjl : j < len * 4 := by
        have := (List.getElem?_eq_some_iff.1 hu).1
        rw [stpCells_len] at this
        simpa using this
      have h1 : j / 4 < len := Nat.div_lt_of_lt_mul (by rw [Nat.mul_comm]; exact hjl)
      have h2 : j % 4 < 4 := Nat.mod_lt _ (by omega)
      have h3 : j / 4 * 4 + j % 4 = j := Nat.div_add_mod' j 4
      have hs : ((List.range len).map g)[j / 4]? = some (g (j / 4)) := by rw [List.getElem?_map, List.getElem?_range h1]; rfl
      have h5 := stpCells_get _ (j / 4) (j % 4) _ hs h2
      rw [h3, hu] at h5
      have h6 := (hg (j / 4) h1).1 (j % 4) h2
      rw [h3, ← h5, add_lit] at h6
      exact h6
    · intro s hs
      obtain ⟨q, hq, rfl⟩ := List.mem_map.1 hs
      exact (hg q (List.mem_range.1 hq)).2
end Go.Proofs.Ytmebhlopmgfobaa
