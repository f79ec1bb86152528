/- The walks of cost.Sum, fib.fours, fib.may and fib.May (for shapes that may be), and of scrimshawlaw23.told. Sum: conditions: at most 65536 shapes, of parts within 2^40. -/
import Derived.Test.YthcoldomeedbnaaFib
import Derived.Laws.StructEq
import Derived.Laws.ResultCell
import Derived.BigQuiet
import Derived.Deep.QuietTactic
namespace Go.Proofs.Ythcoldomeedbnaa
open Go.RowKit
set_option linter.unusedVariables false

/-- A shape: how many bits, how high, how many leaves, how many nodes. -/
structure Shp where
  len : Int
  height : Int
  leaves : Int
  nodes : Int
def Shp.cells (s : Shp) : List Value := [iv s.len, iv s.height, iv s.leaves, iv s.nodes]
def Shp.val (s : Shp) : Value := .agg #[iv s.len, iv s.height, iv s.leaves, iv s.nodes]
def shpCells (l : List Shp) : List Value := l.flatMap Shp.cells
def Shp.zero : Shp := ⟨0, 0, 0, 0⟩
def Shp.add (a b : Shp) : Shp := ⟨a.len + b.len, max a.height b.height, a.leaves + b.leaves, a.nodes + b.nodes⟩
/-- Shapes together. -/
def sumShp (l : List Shp) : Shp := l.foldl Shp.add Shp.zero
def Shp.small (s : Shp) : Prop := (-1099511627776 ≤ s.len ∧ s.len ≤ 1099511627776) ∧ (-1099511627776 ≤ s.leaves ∧ s.leaves ≤ 1099511627776) ∧ (-1099511627776 ≤ s.nodes ∧ s.nodes ≤ 1099511627776)
theorem shpCells_get (l : List Shp) (i j : Nat) (s : Shp) (h : l[i]? = some s) (hj : j < 4) : (shpCells l)[i * 4 + j]? = s.cells[j]? := by
  induction l generalizing i with
  | nil => simp at h
  | cons a l ih =>
    rcases i with _ | i
    · simp at h
      subst h
      simp only [shpCells, List.flatMap_cons, Nat.zero_mul, Nat.zero_add]
      rw [List.getElem?_append_left (by simp [Shp.cells]; omega)]
    · simp only [List.getElem?_cons_succ] at h
      have := ih i h
      simp only [shpCells, List.flatMap_cons] at this ⊢
      rw [List.getElem?_append_right (by simp [Shp.cells]; omega)]
      rw [← this]
      congr 1
      simp [Shp.cells]
      omega
theorem shpCells_len (l : List Shp) : (shpCells l).length = l.length * 4 := by
  induction l with
  | nil => rfl
  | cons a l ih =>
    have h4 : a.cells.length = 4 := rfl
    have e : shpCells (a :: l) = a.cells ++ shpCells l := by simp [shpCells]
    rw [e, List.length_append, ih, h4, List.length_cons]
    omega
theorem sumShp_snoc (l : List Shp) (k : Nat) (s : Shp) (h : l[k]? = some s) : sumShp (l.take (k + 1)) = (sumShp (l.take k)).add s := by
  have hk : k < l.length := (List.getElem?_eq_some_iff.1 h).1
  rw [List.take_succ_eq_append_getElem hk, (List.getElem?_eq_some_iff.1 h).2]
  simp [sumShp, List.foldl_append]
theorem sumShp_small (l : List Shp) (hs : ∀ s ∈ l, s.small) : let t := sumShp l; (-1099511627776 * (l.length : Int) ≤ t.len ∧ t.len ≤ 1099511627776 * (l.length : Int)) ∧ (-1099511627776 * (l.length : Int) ≤ t.leaves ∧ t.leaves ≤ 1099511627776 * (l.length : Int)) ∧ (-1099511627776 * (l.length : Int) ≤ t.nodes ∧ t.nodes ≤ 1099511627776 * (l.length : Int)) := by
  have key : ∀ (l : List Shp), (∀ s ∈ l, s.small) → ∀ (a : Shp) (n : Int), (-1099511627776 * n ≤ a.len ∧ a.len ≤ 1099511627776 * n) ∧ (-1099511627776 * n ≤ a.leaves ∧ a.leaves ≤ 1099511627776 * n) ∧ (-1099511627776 * n ≤ a.nodes ∧ a.nodes ≤ 1099511627776 * n) →
      let t := l.foldl Shp.add a; (-1099511627776 * (n + l.length) ≤ t.len ∧ t.len ≤ 1099511627776 * (n + l.length)) ∧ (-1099511627776 * (n + l.length) ≤ t.leaves ∧ t.leaves ≤ 1099511627776 * (n + l.length)) ∧ (-1099511627776 * (n + l.length) ≤ t.nodes ∧ t.nodes ≤ 1099511627776 * (n + l.length)) := by
    intro l
    induction l with
    | nil => intro _ a n h; simpa using h
    | cons s l ih =>
      intro hs a n h
      have h1 := hs s (List.mem_cons_self ..)
      unfold Shp.small at h1
      have := ih (fun s hs' => hs s (List.mem_cons_of_mem _ hs')) (a.add s) (n + 1) (by simp only [Shp.add]; omega)
      simp only [List.foldl_cons, List.length_cons] at this ⊢
      have e : (n + 1 + (l.length : Int)) = n + ((l.length + 1 : Nat) : Int) := by omega
      rw [e] at this
      exact this
  have := key l hs Shp.zero 0 (by simp [Shp.zero])
  simpa [sumShp] using this

set_option maxRecDepth 100000 in
set_option maxHeartbeats 1000000 in
theorem Sum_any (A : Option Addr) (m c : Nat) (l : List Shp) (B : Nat) (w : World) (hr : Rd w B 4 A m (shpCells l)) (hB : B ≤ w.heap.size) (hs : ∀ s ∈ l, s.small) (hm : m ≤ 65536) :
    Calls Try.prog 21 #[.slice A m c] w fun e w' => e = .returned (sumShp l).val ∧ Below w.heap.size w w' := by
  have hll : l.length = m := by have := hr.1; rw [shpCells_len] at this; omega
  have Hll := Lib.hid hll
  have Hr := Lib.hid (hr.mono hB)
  have Hs := Lib.hid hs
  clear hr hs hll
  go_enter Try.func21, Try.ntmps21
  go_wp2
  go_loopw [8] (fun i wr => ∃ k : Nat, k ≤ m ∧ i = .int .i64 k ∧ Bk wr w.heap.size 28 (Shp.zero.cells).toArray ∧ Bk wr (w.heap.size + 1) 28 ((sumShp (l.take k)).cells).toArray ∧ Below w.heap.size w wr) (fun i _ => m - (intOf i).toNat)
  case atStart =>
    refine ⟨0, Nat.zero_le _, rfl, ?_, ?_, ((Below.refl _ _).alloc (Nat.le_refl _) _).alloc (by simp) _⟩
    · exact (Bk.new w _ _).alloc _
    · have := Bk.new (w.alloc (.cells #[.int .i64 0, .int .i64 0, .int .i64 0, .int .i64 0] 28)) 28 #[.int .i64 0, .int .i64 0, .int .i64 0, .int .i64 0]
      rw [World.size_alloc] at this
      exact this
  case round =>
    obtain ⟨k, hk, rfl, hb0, hb1, hb⟩ := hrel
    have hsz := hb.size
    have hlt1 := hb1.lt
    by_cases hlt : k < m
    · obtain ⟨s, hsk⟩ : ∃ s, l[k]? = some s := ⟨l[k]'(by have := Hll.out; omega), List.getElem?_eq_getElem (by have := Hll.out; omega)⟩
      obtain ⟨b, off, rfl, hbl, hc⟩ := (Hr.out.below hb).2 (by omega)
      have c0 : wr.cell? ⟨b, off + k * 4, none⟩ = some (.int .i64 s.len) := hc (k * 4 + 0) _ ((shpCells_get l k 0 s hsk (by omega)).trans rfl)
      have c1 : wr.cell? ⟨b, off + k * 4 + 1, none⟩ = some (.int .i64 s.height) := by rw [Nat.add_assoc]; exact hc (k * 4 + 1) _ ((shpCells_get l k 1 s hsk (by omega)).trans rfl)
      have c2 : wr.cell? ⟨b, off + k * 4 + 2, none⟩ = some (.int .i64 s.leaves) := by rw [Nat.add_assoc]; exact hc (k * 4 + 2) _ ((shpCells_get l k 2 s hsk (by omega)).trans rfl)
      have c3 : wr.cell? ⟨b, off + k * 4 + 3, none⟩ = some (.int .i64 s.nodes) := by rw [Nat.add_assoc]; exact hc (k * 4 + 3) _ ((shpCells_get l k 3 s hsk (by omega)).trans rfl)
      have hsm := Hs.out s (List.mem_of_getElem? hsk)
      have hbd := sumShp_small (l.take k) (fun s hs' => Hs.out s (List.mem_of_mem_take hs'))
      have htk : (l.take k).length ≤ 65536 := by rw [List.length_take]; omega
      unfold Shp.small at hsm
      simp only at hbd
      generalize (l.take k).length = q at hbd htk
      generalize hsum : sumShp (l.take k) = t at *
      obtain ⟨⟨s1, s2⟩, ⟨s3, s4⟩, s5, s6⟩ := hsm
      obtain ⟨⟨d1, d2⟩, ⟨d3, d4⟩, d5, d6⟩ := hbd
      have e1 : -72057594037927936 ≤ t.len := by omega
      have e2 : t.len ≤ 72057594037927936 := by omega
      have e3 : -72057594037927936 ≤ t.leaves := by omega
      have e4 : t.leaves ≤ 72057594037927936 := by omega
      have e5 : -72057594037927936 ≤ t.nodes := by omega
      have e6 : t.nodes ≤ 72057594037927936 := by omega
      clear d1 d2 d3 d4 d5 d6 htk
      have g0 : wr.cell? ⟨w.heap.size + 1, 0, none⟩ = some (.int .i64 t.len) := hb1.cell 0
      have g1 : wr.cell? ⟨w.heap.size + 1, 1, none⟩ = some (.int .i64 t.height) := hb1.cell 1
      have g2 : wr.cell? ⟨w.heap.size + 1, 2, none⟩ = some (.int .i64 t.leaves) := hb1.cell 2
      have g3 : wr.cell? ⟨w.heap.size + 1, 3, none⟩ = some (.int .i64 t.nodes) := hb1.cell 3
      have f0 := hb1.frozen 0
      have f1 := hb1.frozen 1
      have f2 := hb1.frozen 2
      have f3 := hb1.frozen 3
      have Hb0 := Lib.hid hb0
      have Hb1 := Lib.hid hb1
      have Hsk := Lib.hid hsk
      have Hsum := Lib.hid hsum
      clear hsk hc hb0 hb1 hsum
      go_wp2
      have hs3 := (((Hb1.out.set 0 (.int .i64 (t.len + s.len))).set 2 (.int .i64 (t.leaves + s.leaves))).set 3 (.int .i64 (t.nodes + s.nodes))).set 1 (.int .i64 (if t.height < s.height then s.height else t.height))
      have hn0 : ∀ i u (W : World), Bk W w.heap.size 28 (Shp.zero.cells).toArray → Bk (W.setCell ⟨w.heap.size + 1, i, none⟩ u) w.heap.size 28 (Shp.zero.cells).toArray := fun i u W h => h.far (p := ⟨w.heap.size + 1, i, none⟩) (by simp) u
      refine ⟨⟨k + 1, by omega, by go_num, (hn0 _ _ _ (hn0 _ _ _ (hn0 _ _ _ (hn0 _ _ _ Hb0.out)))).alloc _, ?_, ?_⟩, by simp [intOf]; omega⟩
      · rw [sumShp_snoc l k s Hsk.out, Hsum.out]
        have := hs3.alloc (.cells #[Value.int IntKind.i64 s.len, Value.int IntKind.i64 s.height, Value.int IntKind.i64 s.leaves, Value.int IntKind.i64 s.nodes] 28)
        have hmax : (if t.height < s.height then s.height else t.height) = max t.height s.height := by split <;> omega
        rw [hmax] at this ⊢
        exact this
      · exact ((((hb.setCell (p := ⟨w.heap.size + 1, 0, none⟩) (by simp) _).setCell (p := ⟨w.heap.size + 1, 2, none⟩) (by simp) _).setCell (p := ⟨w.heap.size + 1, 3, none⟩) (by simp) _).setCell (p := ⟨w.heap.size + 1, 1, none⟩) (by simp) _).alloc (by simp [World.setCell]; omega) _
    · have hkm : k = m := by omega
      have htk : l.take k = l := List.take_of_length_le (by have := Hll.out; omega)
      rw [htk] at hb1
      generalize hsum : sumShp l = t at *
      have g0 : wr.cell? ⟨w.heap.size + 1, 0, none⟩ = some (.int .i64 t.len) := hb1.cell 0
      have g1 : wr.cell? ⟨w.heap.size + 1, 1, none⟩ = some (.int .i64 t.height) := hb1.cell 1
      have g2 : wr.cell? ⟨w.heap.size + 1, 2, none⟩ = some (.int .i64 t.leaves) := hb1.cell 2
      have g3 : wr.cell? ⟨w.heap.size + 1, 3, none⟩ = some (.int .i64 t.nodes) := hb1.cell 3
      have z0 : wr.cell? ⟨w.heap.size, 0, none⟩ = some (.int .i64 0) := hb0.cell 0
      have z1 : wr.cell? ⟨w.heap.size, 1, none⟩ = some (.int .i64 0) := hb0.cell 1
      have z2 : wr.cell? ⟨w.heap.size, 2, none⟩ = some (.int .i64 0) := hb0.cell 2
      have z3 : wr.cell? ⟨w.heap.size, 3, none⟩ = some (.int .i64 0) := hb0.cell 3
      have f0 := hb0.frozen 0
      have f1 := hb0.frozen 1
      have f2 := hb0.frozen 2
      have f3 := hb0.frozen 3
      have hlt0 := hb0.lt
      have hge : m ≤ k := by omega
      have Hb0 := Lib.hid hb0
      have Hsum := Lib.hid hsum
      clear hb0 hb1 htk hsum hkm
      go_wp2
      have hs3 := (((Hb0.out.set 0 (.int .i64 t.len)).set 1 (.int .i64 t.height)).set 2 (.int .i64 t.leaves)).set 3 (.int .i64 t.nodes)
      refine bodyPost_ret (results_cell_row rfl _ _ w.heap.size 28 #[.int .i64 t.len, .int .i64 t.height, .int .i64 t.leaves, .int .i64 t.nodes] (0, 0) _ rfl hs3 Try.underlying28 rfl (by kernel_rfl)) rfl ⟨by rw [Hsum.out]; rfl, ?_⟩
      exact (((hb.setCell (p := ⟨w.heap.size, 0, none⟩) (by simp) _).setCell (p := ⟨w.heap.size, 1, none⟩) (by simp) _).setCell (p := ⟨w.heap.size, 2, none⟩) (by simp) _).setCell (p := ⟨w.heap.size, 3, none⟩) (by simp) _
theorem Sum_is (A : Option Addr) (m c : Nat) (l : List Shp) (B : Nat) (w : World) (t : Shp) (h : sumShp l = t) (hr : Rd w B 4 A m (shpCells l)) (hB : B ≤ w.heap.size) (hs : ∀ s ∈ l, s.small) (hm : m ≤ 65536) :
    Calls Try.prog 21 #[.slice A m c] w fun e w' => e = .returned (.agg #[.int .i64 t.len, .int .i64 t.height, .int .i64 t.leaves, .int .i64 t.nodes]) ∧ Below w.heap.size w w' := by
  subst h
  exact Sum_any A m c l B w hr hB hs hm
end Go.Proofs.Ythcoldomeedbnaa
