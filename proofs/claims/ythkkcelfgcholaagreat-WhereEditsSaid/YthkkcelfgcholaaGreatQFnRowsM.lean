/- Plain laws for sorted.Rows: the sorted list of a text's suffixes (IsSuf, and that there is one), the sort's world, the array of rows. No conditions. -/
import Derived.Test.YthkkcelfgcholaaGreatPkD
import Derived.Test.YthkkcelfgcholaaGreatPkE
import Derived.Shelf.SlSortCmp.Kit1
namespace Go.Proofs.YthkkcelfgcholaaGreat
open Go.RowKit Go Go.Sort
set_option linter.unusedVariables false
set_option linter.unusedSimpArgs false
/-- The suffix from p on is less than that from q on. -/
def sufLt (l : List Nat) (p q : Nat) : Prop := ∃ w, ltW (aN l) w p q
theorem ltW_up {a : Nat → Int} {w w' i j : Nat} (h : ltW a w i j) (hw : w ≤ w') : ltW a w' i j := by
  obtain ⟨k, h1, h2⟩ := h
  exact ⟨k, by omega, h2⟩
theorem sufLt.asymm {l : List Nat} {p q : Nat} (h : sufLt l p q) (k : sufLt l q p) : False := by
  obtain ⟨w, h⟩ := h
  obtain ⟨w', k⟩ := k
  exact (ltW_up h (Nat.le_max_left w w')).asymm (ltW_up k (Nat.le_max_right w w'))
theorem sufLt.trans {l : List Nat} {p q r : Nat} (h : sufLt l p q) (k : sufLt l q r) : sufLt l p r := by
  obtain ⟨w, h⟩ := h
  obtain ⟨w', k⟩ := k
  exact ⟨_, (ltW_up h (Nat.le_max_left w w')).trans (ltW_up k (Nat.le_max_right w w'))⟩
/-- rs are the places where the suffixes of l begin, sorted. -/
structure IsSuf (l rs : List Nat) : Prop where
  perm : rs.Perm (List.range l.length)
  sorted : rs.Pairwise (sufLt l)
theorem IsSuf.len {l rs : List Nat} (h : IsSuf l rs) : rs.length = l.length := by simpa using h.perm.length_eq
theorem IsSuf.lt {l rs : List Nat} (h : IsSuf l rs) {p : Nat} (hp : p ∈ rs) : p < l.length := by simpa using h.perm.mem_iff.1 hp
theorem IsSuf.mem {l rs : List Nat} (h : IsSuf l rs) {p : Nat} (hp : p < l.length) : p ∈ rs := h.perm.mem_iff.2 (by simpa using hp)
theorem IsSuf.nodup {l rs : List Nat} (h : IsSuf l rs) : rs.Nodup := h.perm.nodup_iff.2 List.nodup_range
theorem IsSuf.unique {l rs rs' : List Nat} (h : IsSuf l rs) (h' : IsSuf l rs') : rs = rs' := by
  refine List.Perm.eq_of_pairwise (le := sufLt l) ?_ h.sorted h'.sorted (h.perm.trans h'.perm.symm)
  intro a b _ _ h1 h2
  exact (h1.asymm h2).elim
/-- A row of the sort: numbers below m + 1. -/
def encF (m : Nat) (x : Fin (m + 1)) : Value := .int .i64 ((x.val : Nat) : Int)
theorem oneCell_encF (m : Nat) (x : Fin (m + 1)) : (encF m x).oneCell' = true := rfl
section
variable {α : Type} [Inhabited α] {enc : α → Value} {w : World} {blk : Nat} {t : TypeId} {d d' : Array α}
theorem getB (d : Array α) (i : Nat) (h : i < d.size) : d[i]! = d[i] := getElem!_pos d i h
theorem putCells_map (hs : d'.size = d.size) : putCells enc 0 d' (d.map enc) = d'.map enc := by
  apply Array.ext
  · simp [putCells, hs]
  · intro i h1 h2
    have hi : i < d'.size := by simpa using h2
    simp [putCells, hi, getB]
theorem sort_bk (h : Bk w blk t (d.map enc)) (hs : d'.size = d.size) (n : Nat) (os : Array Obj) : Bk (sortWorld enc w blk 0 n d' os) blk t (d'.map enc) := by
  have hlt := h.lt
  unfold Bk at h ⊢
  have e : (putRow enc (Sort.ahead w n) blk 0 d').heap[blk]? = some (.cells (d'.map enc) t (0, 0)) := by
    show (w.heap.modify blk _)[blk]? = _
    rw [Array.getElem?_modify, if_pos rfl, h]
    simp only [Option.map_some, onCells]
    rw [putCells_map hs]
  unfold sortWorld
  rw [heap_grow_old _ _ (by show blk < (w.heap.modify blk _).size; simpa using hlt)]
  exact e
theorem sort_keep (hb : blk < w.heap.size) (off n : Nat) (d' : Array α) (os : Array Obj) : Keep (fun b => b = blk) w (sortWorld enc w blk off n d' os) := by
  refine ⟨rfl, rfl, rfl, ?_, fun k hk hn => ?_⟩
  · show w.heap.size ≤ ((w.heap.modify blk _) ++ os).size
    simp
  · unfold sortWorld
    rw [heap_grow_old _ _ (by show k < (w.heap.modify blk _).size; simpa using hk)]
    show (w.heap.modify blk _)[k]? = _
    rw [Array.getElem?_modify, if_neg (fun e => hn e.symm)]
theorem bk_holds (h : Bk w blk t (d.map enc)) : Holds enc w blk 0 d := by
  intro j hj
  rw [Nat.zero_add]
  refine ⟨?_, h.frozen j⟩
  rw [h.cell]
  simp [hj, getB]
end
theorem perm_of_in {α : Type} [Inhabited α] {d d' : Array α} (h : PermIn 0 d.size d d') : d'.toList.Perm d.toList := by
  have h2 := h.2.2
  have e1 : d'.extract 0 d.size = d' := by
    rw [← h.1]
    exact Array.extract_size
  have e2 : d.extract 0 d.size = d := Array.extract_size
  rwa [e1, e2] at h2
/-- The rows' array: which row stands at i. -/
def rowF {m : Nat} (d : Array (Fin (m + 1))) (i : Nat) : Nat := (d[i]!).val
structure RowsOk (m : Nat) (d : Array (Fin (m + 1))) : Prop where
  size : d.size = m + 1
  perm : d.toList.Perm (List.finRange (m + 1))
theorem rowF_list {m : Nat} {d : Array (Fin (m + 1))} {i : Nat} (hi : i < d.size) : (d.toList.map (·.val))[i]? = some (rowF d i) := by
  rw [List.getElem?_map, Array.getElem?_toList, Array.getElem?_eq_getElem hi]
  simp [rowF, getB d i hi]
section
variable {m : Nat} {d : Array (Fin (m + 1))}
theorem RowsOk.lt (h : RowsOk m d) (i : Nat) : rowF d i < m + 1 := (d[i]!).isLt
theorem RowsOk.vals (h : RowsOk m d) : (d.toList.map (·.val)).Perm (List.range (m + 1)) := by
  have h1 := h.perm.map (·.val)
  have e : (List.finRange (m + 1)).map (·.val) = List.range (m + 1) := by
    apply List.ext_getElem
    · simp
    · intro i h1 h2
      simp
  rwa [e] at h1
theorem RowsOk.nodup (h : RowsOk m d) : (d.toList.map (·.val)).Nodup := h.vals.nodup_iff.2 List.nodup_range
theorem RowsOk.inj (h : RowsOk m d) {i j : Nat} (hi : i < m + 1) (hj : j < m + 1) (e : rowF d i = rowF d j) : i = j := by
  refine (List.getElem?_inj (l := d.toList.map (·.val)) (by simpa [h.size] using hi) h.nodup).1 ?_
  rw [rowF_list (by rw [h.size]; exact hi), rowF_list (by rw [h.size]; exact hj), e]
theorem RowsOk.sur (h : RowsOk m d) {p : Nat} (hp : p < m + 1) : ∃ i, i < m + 1 ∧ rowF d i = p := by
  have h1 : p ∈ d.toList.map (·.val) := h.vals.mem_iff.2 (by simpa using hp)
  obtain ⟨i, hi, he⟩ := List.getElem_of_mem h1
  have hl : i < m + 1 := by simpa [h.size] using hi
  refine ⟨i, hl, ?_⟩
  have h2 := rowF_list (d := d) (i := i) (by rw [h.size]; exact hl)
  rw [List.getElem?_eq_getElem hi, he] at h2
  injection h2 with h2
  exact h2.symm
/-- The cells of the rows' array. -/
theorem RowsOk.cell (h : RowsOk m d) {i : Nat} (hi : i < m + 1) : (d.map (encF m))[i]? = some (.int .i64 ((rowF d i : Nat) : Int)) := by
  have : i < d.size := by rw [h.size]; exact hi
  simp [encF, rowF, this, getB]
theorem RowsOk.of_perm {d' : Array (Fin (m + 1))} (h : RowsOk m d) (hp : PermIn 0 d.size d d') : RowsOk m d' :=
  ⟨hp.1.trans h.size, (perm_of_in hp).trans h.perm⟩
theorem RowsOk.suf (h : RowsOk m d) {l : List Nat} (hl : l.length = m + 1) {w : Nat} (hs : ∀ i j, i < j → j < m + 1 → ltW (aN l) w (rowF d i) (rowF d j)) : IsSuf l (d.toList.map (·.val)) := by
  refine ⟨by rw [hl]; exact h.vals, ?_⟩
  rw [List.pairwise_iff_getElem]
  intro i j hi hj hij
  have hi' : i < m + 1 := by simpa [h.size] using hi
  have hj' : j < m + 1 := by simpa [h.size] using hj
  have e1 := rowF_list (d := d) (i := i) (by rw [h.size]; exact hi')
  have e2 := rowF_list (d := d) (i := j) (by rw [h.size]; exact hj')
  rw [List.getElem?_eq_getElem hi] at e1
  rw [List.getElem?_eq_getElem hj] at e2
  injection e1 with e1
  injection e2 with e2
  rw [e1, e2]
  exact ⟨w, hs i j hij hj'⟩
end
/-- The rows at the start: 0, 1, .. -/
def rows0 (m : Nat) : Array (Fin (m + 1)) := (List.finRange (m + 1)).toArray
theorem rows0_ok (m : Nat) : RowsOk m (rows0 m) := ⟨by simp [rows0], by simp [rows0]⟩
/-- The numbers that a row of cells holds. -/
theorem ranks_of {n : Nat} {cs : Array Value} {f : Nat → Nat} {v : Nat → Nat} (hsz : n ≤ cs.size) (hf : ∀ j, j < n → f j < n) (hc : ∀ j, j < n → cs[f j]? = some (.int .i64 ((v j : Nat) : Int))) (hsur : ∀ p, p < n → ∃ i, i < n ∧ f i = p) :
    ∃ R : List Nat, R.length = n ∧ (∀ j, j < n → R[f j]? = some (v j)) ∧ (∀ (j : Nat) u, (R.map sv)[j]? = some u → cs[j]? = some u) ∧ ∀ r ∈ R, ∃ j, j < n ∧ r = v j := by
  let g : Nat → Nat := fun p => match cs[p]? with
    | some (.int _ z) => z.toNat
    | _ => 0
  have hg : ∀ j, j < n → g (f j) = v j := by
    intro j hj
    show (match cs[f j]? with | some (.int _ z) => z.toNat | _ => 0) = v j
    rw [hc j hj]
    simp
  refine ⟨(List.range n).map g, by simp, fun j hj => ?_, fun j u hu => ?_, fun r hr => ?_⟩
  · simp [hf j hj, hg j hj]
  · have hj : j < n := by
      have := (List.getElem?_eq_some_iff.1 hu).1
      simpa using this
    obtain ⟨i, hi, rfl⟩ := hsur j hj
    simp [hf i hi, hg i hi] at hu
    rw [hc i hi, ← hu]
    rfl
  · obtain ⟨p, hp, rfl⟩ := List.mem_map.1 hr
    obtain ⟨i, hi, rfl⟩ := hsur p (by simpa using hp)
    exact ⟨i, hi, hg i hi⟩
/-- The comparison of the rows. -/
def cfF (m w : Nat) (R : List Nat) (x y : Fin (m + 1)) : Int := ordV (aN R) w x.val y.val
theorem swo_cf {l R : List Nat} {w : Nat} (m : Nat) (h : RankOk (aN l) (aN R) w) : SWO (ltOf (cfF m w R)) where
  irrefl x := by
    unfold ltOf cfF
    rw [decide_eq_false_iff_not, ordV_lt h]
    exact fun h => h.irrefl
  trans x y z h1 h2 := by
    unfold ltOf cfF at *
    rw [decide_eq_true_iff, ordV_lt h] at *
    exact h1.trans h2
  ntrans x y z h1 h2 := by
    unfold ltOf cfF at *
    rw [decide_eq_false_iff_not, ordV_lt h] at *
    intro h3
    rcases ltW_tri (a := aN l) (w + w) x.val y.val with h4 | h4 | h4
    · exact h1 h4
    · exact h2 (ltW.eq_left h4.symm h3)
    · exact h2 (h4.trans h3)
theorem sorted_f {l R : List Nat} {w m : Nat} {d : Array (Fin (m + 1))} (h : RankOk (aN l) (aN R) w) (hz : d.size = m + 1) (hs : SortedIn (ltOf (cfF m w R)) 0 (m + 1) d) (i : Nat) (hi : i + 1 < m + 1) : ¬ ltW (aN l) (w + w) (rowF d (i + 1)) (rowF d i) := by
  have h1 := hs i (i + 1) (Nat.zero_le _) (by omega) hi
  unfold ltOf cfF at h1
  rw [decide_eq_false_iff_not, ordV_lt h] at h1
  exact h1
end Go.Proofs.YthkkcelfgcholaaGreat
