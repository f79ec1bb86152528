/- Strings: cuts, joins, a byte as a string; what an edit leaves below. No conditions. -/
import Derived.Test.YthkkcelfgcholaaGreatDoorPkEH
import Derived.Test.YthkkcelfgcholaaGreatDoorPkP
namespace Go.Proofs.YthkkcelfgcholaaGreatDoor
open Go.RowKit
set_option linter.unusedVariables false
set_option linter.unusedSimpArgs false
theorem ts_sub_eq (l : List UInt8) (i j : Nat) : (⟨l.toArray⟩ : ByteArray).extract i j = ⟨((l.drop i).take (j - i)).toArray⟩ := by
  apply ByteArray.ext
  rw [ByteArray.data_extract]
  apply Array.ext'
  rw [Array.toList_extract]
theorem ts_size (l : List UInt8) : (⟨l.toArray⟩ : ByteArray).size = l.length := by simp [ByteArray.size]
section
variable (l : List UInt8) (w : World)
theorem ts_sub_lohi (i j : Nat) (h1 : i ≤ j) (h2 : j ≤ l.length) : (Instr.slice 9 (.string ⟨l.toArray⟩) (some (.int .i64 (i : Int))) (some (.int .i64 (j : Int))) none).run Tryz.prog w = .ok (.string ⟨((l.drop i).take (j - i)).toArray⟩) w := by
  rw [run_slice_string (P := Tryz.prog) (w := w) 9 ⟨l.toArray⟩ .i64 .i64 i j Tryz.underlying9 (by omega) (by omega) (by rw [ts_size]; omega)]
  rw [Int.toNat_natCast, Int.toNat_natCast, ts_sub_eq]
theorem ts_sub_hi (j : Nat) (h2 : j ≤ l.length) : (Instr.slice 9 (.string ⟨l.toArray⟩) none (some (.int .i64 (j : Int))) none).run Tryz.prog w = .ok (.string ⟨(l.take j).toArray⟩) w := by
  rw [run_slice_string_h (P := Tryz.prog) (w := w) 9 ⟨l.toArray⟩ Tryz.underlying9 .i64 j (by omega) (by rw [ts_size]; omega)]
  rw [Int.toNat_natCast, ts_sub_eq]
  simp
theorem ts_sub_lo (i : Nat) (h2 : i ≤ l.length) : (Instr.slice 9 (.string ⟨l.toArray⟩) (some (.int .i64 (i : Int))) none none).run Tryz.prog w = .ok (.string ⟨(l.drop i).toArray⟩) w := by
  rw [run_slice_string_l (P := Tryz.prog) (w := w) 9 ⟨l.toArray⟩ Tryz.underlying9 .i64 i (by omega) (by rw [ts_size]; omega)]
  rw [Int.toNat_natCast, ts_sub_eq, ts_size]
  congr 3
  apply congrArg
  rw [List.take_of_length_le (by rw [List.length_drop]; omega)]
theorem ts_at_lohi (i j : Nat) (h1 : i ≤ j) (h2 : j ≤ l.length) : (Instr.sliceAt 9 (.string ⟨l.toArray⟩) (some (.int .i64 (i : Int))) (some (.int .i64 (j : Int))) none).run Tryz.prog w = .ok (.string ⟨((l.drop i).take (j - i)).toArray⟩) w := by
  rw [run_sliceAt_string (h := Tryz.underlying9), ts_sub_lohi l w i j h1 h2]
theorem ts_at_hi (j : Nat) (h2 : j ≤ l.length) : (Instr.sliceAt 9 (.string ⟨l.toArray⟩) none (some (.int .i64 (j : Int))) none).run Tryz.prog w = .ok (.string ⟨(l.take j).toArray⟩) w := by
  rw [run_sliceAt_string (h := Tryz.underlying9), ts_sub_hi l w j h2]
theorem ts_at_lo (i : Nat) (h2 : i ≤ l.length) : (Instr.sliceAt 9 (.string ⟨l.toArray⟩) (some (.int .i64 (i : Int))) none none).run Tryz.prog w = .ok (.string ⟨(l.drop i).toArray⟩) w := by
  rw [run_sliceAt_string (h := Tryz.underlying9), ts_sub_lo l w i h2]
end
theorem ts_cat (x y : List UInt8) : Value.string ((⟨x.toArray⟩ : ByteArray) ++ ⟨y.toArray⟩) = .string ⟨(x ++ y).toArray⟩ := congrArg Value.string (by
  apply ByteArray.ext
  rw [ByteArray.data_append]
  simp)
theorem ts_bytes (w : World) (l : List UInt8) (cap : Nat) (e : TypeId) (fr : Nat × Nat) (n g : Nat) (hn : l.length = n) (hg : g = w.heap.size) : Rd (w.drew.alloc (.cells (bytesRow ⟨l.toArray⟩ cap) e fr)) (w.heap.size + 1) 1 (some ⟨g, 0, none⟩) n (l.map bv) := by
  subst hg
  refine ⟨by simp [hn], fun _ => ⟨_, 0, rfl, by simp, fun j u hu => ?_⟩⟩
  have h1 := cell_of_row (w.drew.alloc (.cells (bytesRow ⟨l.toArray⟩ cap) e fr)) w.heap.size j (bytesRow ⟨l.toArray⟩ cap) e fr (heap_alloc_new w.drew _)
  rw [Nat.zero_add, h1]
  unfold bytesRow
  have hj : j < l.length := by
    have := (List.getElem?_eq_some_iff.1 hu).1
    simpa using this
  rw [Array.getElem?_append_left (by simpa using hj)]
  rw [List.getElem?_map, List.getElem?_eq_getElem hj] at hu
  simp only [Option.map_some, Option.some.injEq] at hu
  rw [← hu]
  simp [hj, bv]
theorem ts_conv (w : World) (t : List UInt8) (N : Nat) (hN : t.length = N) : ∃ A0 cap W1, (convert 9 23 (.string ⟨t.toArray⟩)).run Tryz.prog w = .ok (.slice A0 N cap) W1 ∧ Rd W1 W1.heap.size 1 A0 N (t.map bv) ∧ Below w.heap.size w W1 := by
  have kb := run_bytes_of_string (P := Tryz.prog) w 9 23 5 ⟨t.toArray⟩ Tryz.underlying9 Tryz.underlying23 Tryz.underlying5
  have hz : (⟨t.toArray⟩ : ByteArray).size = N := by rw [← hN]; rfl
  rw [hz] at kb
  exact ⟨_, _, _, kb, (ts_bytes w t _ _ _ N _ hN rfl).mono (by simp), (Below.refl _ _).drew.alloc (Nat.le_refl _) _⟩
theorem LF.below {B : Nat} {w w' : World} {own own' : Nat → Nat} (k : LF B w w' own own') (hB : B ≤ w.heap.size) : Below B w w' := k.keep.to_below hB fun b hb f => by have f' : B ≤ b := f; omega
end Go.Proofs.YthkkcelfgcholaaGreatDoor
