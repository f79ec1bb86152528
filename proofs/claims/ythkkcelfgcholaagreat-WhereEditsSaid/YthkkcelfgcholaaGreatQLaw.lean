/- What a law's arguments are, as the walks want them: integers, and slices that read as lists of bytes, of ints, of uint64s. No conditions. -/
import Derived.Test.YthkkcelfgcholaaGreatQBase
import Derived.ProofKit
import Derived.OpenShut
import Derived.ShutString
import Derived.ChangeOld
import Derived.Carry
namespace Go.Proofs.YthkkcelfgcholaaGreat
open Go.ChangeShapes Go.WideShapes Go.ChangeAt Go.RowKit

theorem laidOut : laidOutB Tryz.prog = true := by kernel_rfl
theorem own : ownKnob Tryz.prog.godebug = none := by kernel_rfl

theorem rd_ints {k : IntKind} {w : World} {x : Addr} {len cap : Nat} {zs : List Int} (hl : len ≤ cap) (hz : zs.length = cap) (hb : 0 < len → x.block < w.heap.size)
    (hc : ∀ i, i < zs.length → w.cell? (x.add i) = some (.int k (zs.getD i 0))) : Rd w w.heap.size 1 (some x) len ((zs.take len).map (Value.int k)) := by
  refine ⟨by simp; omega, fun hn => ?_⟩
  have hc0 := hc 0 (by omega)
  obtain ⟨b, off, spot⟩ := x
  have hspot : spot = none := by simpa [Addr.add] using World.cell?_spot hc0
  subst hspot
  refine ⟨b, off, rfl, hb hn, fun j u hu => ?_⟩
  simp only [List.getElem?_map, List.getElem?_take] at hu
  split at hu
  · rename_i hj
    have := hc j (by omega)
    rw [add_lit] at this
    rw [this]
    have hjz : j < zs.length := by omega
    rw [List.getElem?_eq_getElem hjz] at hu
    simp only [Option.map_some, Option.some.injEq] at hu
    rw [← hu, List.getD_eq_getElem?_getD, List.getElem?_eq_getElem hjz]
    rfl
  · simp at hu

/-- A slice argument of whatever integers. -/
theorem arg_ints {H : Type} {enc : TypeId × Value → H} {t e : TypeId} {k : IntKind} {w : World} {a : Option Addr} {len cap : Nat} {d : DataW H} {p : List MemPlace}
    (ht : Tryz.prog.underlying t = some (.slice e)) (he : Tryz.prog.underlying e = some (.int k)) (hC : Tryz.prog.cellsOf e = 1)
    (h : DataW.Trod enc Tryz.prog w 0 (fun _ => true) true t (.slice a len cap) d p) :
    ∃ zs : List Int, Rd w w.heap.size 1 a len (zs.map (Value.int k)) ∧ (∀ n ∈ zs, (Lit.int k n).wf = true) ∧ len ≤ cap ∧ cap ≤ maxLen := by
  obtain ⟨fuel, hf⟩ := h
  rcases open_ints ht he hC hf with ⟨hcs, _⟩ | ⟨x, l, c, zs, hcs, _, hl, hm, hz, hx, hcell, hwz⟩
  · simp [Value.cells] at hcs
    obtain ⟨rfl, rfl, rfl⟩ := hcs
    exact ⟨[], Rd.nil _ _ _ _, by simp, Nat.le_refl _, Nat.zero_le _⟩
  · simp [Value.cells] at hcs
    obtain ⟨rfl, rfl, rfl⟩ := hcs
    have hzc : zs.length = cap := by simpa using hz
    refine ⟨zs.take len, rd_ints hl hzc (fun hn => ?_) hcell, fun n hn => hwz n (List.mem_of_mem_take hn), hl, hm⟩
    have := World.block_lt_of_cell? w (x.add 0) (hcell 0 (by omega))
    simpa [Addr.add] using this
end Go.Proofs.YthkkcelfgcholaaGreat
