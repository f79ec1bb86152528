/- A law's argument that is a slice of structs of whole numbers: it reads as a list of integers. No conditions. -/
import Derived.Test.YthcoldomeedbnaaLaw
import Derived.Deep.Slices
import Derived.Deep.Fields
namespace Go.Proofs.Ythcoldomeedbnaa
open Go.ChangeShapes Go.WideShapes Go.ChangeAt Go.RowKit Go.Deep
theorem arg_recs {H : Type} {enc : TypeId × Value → H} {t e : TypeId} {fs : Array Field} {nf : Nat} {w : World} {a : Option Addr} {len cap : Nat} {d : DataW H} {p : List MemPlace}
    (ht : Try.prog.underlying t = some (.slice e)) (he : Try.prog.underlying e = some (.struct fs)) (hn : fs.size = nf) (hnf : 0 < nf) (hone : oneCellFields Try.prog fs = true)
    (hint : ∀ (j : Nat) (f : Field), fs[j]? = some f → Try.prog.underlying f.type = some (.int .i64)) (hC : Try.prog.cellsOf e = nf)
    (h : DataW.Trod enc Try.prog w 0 (fun _ => true) true t (.slice a len cap) d p) :
    ∃ zs : List Int, Rd w w.heap.size nf a len (zs.map iv) ∧ zs.length = len * nf ∧ (∀ n ∈ zs, -9223372036854775808 ≤ n ∧ n ≤ 9223372036854775807) ∧ len ≤ cap ∧ cap ≤ maxLen := by
  obtain ⟨fuel, hf⟩ := h
  rcases open_slice ht hf with ⟨hcs, _⟩ | ⟨x, l, c, m, n, D, Pl, hcs, _, hl, hm, hmm, _, hi⟩
  · simp [Value.cells] at hcs
    obtain ⟨rfl, rfl, rfl⟩ := hcs
    exact ⟨[], Rd.nil _ _ _ _, by simp, by simp, Nat.le_refl _, Nat.zero_le _⟩
  · simp [Value.cells] at hcs
    obtain ⟨rfl, rfl, rfl⟩ := hcs
    simp at hmm
    subst hmm
    have key : ∀ q, q < len * nf → ∃ z : Int, w.cell? (x.add q) = some (.int .i64 z) ∧ (Lit.int .i64 z).wf = true := by
      intro q hq
      have h1 : q / nf < len := Nat.div_lt_of_lt_mul (by rw [Nat.mul_comm]; exact hq)
      have h2 : q % nf < nf := Nat.mod_lt _ hnf
      have h3 : q / nf * nf + q % nf = q := Nat.div_add_mod' q nf
      obtain ⟨cs', hc, ht'⟩ := hi (q / nf) (by omega)
      rw [hC] at hc
      obtain ⟨ys, n', hn', hy, hlen, hyl, hfld⟩ := DataW.trod_struct he ht'
      obtain ⟨_, hcl, hat⟩ := World.cells?_some hc
      have hcell := hat (q % nf) h2
      rw [Go.Deep.add_add, h3] at hcell
      have hj : fs[q % nf]? = some (fs[q % nf]'(by omega)) := Array.getElem?_eq_getElem (by omega)
      obtain ⟨ho, hk⟩ := hone_of hone _ _ hj
      have h4 := hfld _ _ hj
      rw [ho, hk] at h4
      have hcj : cs'[q % nf]? = some (cs'[q % nf]'(by omega)) := List.getElem?_eq_getElem (by omega)
      have hone' : (cs'.drop (q % nf)).take 1 = [cs'[q % nf]'(by omega)] := by
        rw [List.drop_eq_getElem_cons (by omega)]
        rfl
      have hys : ys[q % nf]? = some (ys[q % nf]'(by omega)) := List.getElem?_eq_getElem (by omega)
      rw [hone', hys] at h4
      obtain ⟨z, hz, _, hw⟩ := DataW.trod_int (hint _ _ hj) h4
      refine ⟨z, ?_, hw⟩
      rw [hcell, hcj]
      simpa using hz
    have pick : ∃ g : Nat → Int, ∀ q, q < len * nf → w.cell? (x.add q) = some (.int .i64 (g q)) ∧ (Lit.int .i64 (g q)).wf = true := by
      refine ⟨fun q => if hq : q < len * nf then Classical.choose (key q hq) else 0, fun q hq => ?_⟩
      simp only [hq, dif_pos]
      exact Classical.choose_spec (key q hq)
    obtain ⟨g, hg⟩ := pick
    refine ⟨(List.range (len * nf)).map g, ⟨by simp, fun hpos => ?_⟩, by simp, ?_, hl, hm⟩
    · have hc0 := (hg 0 (Nat.mul_pos hpos hnf)).1
      obtain ⟨b, off, spot⟩ := x
      have hspot : spot = none := by simpa [Addr.add] using World.cell?_spot hc0
      subst hspot
      have hb := World.block_lt_of_cell? w _ hc0
      refine ⟨b, off, rfl, by simpa [Addr.add] using hb, fun j u hu => ?_⟩
      simp only [List.getElem?_map] at hu
      by_cases hj : j < len * nf
      · rw [List.getElem?_range hj] at hu
        simp only [Option.map_some, Option.some.injEq] at hu
        have := (hg j hj).1
        rw [add_lit] at this
        rw [this, ← hu]
        rfl
      · rw [List.getElem?_eq_none (by simp; omega)] at hu
        simp at hu
    · intro n hn
      obtain ⟨q, hq, rfl⟩ := List.mem_map.1 hn
      exact bounds_i64 (hg q (List.mem_range.1 hq)).2
end Go.Proofs.Ythcoldomeedbnaa
