/- A law's argument that is a slice of shapes. No conditions. -/
import Derived.Test.YthcoldomeedbnaaLawRec
import Derived.Test.YthcoldomeedbnaaCostSum
namespace Go.Proofs.Ythcoldomeedbnaa
open Go.ChangeShapes Go.WideShapes Go.ChangeAt Go.RowKit Go.Deep
theorem fours_of (n : Nat) : ∀ zs : List Int, zs.length = n * 4 → ∃ r : List Shp, zs.map iv = shpCells r := by
  induction n with
  | zero => intro zs h; have : zs = [] := List.eq_nil_of_length_eq_zero (by omega); subst this; exact ⟨[], rfl⟩
  | succ n ih =>
    intro zs h
    match zs, h with
    | a :: b :: c :: d :: zs, h =>
      obtain ⟨r, hr⟩ := ih zs (by simp only [List.length_cons] at h; omega)
      exact ⟨⟨a, b, c, d⟩ :: r, by simp only [List.map_cons, hr]; rfl⟩
    | [a, b, c], h => simp only [List.length_cons, List.length_nil] at h; omega
    | [a, b], h => simp only [List.length_cons, List.length_nil] at h; omega
    | [a], h => simp only [List.length_cons, List.length_nil] at h; omega
    | [], h => simp only [List.length_nil] at h; omega
theorem arg_shapes {H : Type} {enc : TypeId × Value → H} {w : World} {a : Option Addr} {len cap : Nat} {d : DataW H} {p : List MemPlace}
    (h : DataW.Trod enc Try.prog w 0 (fun _ => true) true 26 (.slice a len cap) d p) :
    ∃ r : List Shp, Rd w w.heap.size 4 a len (shpCells r) ∧ len ≤ cap ∧ cap ≤ maxLen := by
  obtain ⟨zs, h1, h2, _, h3, h4⟩ := arg_recs (nf := 4) Try.underlying26 Try.underlying28 rfl (by omega) (by kernel_rfl)
    (by intro j f hj; rcases j with _ | _ | _ | _ | j <;> simp at hj <;> (subst hj; exact Try.underlying3)) (by kernel_rfl) h
  obtain ⟨r, hr⟩ := fours_of len zs h2
  rw [hr] at h1
  exact ⟨r, h1, h3, h4⟩
end Go.Proofs.Ythcoldomeedbnaa
