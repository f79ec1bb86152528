/- The document's Do, whole. Conditions: sizes of at most 2^39. -/
import Derived.Test.YtmebhlopmgfobaaModRefDo2
import Derived.Test.YtmebhlopmgfobaaModRefDo3
namespace Go.Proofs.Ytmebhlopmgfobaa
open Go.RowKit
set_option linter.unusedVariables false
set_option linter.unusedSimpArgs false
theorem has_not {n : Nat} {p k : Int} (h : hasB n p k = false) : p < 0 ∨ (0 ≤ p ∧ k < 0) ∨ (0 ≤ p ∧ 0 ≤ k ∧ (n : Int) < p) ∨ (0 ≤ p ∧ 0 ≤ k ∧ p ≤ (n : Int) ∧ (n : Int) - p < k) := by
  unfold hasB at h
  have := of_decide_eq_false h
  omega
theorem Ref_any (gx : Nat) (AD : Option Addr) (nd cd B : Nat) (kind p k most : Int) (T D : List UInt8) (T2 : List UInt8) (r : Told) (h2 : doM T most kind p k D = (T2, r)) (w : World) (hg : Bk w gx 40 #[.string ⟨T.toArray⟩, .int .i64 most])
    (hd : Rd w B 1 AD nd (D.map bv)) (hB : B ≤ w.heap.size) (hdne : 0 < nd → ∀ a, AD = some a → a.block ≠ gx) (hT : T.length ≤ 549755813888) (hD : nd ≤ 549755813888) (hpb : -9223372036854775808 ≤ p ∧ p ≤ 9223372036854775807) (hkb : -9223372036854775808 ≤ k ∧ k ≤ 9223372036854775807) (hmb : 0 ≤ most ∧ most ≤ 2147483648) :
    Calls Try.prog 13 #[.pointer (some ⟨gx, 0, none⟩), stepV kind p k AD nd cd] w fun e w' => RefTold gx most T2 r w w' e := by
  have hDl : D.length = nd := by simpa using hd.1
  obtain ⟨n, hn⟩ : ∃ n, T.length = n := ⟨_, rfl⟩
  have hT' : n ≤ 549755813888 := by omega
  unfold doM at h2
  rw [hn] at h2
  by_cases k1 : kind = 1
  · subst k1
    rw [if_pos rfl] at h2
    cases hh : hasB n p 0 with
    | false =>
      rw [if_pos hh] at h2
      cases h2
      rcases has_not hh with h | ⟨_, h⟩ | ⟨h, _, h'⟩ | ⟨_, _, h, h'⟩
      · exact Ref_ins_neg gx AD nd cd B p k most T D n hn w hg hd hB hdne hT' hD hpb hkb hmb h
      · exact absurd h (by omega)
      · exact Ref_ins_far gx AD nd cd B p k most T D n hn w hg hd hB hdne hT' hD hpb hkb hmb (by omega) (by omega)
      · omega
    | true =>
      rw [if_neg (by rw [hh]; decide)] at h2
      by_cases hf : most - (n : Int) < (D.length : Int)
      · rw [if_pos hf] at h2
        cases h2
        obtain ⟨a, b, rfl, hb, hab⟩ := has_nat hh
        exact Ref_ins_full gx AD nd cd B a k most T D n hn w hg hd hB hdne hT' hD hpb hkb hmb (by omega) (by omega) (by rw [← hDl]; exact hf)
      · rw [if_neg hf] at h2
        cases h2
        obtain ⟨a, b, rfl, hb, hab⟩ := has_nat hh
        exact Ref_ins_ok gx AD nd cd B a k most T D n hn w hg hd hB hdne hT' hD hpb hkb hmb (by omega) (by rw [← hDl]; omega)
  rw [if_neg k1] at h2
  by_cases k2 : kind = 2
  · subst k2
    rw [if_pos rfl] at h2
    cases hh : hasB n p k with
    | false =>
      rw [if_pos hh] at h2
      cases h2
      rcases has_not hh with h | ⟨h, h'⟩ | ⟨h, h', h''⟩ | ⟨h, h', h'', h3⟩
      · exact Ref_del_neg gx AD nd cd B p k most T D n hn w hg hd hB hdne hT' hD hpb hkb hmb h
      · exact Ref_del_negk gx AD nd cd B p k most T D n hn w hg hd hB hdne hT' hD hpb hkb hmb (by omega) h'
      · exact Ref_del_far gx AD nd cd B p k most T D n hn w hg hd hB hdne hT' hD hpb hkb hmb (by omega) (by omega) (by omega)
      · exact Ref_del_farr gx AD nd cd B p k most T D n hn w hg hd hB hdne hT' hD hpb hkb hmb (by omega) (by omega) (by omega) (by omega)
    | true =>
      rw [if_neg (by rw [hh]; decide)] at h2
      cases h2
      obtain ⟨a, b, rfl, rfl, hab⟩ := has_nat hh
      exact Ref_del_ok gx AD nd cd B a b most T D n hn w hg hd hB hdne hT' hD hpb hkb hmb hab
  rw [if_neg k2] at h2
  by_cases k5 : kind = 5
  · subst k5
    rw [if_pos rfl] at h2
    cases hh : hasB n p k with
    | false =>
      rw [if_pos hh] at h2
      cases h2
      rcases has_not hh with h | ⟨h, h'⟩ | ⟨h, h', h''⟩ | ⟨h, h', h'', h3⟩
      · exact Ref_take_neg gx AD nd cd B p k most T D n hn w hg hd hB hdne hT' hD hpb hkb hmb h
      · exact Ref_take_negk gx AD nd cd B p k most T D n hn w hg hd hB hdne hT' hD hpb hkb hmb (by omega) h'
      · exact Ref_take_far gx AD nd cd B p k most T D n hn w hg hd hB hdne hT' hD hpb hkb hmb (by omega) (by omega) (by omega)
      · exact Ref_take_farr gx AD nd cd B p k most T D n hn w hg hd hB hdne hT' hD hpb hkb hmb (by omega) (by omega) (by omega) (by omega)
    | true =>
      rw [if_neg (by rw [hh]; decide)] at h2
      cases h2
      obtain ⟨a, b, rfl, rfl, hab⟩ := has_nat hh
      exact Ref_take_ok gx AD nd cd B a b most T D n hn w hg hd hB hdne hT' hD hpb hkb hmb hab
  rw [if_neg k5] at h2
  by_cases k3 : kind = 3
  · subst k3
    rw [if_pos rfl, hDl] at h2
    cases hh : hasB n p nd with
    | false =>
      rw [if_pos hh] at h2
      cases h2
      rcases has_not hh with h | ⟨h, h'⟩ | ⟨h, h', h''⟩ | ⟨h, h', h'', h3⟩
      · exact Ref_set_neg gx AD nd cd B p k most T D n hn w hg hd hB hdne hT' hD hpb hkb hmb h
      · omega
      · exact Ref_set_far gx AD nd cd B p k most T D n hn w hg hd hB hdne hT' hD hpb hkb hmb (by omega) (by omega)
      · exact Ref_set_farr gx AD nd cd B p k most T D n hn w hg hd hB hdne hT' hD hpb hkb hmb (by omega) (by omega) (by omega)
    | true =>
      rw [if_neg (by rw [hh]; decide)] at h2
      cases h2
      obtain ⟨a, b, rfl, hb, hab⟩ := has_nat hh
      exact Ref_set_ok gx AD nd cd B a k most T D n hn w hg hd hB hdne hT' hD hpb hkb hmb (by omega)
  rw [if_neg k3] at h2
  by_cases k4 : kind = 4
  · subst k4
    rw [if_pos rfl] at h2
    cases h2
    exact Ref_len gx AD nd cd B p k most T D n hn w hg hd hB hdne hT' hD hpb hkb hmb
  rw [if_neg k4] at h2
  by_cases k6 : kind = 6
  · subst k6
    rw [if_pos rfl] at h2
    cases h2
    exact Ref_count gx AD nd cd B p k most T D n hn w hg hd hB hdne hT' hD hpb hkb hmb
  rw [if_neg k6] at h2
  by_cases k7 : kind = 7
  · subst k7
    rw [if_pos rfl] at h2
    cases h2
    exact Ref_locate gx AD nd cd B p k most T D n hn w hg hd hB hdne hT' hD hpb hkb hmb
  rw [if_neg k7] at h2
  by_cases k8 : kind = 8
  · subst k8
    rw [if_pos rfl] at h2
    cases h2
    exact Ref_reload gx AD nd cd B p k most T D n hn w hg hd hB hdne hT' hD hpb hkb hmb
  rw [if_neg k8] at h2
  cases h2
  exact Ref_other gx AD nd cd B kind p k most T D n hn w hg hd hB hdne hT' hD hpb hkb hmb (by omega)
end Go.Proofs.Ytmebhlopmgfobaa
