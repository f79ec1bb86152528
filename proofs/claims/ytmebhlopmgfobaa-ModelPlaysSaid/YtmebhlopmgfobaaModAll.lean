/- The model's Do, whole: what every step does to the text and tells. Conditions: sizes of at most 2^39. -/
import Derived.Test.YtmebhlopmgfobaaModDo2
import Derived.Test.YtmebhlopmgfobaaModDo3
namespace Go.Proofs.Ytmebhlopmgfobaa
open Go.RowKit
set_option linter.unusedVariables false
set_option linter.unusedSimpArgs false
set_option maxRecDepth 100000 in
set_option maxHeartbeats 4000000 in
theorem Do_reload (g gp : Nat) (AD : Option Addr) (nd cd : Nat) (p k most : Int) (T : List UInt8) (w : World) (hg : Bk w g 49 #[.pointer (some ⟨gp, 0, none⟩), .int .i64 most]) (hp : PlS w gp T) :
    Calls Try.prog 10 #[.pointer (some ⟨g, 0, none⟩), stepV 8 p k AD nd cd] w fun e w' => DoTold gp T ⟨0, 0, [], []⟩ w w' e := by
  unfold stepV
  go_enter Try.func10, Try.ntmps10
  go_wp2
  have hb := ((Below.refl w.heap.size w).alloc (Nat.le_refl _) (.cells #[.int .i64 8, .int .i64 p, .int .i64 k, .slice AD nd cd] 32)).alloc (by simp) (.cells #[.int .i64 0, .int .i64 0, .slice none 0 0, .slice none 0 0] 29)
  have hbk : Bk ((w.alloc (.cells #[.int .i64 8, .int .i64 p, .int .i64 k, .slice AD nd cd] 32)).alloc (.cells #[.int .i64 0, .int .i64 0, .slice none 0 0, .slice none 0 0] 29)) (w.heap.size + 1) 29 #[.int .i64 0, .int .i64 0, .slice none 0 0, .slice none 0 0] := by simpa using Bk.new (w.alloc (.cells #[.int .i64 8, .int .i64 p, .int .i64 k, .slice AD nd cd] 32)) 29 #[.int .i64 0, .int .i64 0, .slice none 0 0, .slice none 0 0]
  exact do_ret (s := w.heap.size + 1) (A1 := none) (c1 := 0) (A2 := none) (c2 := 0) (.inl rfl) rfl hbk (Keep.of_below hb) (made_nil _ _ _) (made_nil _ _ _) (hp.keep hb)
set_option maxRecDepth 100000 in
set_option maxHeartbeats 4000000 in
theorem Do_len (g gp : Nat) (AD : Option Addr) (nd cd : Nat) (p k most : Int) (T : List UInt8) (w : World) (hg : Bk w g 49 #[.pointer (some ⟨gp, 0, none⟩), .int .i64 most]) (hp : PlS w gp T) (hT : T.length ≤ 549755813888) :
    Calls Try.prog 10 #[.pointer (some ⟨g, 0, none⟩), stepV 4 p k AD nd cd] w fun e w' => DoTold gp T ⟨0, (T.length : Int), [], []⟩ w w' e := by
  have Hp := Lib.hid hp
  obtain ⟨A, c, hb, hr, hnc, hne⟩ := hp
  obtain ⟨n, hn⟩ : ∃ n, T.length = n := ⟨_, rfl⟩
  rw [hn] at hb hT ⊢
  have hgl := hg.lt
  have hpl := hb.lt
  have c1 : w.cell? ⟨g, 0, none⟩ = some (.pointer (some ⟨gp, 0, none⟩)) := (hg.cell 0).trans rfl
  have c2 : w.cell? ⟨gp, 0, none⟩ = some (.slice A n c) := (hb.cell 0).trans rfl
  clear hb hr hne hn hg
  unfold stepV
  go_enter Try.func10, Try.ntmps10
  go_wp2
  have hb := ((Below.refl w.heap.size w).alloc (Nat.le_refl _) (.cells #[.int .i64 4, .int .i64 p, .int .i64 k, .slice AD nd cd] 32)).alloc (by simp) (.cells #[.int .i64 0, .int .i64 (n : Int), .slice none 0 0, .slice none 0 0] 29)
  have hbk : Bk ((w.alloc (.cells #[.int .i64 4, .int .i64 p, .int .i64 k, .slice AD nd cd] 32)).alloc (.cells #[.int .i64 0, .int .i64 (n : Int), .slice none 0 0, .slice none 0 0] 29)) (w.heap.size + 1) 29 #[.int .i64 0, .int .i64 (n : Int), .slice none 0 0, .slice none 0 0] := by simpa using Bk.new (w.alloc (.cells #[.int .i64 4, .int .i64 p, .int .i64 k, .slice AD nd cd] 32)) 29 #[.int .i64 0, .int .i64 (n : Int), .slice none 0 0, .slice none 0 0]
  exact do_ret (s := w.heap.size + 1) (A1 := none) (c1 := 0) (A2 := none) (c2 := 0) (.inl rfl) rfl hbk (Keep.of_below hb) (made_nil _ _ _) (made_nil _ _ _) (Hp.out.keep hb)
set_option maxRecDepth 100000 in
set_option maxHeartbeats 4000000 in
theorem Do_other (g gp : Nat) (AD : Option Addr) (nd cd : Nat) (kind p k most : Int) (T : List UInt8) (w : World) (hg : Bk w g 49 #[.pointer (some ⟨gp, 0, none⟩), .int .i64 most]) (hp : PlS w gp T) (hk : kind < 1 ∨ 8 < kind) :
    Calls Try.prog 10 #[.pointer (some ⟨g, 0, none⟩), stepV kind p k AD nd cd] w fun e w' => DoTold gp T ⟨1, 0, [], []⟩ w w' e := by
  unfold stepV
  have t1 : (kind == 1) = false := by rw [beq_eq_false_iff_ne]; omega
  have t2 : (kind == 2) = false := by rw [beq_eq_false_iff_ne]; omega
  have t3 : (kind == 3) = false := by rw [beq_eq_false_iff_ne]; omega
  have t4 : (kind == 4) = false := by rw [beq_eq_false_iff_ne]; omega
  have t5 : (kind == 5) = false := by rw [beq_eq_false_iff_ne]; omega
  have t6 : (kind == 6) = false := by rw [beq_eq_false_iff_ne]; omega
  have t7 : (kind == 7) = false := by rw [beq_eq_false_iff_ne]; omega
  have t8 : (kind == 8) = false := by rw [beq_eq_false_iff_ne]; omega
  clear hk
  go_enter Try.func10, Try.ntmps10
  go_wp2
  have hb := ((Below.refl w.heap.size w).alloc (Nat.le_refl _) (.cells #[.int .i64 kind, .int .i64 p, .int .i64 k, .slice AD nd cd] 32)).alloc (by simp) (.cells #[.int .i64 1, .int .i64 0, .slice none 0 0, .slice none 0 0] 29)
  have hbk : Bk ((w.alloc (.cells #[.int .i64 kind, .int .i64 p, .int .i64 k, .slice AD nd cd] 32)).alloc (.cells #[.int .i64 1, .int .i64 0, .slice none 0 0, .slice none 0 0] 29)) (w.heap.size + 1) 29 #[.int .i64 1, .int .i64 0, .slice none 0 0, .slice none 0 0] := by simpa using Bk.new (w.alloc (.cells #[.int .i64 kind, .int .i64 p, .int .i64 k, .slice AD nd cd] 32)) 29 #[.int .i64 1, .int .i64 0, .slice none 0 0, .slice none 0 0]
  exact do_ret (s := w.heap.size + 1) (A1 := none) (c1 := 0) (A2 := none) (c2 := 0) (.inl rfl) rfl hbk (Keep.of_below hb) (made_nil _ _ _) (made_nil _ _ _) (hp.keep hb)
set_option maxRecDepth 100000 in
set_option maxHeartbeats 4000000 in
theorem Do_nil (AD : Option Addr) (nd cd : Nat) (kind p k : Int) (w : World) :
    Calls Try.prog 10 #[.pointer none, stepV kind p k AD nd cd] w fun e w' => e = .returned (.agg #[.int .i64 6, .int .i64 0, .slice none 0 0, .slice none 0 0]) ∧ Below w.heap.size w w' := by
  unfold stepV
  go_enter Try.func10, Try.ntmps10
  go_wp2
  have hb := ((Below.refl w.heap.size w).alloc (Nat.le_refl _) (.cells #[.int .i64 kind, .int .i64 p, .int .i64 k, .slice AD nd cd] 32)).alloc (by simp) (.cells #[.int .i64 6, .int .i64 0, .slice none 0 0, .slice none 0 0] 29)
  have hbk : Bk ((w.alloc (.cells #[.int .i64 kind, .int .i64 p, .int .i64 k, .slice AD nd cd] 32)).alloc (.cells #[.int .i64 6, .int .i64 0, .slice none 0 0, .slice none 0 0] 29)) (w.heap.size + 1) 29 #[.int .i64 6, .int .i64 0, .slice none 0 0, .slice none 0 0] := by simpa using Bk.new (w.alloc (.cells #[.int .i64 kind, .int .i64 p, .int .i64 k, .slice AD nd cd] 32)) 29 #[.int .i64 6, .int .i64 0, .slice none 0 0, .slice none 0 0]
  exact bodyPost_ret (results_cell_row (p := 4) (ty := 29) rfl _ _ (w.heap.size + 1) 29 #[.int .i64 6, .int .i64 0, .slice none 0 0, .slice none 0 0] (0, 0) _ rfl hbk Try.underlying29 rfl (by kernel_rfl)) rfl ⟨rfl, hb⟩
/-- What a step does to a text, and tells. -/
def doM (T : List UInt8) (most kind p k : Int) (D : List UInt8) : List UInt8 × Told :=
  if kind = 1 then
    if hasB T.length p 0 = false then (T, ⟨2, 0, [], []⟩) else if most - (T.length : Int) < (D.length : Int) then (T, ⟨3, 0, [], []⟩) else (T.take p.toNat ++ (D ++ T.drop p.toNat), ⟨0, 0, [], []⟩)
  else if kind = 2 then
    if hasB T.length p k = false then (T, ⟨2, 0, [], []⟩) else (T.take p.toNat ++ T.drop (p.toNat + k.toNat), ⟨0, 0, [], []⟩)
  else if kind = 5 then
    if hasB T.length p k = false then (T, ⟨2, 0, [], []⟩) else (T, ⟨0, 0, (T.drop p.toNat).take k.toNat, []⟩)
  else if kind = 3 then
    if hasB T.length p (D.length : Int) = false then (T, ⟨2, 0, [], []⟩) else (T.take p.toNat ++ (D ++ T.drop (p.toNat + D.length)), ⟨0, 0, [], []⟩)
  else if kind = 4 then (T, ⟨0, (T.length : Int), [], []⟩)
  else if kind = 6 then (T, ⟨0, ((findB T D).length : Int), [], []⟩)
  else if kind = 7 then (T, ⟨0, ((findB T D).length : Int), [], findB T D⟩)
  else if kind = 8 then (T, ⟨0, 0, [], []⟩)
  else (T, ⟨1, 0, [], []⟩)
theorem has_nat {n : Nat} {p k : Int} (h : hasB n p k = true) : ∃ a b : Nat, p = (a : Int) ∧ k = (b : Int) ∧ a + b ≤ n := by
  unfold hasB at h
  have := of_decide_eq_true h
  exact ⟨p.toNat, k.toNat, by omega, by omega, by omega⟩
theorem Do_any (g gp : Nat) (AD : Option Addr) (nd cd B : Nat) (kind p k most : Int) (T D : List UInt8) (T2 : List UInt8) (r : Told) (h2 : doM T most kind p k D = (T2, r)) (w : World) (hg : Bk w g 49 #[.pointer (some ⟨gp, 0, none⟩), .int .i64 most]) (hp : PlS w gp T)
    (hd : Rd w B 1 AD nd (D.map bv)) (hB : B ≤ w.heap.size) (hdne : 0 < nd → ∀ a, AD = some a → a.block ≠ gp) (hgne : g ≠ gp) (hT : T.length ≤ 549755813888) (hD : nd ≤ 549755813888) (hpb : -9223372036854775808 ≤ p ∧ p ≤ 9223372036854775807) (hkb : -9223372036854775808 ≤ k ∧ k ≤ 9223372036854775807) (hmb : 0 ≤ most ∧ most ≤ 2147483648) :
    Calls Try.prog 10 #[.pointer (some ⟨g, 0, none⟩), stepV kind p k AD nd cd] w fun e w' => DoTold gp T2 r w w' e := by
  have hDl : D.length = nd := by simpa using hd.1
  unfold doM at h2
  by_cases k1 : kind = 1
  · subst k1
    rw [if_pos rfl] at h2
    cases hh : hasB T.length p 0 with
    | false =>
      rw [if_pos hh] at h2
      cases h2
      exact Do_ins_range g gp AD nd cd B p k most T D w hg hp hd hB hdne hgne hT hD hpb hkb hmb hh
    | true =>
      rw [if_neg (by rw [hh]; decide)] at h2
      by_cases hf : most - (T.length : Int) < (D.length : Int)
      · rw [if_pos hf] at h2
        cases h2
        exact Do_ins_full g gp AD nd cd B p k most T D w hg hp hd hB hdne hgne hT hD hpb hkb hmb hh (by rw [← hDl]; exact hf)
      · rw [if_neg hf] at h2
        cases h2
        obtain ⟨a, b, rfl, hb, hab⟩ := has_nat hh
        exact Do_ins_ok g gp AD nd cd B a k most T D w hg hp hd hB hdne hgne hT hD hpb hkb hmb hh (by rw [← hDl]; omega)
  rw [if_neg k1] at h2
  by_cases k2 : kind = 2
  · subst k2
    rw [if_pos rfl] at h2
    cases hh : hasB T.length p k with
    | false =>
      rw [if_pos hh] at h2
      cases h2
      exact Do_del_range g gp AD nd cd B p k most T D w hg hp hd hB hdne hgne hT hD hpb hkb hmb hh
    | true =>
      rw [if_neg (by rw [hh]; decide)] at h2
      cases h2
      obtain ⟨a, b, rfl, rfl, hab⟩ := has_nat hh
      exact Do_del_ok g gp AD nd cd B a b most T D w hg hp hd hB hdne hgne hT hD hpb hkb hmb hh
  rw [if_neg k2] at h2
  by_cases k5 : kind = 5
  · subst k5
    rw [if_pos rfl] at h2
    cases hh : hasB T.length p k with
    | false =>
      rw [if_pos hh] at h2
      cases h2
      exact Do_take_range g gp AD nd cd B p k most T D w hg hp hd hB hdne hgne hT hD hpb hkb hmb hh
    | true =>
      rw [if_neg (by rw [hh]; decide)] at h2
      cases h2
      obtain ⟨a, b, rfl, rfl, hab⟩ := has_nat hh
      exact Do_take_ok g gp AD nd cd B a b most T D w hg hp hd hB hdne hgne hT hD hpb hkb hmb hh
  rw [if_neg k5] at h2
  by_cases k3 : kind = 3
  · subst k3
    rw [if_pos rfl] at h2
    rw [hDl] at h2
    cases hh : hasB T.length p nd with
    | false =>
      rw [if_pos hh] at h2
      cases h2
      exact Do_set_range g gp AD nd cd B p k most T D w hg hp hd hB hdne hgne hT hD hpb hkb hmb hh
    | true =>
      rw [if_neg (by rw [hh]; decide)] at h2
      cases h2
      obtain ⟨a, b, rfl, hb, hab⟩ := has_nat hh
      exact Do_set_ok g gp AD nd cd B a k most T D w hg hp hd hB hdne hgne hT hD hpb hkb hmb hh
  rw [if_neg k3] at h2
  by_cases k4 : kind = 4
  · subst k4
    rw [if_pos rfl] at h2
    cases h2
    exact Do_len g gp AD nd cd p k most T w hg hp hT
  rw [if_neg k4] at h2
  by_cases k6 : kind = 6
  · subst k6
    rw [if_pos rfl] at h2
    cases h2
    exact Do_count g gp AD nd cd B p k most T D w hg hp hd hB hdne hgne hT hD hpb hkb hmb
  rw [if_neg k6] at h2
  by_cases k7 : kind = 7
  · subst k7
    rw [if_pos rfl] at h2
    cases h2
    exact Do_locate g gp AD nd cd B p k most T D w hg hp hd hB hdne hgne hT hD hpb hkb hmb
  rw [if_neg k7] at h2
  by_cases k8 : kind = 8
  · subst k8
    rw [if_pos rfl] at h2
    cases h2
    exact Do_reload g gp AD nd cd p k most T w hg hp
  rw [if_neg k8] at h2
  cases h2
  exact Do_other g gp AD nd cd kind p k most T w hg hp (by omega)
end Go.Proofs.Ytmebhlopmgfobaa
