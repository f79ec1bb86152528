/- The walk of WhereRates: at every rate of samples the places are the same. Conditions: the lists' lengths are lengths. -/
import Derived.Test.YtmgiljicjjcjlaaGreatPkM
namespace Go.Proofs.YtmgiljicjjcjlaaGreat
open Go.RowKit
set_option linter.unusedVariables false
set_option linter.unusedSimpArgs false
set_option maxRecDepth 100000 in
set_option maxHeartbeats 4000000 in
theorem WhereRates_walk (A : Option Addr) (n c : Nat) (l : List Int) (few : Bool) (ra rb : Int) (Ap : Option Addr) (np cp : Nat) (lp : List Int) (w : World) (hr : Rd w w.heap.size 1 A n (l.map iv)) (hn : n ≤ maxLen) (hrp : Rd w w.heap.size 1 Ap np (lp.map iv)) (hnp : np ≤ maxLen) :
    Calls Tryz.prog 4 #[.slice A n c, .bool few, .int .i64 ra, .int .i64 rb, .slice Ap np cp] w fun e w' => e = .returned (.bool true) ∧ Below w.heap.size w w' := by
  have Hr := Lib.hid hr
  have Hrp := Lib.hid hrp
  clear hr hrp
  go_enter Tryz.func4, Tryz.ntmps4
  go_wp2_with fail
  refine (Text_any A n c w.heap.size l 80 few w Hr.out (Nat.le_refl _) hn (by omega)).mono ?_
  rintro e w1 ⟨t, A1, c1, ht, _, rfl, hm1, hb1⟩
  obtain ⟨n1, hn1⟩ : ∃ n1, t.length = n1 := ⟨_, rfl⟩
  rw [hn1] at hm1 ht
  rw [hn1]
  have Hn1 := Lib.hid hn1
  have Hm1 := Lib.hid hm1
  have Hb1 := Lib.hid hb1
  clear hn1 hm1 hb1 Hr
  go_wp2_with fail
  refine (Text_any Ap np cp w.heap.size lp 3 few w1 (Hrp.out.below Hb1.out) Hb1.out.size hnp (by omega)).mono ?_
  rintro e w2 ⟨q, A2, c2, hq, _, rfl, hm2, hb2⟩
  obtain ⟨n2, hn2⟩ : ∃ n2, q.length = n2 := ⟨_, rfl⟩
  rw [hn2] at hm2 hq
  rw [hn2]
  have hb12 := Hb1.out.trans (hb2.mono Hb1.out.size)
  have hm12 := Hm1.out.below hb2
  have Hn2 := Lib.hid hn2
  have Hm1' := Lib.hid hm12
  have Hm2 := Lib.hid hm2
  have Hb2 := Lib.hid hb12
  clear hn2 hm12 hm2 hb2 hb12 Hm1 Hrp Hb1
  obtain ⟨k, hk1, hk2⟩ := umod_ex ra 64 (by omega)
  obtain ⟨j, hj1, hj2⟩ := umod_ex rb 64 (by omega)
  have e1 : IntKind.i64.wrap (k : Int) = (k : Int) := by rw [IntKind.wrap_i64]; omega
  have e2 : IntKind.i64.wrap (1 + (k : Int)) = ((1 + k : Nat) : Int) := by rw [IntKind.wrap_i64]; omega
  have e3 : IntKind.i64.wrap (j : Int) = (j : Int) := by rw [IntKind.wrap_i64]; omega
  have e4 : IntKind.i64.wrap (1 + (j : Int)) = ((1 + j : Nat) : Int) := by rw [IntKind.wrap_i64]; omega
  have hk3 : 1 + k ≤ 64 := by omega
  have hj3 : 1 + j ≤ 64 := by omega
  have hk4 : 1 ≤ 1 + k := by omega
  have hj4 : 1 ≤ 1 + j := by omega
  generalize 1 + k = x1 at e2 hk3 hk4
  generalize 1 + j = x2 at e4 hj3 hj4
  clear hk2 hj2
  have Hk3 := Lib.hid hk3
  have Hj3 := Lib.hid hj3
  have Hk4 := Lib.hid hk4
  have Hj4 := Lib.hid hj4
  clear hk3 hj3 hk4 hj4
  go_wp2_with fail
  have hbA : Below w2.heap.size w2 (w2.alloc (.cells #[.slice A1 n1 c1] 23)) := (Below.refl _ _).alloc (Nat.le_refl _) _
  have hrd := Rd.made w2 23 1 1 #[.slice A1 n1 c1] rfl
  have hm1A := Hm1'.out.below hbA
  refine (TpNew_any x1 _ 1 1 _ [⟨A1, n1, c1, t⟩] t (by simp [catS]) _ hrd (fun s hs => by simp at hs; subst hs; exact hm1A.rd) (Nat.le_refl _) (by omega) (by rw [Hn1.out]; omega) Hk4.out Hk3.out).mono ?_
  rintro e w3 ⟨gx, rfl, _, htx, hb3⟩
  have hb23 := hbA.trans (hb3.mono hbA.size)
  have hbw3 := Hb2.out.trans (hb23.mono Hb2.out.size)
  have hm13 := Hm1'.out.below hb23
  have hm23 := Hm2.out.below hb23
  have htx3 := TpAt.mono htx (B' := w.heap.size) (by have := Hb2.out.size; have := hbA.size; omega)
  have Hm1 := Lib.hid hm13
  have Hm23 := Lib.hid hm23
  have Hb3 := Lib.hid hbw3
  have Hx := Lib.hid htx3
  clear hrd hm1A hbA hb3 hb23 hbw3 hm13 hm23 htx htx3 Hb2 Hm1' Hm2
  go_wp2_with fail
  have hbA : Below w3.heap.size w3 (w3.alloc (.cells #[.slice A1 n1 c1] 23)) := (Below.refl _ _).alloc (Nat.le_refl _) _
  have hrd := Rd.made w3 23 1 1 #[.slice A1 n1 c1] rfl
  have hm1A := Hm1.out.below hbA
  refine (TpNew_any x2 _ 1 1 _ [⟨A1, n1, c1, t⟩] t (by simp [catS]) _ hrd (fun s hs => by simp at hs; subst hs; exact hm1A.rd) (Nat.le_refl _) (by omega) (by rw [Hn1.out]; omega) Hj4.out Hj3.out).mono ?_
  rintro e w4 ⟨gy, rfl, _, hty, hb4⟩
  have hb34 := hbA.trans (hb4.mono hbA.size)
  have hbw4 := Hb3.out.trans (hb34.mono Hb3.out.size)
  have hm24 := Hm23.out.below hb34
  have hty4 := TpAt.mono hty (B' := w.heap.size) (by have := Hb3.out.size; have := hbA.size; omega)
  have hx4 := Hx.out.vis (Vis.of_below hb34)
  have Hm2 := Lib.hid hm24
  have Hb4 := Lib.hid hbw4
  have HX := Lib.hid hx4
  have HY := Lib.hid hty4
  clear hrd hm1A hbA hb4 hb34 hbw4 hm24 hty hty4 hx4 Hx Hb3 Hm23 Hm1 e1 e2 e3 e4
  go_wp2_with fail
  refine (Told14_any w4).mono ?_
  rintro e w5 ⟨rfl, hb5⟩
  replace Hm2 := Lib.hid (Hm2.out.below hb5)
  replace HX := Lib.hid (HX.out.vis (Vis.of_below hb5))
  replace HY := Lib.hid (HY.out.vis (Vis.of_below hb5))
  replace Hb4 := Lib.hid (Hb4.out.trans (hb5.mono Hb4.out.size))
  clear hb5
  have hlen := placesT_le t q
  rw [Hn1.out] at hlen
  obtain ⟨ps, hps⟩ : ∃ x, placesT t q = x := ⟨_, rfl⟩
  rw [hps] at hlen
  obtain ⟨k2, hk2⟩ : ∃ x, ps.length = x := ⟨_, rfl⟩
  rw [hk2] at hlen
  have Hps := Lib.hid hps
  have Hk2 := Lib.hid hk2
  have Hlen := Lib.hid hlen
  clear hps hk2 hlen
  go_wp2_with fail
  have hbA : Below w5.heap.size w5 (w5.alloc (.cells #[.slice A2 n2 c2] 23)) := (Below.refl _ _).alloc (Nat.le_refl _) _
  have hrd := Rd.made w5 23 1 1 #[.slice A2 n2 c2] rfl
  have hm2A := Hm2.out.below hbA
  refine (All_any w.heap.size gx x1 t _ 1 1 _ [⟨A2, n2, c2, q⟩] q (by simp [catS]) _ (HX.out.vis (Vis.of_below hbA)) hrd (fun s hs => by simp at hs; subst hs; exact hm2A.rd) (Nat.le_refl _) (by omega) (by rw [Hn2.out]; omega)).mono ?_
  rintro e w6 ⟨A6, c6, rfl, hm6, hu6⟩
  rw [Hps.out, Hk2.out] at hm6 ⊢
  have hx6 : VB w.heap.size w5 w6 := (VisK.of_below hbA).trans hu6
  replace Hm2 := Lib.hid (hx6.1.made Hm2.out (by decide) (by decide))
  replace HX := Lib.hid (HX.out.vis hx6.1)
  replace HY := Lib.hid (HY.out.vis hx6.1)
  replace Hb4 := Lib.hid (Hb4.out.trans (VB.to_below hx6 Hb4.out.size))
  have Hm6 := Lib.hid hm6
  clear hx6 hu6 hbA hrd hm2A hm6
  go_wp2_with fail
  have hbA : Below w6.heap.size w6 (w6.alloc (.cells #[.slice A2 n2 c2] 23)) := (Below.refl _ _).alloc (Nat.le_refl _) _
  have hrd := Rd.made w6 23 1 1 #[.slice A2 n2 c2] rfl
  have hm2A := Hm2.out.below hbA
  refine (All_any w.heap.size gy x2 t _ 1 1 _ [⟨A2, n2, c2, q⟩] q (by simp [catS]) _ (HY.out.vis (Vis.of_below hbA)) hrd (fun s hs => by simp at hs; subst hs; exact hm2A.rd) (Nat.le_refl _) (by omega) (by rw [Hn2.out]; omega)).mono ?_
  rintro e w7 ⟨A7, c7, rfl, hm7, hu7⟩
  rw [Hps.out, Hk2.out] at hm7 ⊢
  have hx7 : VB w.heap.size w6 w7 := (VisK.of_below hbA).trans hu7
  replace Hm2 := Lib.hid (hx7.1.made Hm2.out (by decide) (by decide))
  replace Hm6 := Lib.hid (hx7.1.made Hm6.out (by decide) (by decide))
  replace HX := Lib.hid (HX.out.vis hx7.1)
  replace HY := Lib.hid (HY.out.vis hx7.1)
  replace Hb4 := Lib.hid (Hb4.out.trans (VB.to_below hx7 Hb4.out.size))
  have Hm7 := Lib.hid hm7
  clear hx7 hu7 hbA hrd hm2A hm7
  go_wp2_with fail
  refine (refSame_any A6 A7 k2 c6 k2 c7 _ _ ps ps _ Hm6.out.rd Hm7.out.rd (by have := Hlen.out; omega) (by have := Hlen.out; omega)).mono ?_
  rintro e w8 ⟨rfl, hb8⟩
  have hd : decide (ps = ps) = true := by simp
  rw [hd]
  replace Hm2 := Lib.hid (Hm2.out.below hb8)
  replace HX := Lib.hid (HX.out.vis (Vis.of_below hb8))
  replace HY := Lib.hid (HY.out.vis (Vis.of_below hb8))
  replace Hb4 := Lib.hid (Hb4.out.trans (hb8.mono Hb4.out.size))
  clear hb8 hd Hm6 Hm7
  go_wp2_with fail
  have hbA : Below w8.heap.size w8 (w8.alloc (.cells #[.slice A2 n2 c2] 23)) := (Below.refl _ _).alloc (Nat.le_refl _) _
  have hrd := Rd.made w8 23 1 1 #[.slice A2 n2 c2] rfl
  have hm2A := Hm2.out.below hbA
  refine (First_any w.heap.size gx x1 t _ 1 1 _ [⟨A2, n2, c2, q⟩] q (by simp [catS]) _ (HX.out.vis (Vis.of_below hbA)) hrd (fun s hs => by simp at hs; subst hs; exact hm2A.rd) (Nat.le_refl _) (by omega) (by rw [Hn2.out]; omega)).mono ?_
  rintro e w9 ⟨rfl, hu9⟩
  have hx9 : VB w.heap.size w8 w9 := (VisK.of_below hbA).trans hu9
  replace Hm2 := Lib.hid (hx9.1.made Hm2.out (by decide) (by decide))
  replace HY := Lib.hid (HY.out.vis hx9.1)
  replace Hb4 := Lib.hid (Hb4.out.trans (VB.to_below hx9 Hb4.out.size))
  rw [Hps.out]
  obtain ⟨fv, hfv⟩ : ∃ x, firstPl ps = x := ⟨_, rfl⟩
  rw [hfv]
  have Hfv := Lib.hid hfv
  clear hx9 hu9 hbA hrd hm2A HX hfv
  go_wp2_with fail
  have hbA : Below w9.heap.size w9 (w9.alloc (.cells #[.slice A2 n2 c2] 23)) := (Below.refl _ _).alloc (Nat.le_refl _) _
  have hrd := Rd.made w9 23 1 1 #[.slice A2 n2 c2] rfl
  have hm2A := Hm2.out.below hbA
  refine (First_any w.heap.size gy x2 t _ 1 1 _ [⟨A2, n2, c2, q⟩] q (by simp [catS]) _ (HY.out.vis (Vis.of_below hbA)) hrd (fun s hs => by simp at hs; subst hs; exact hm2A.rd) (Nat.le_refl _) (by omega) (by rw [Hn2.out]; omega)).mono ?_
  rintro e wa ⟨rfl, hua⟩
  have hxa : VB w.heap.size w9 wa := (VisK.of_below hbA).trans hua
  replace Hb4 := Lib.hid (Hb4.out.trans (VB.to_below hxa Hb4.out.size))
  rw [Hps.out, Hfv.out]
  clear hxa hua hbA hrd hm2A HY Hm2
  go_wp2_with fail
  go_ret
  exact ⟨by simp, Hb4.out⟩
end Go.Proofs.YtmgiljicjjcjlaaGreat
