/- The walk of WhereEach: places rise, there are as many as are counted, and the pattern stands at each. Conditions: the list's length is a length. -/
import Derived.Test.YtmgiljicjjcjlaaGreatPkM
import Derived.BigQuiet
import Derived.Lib.MinMax
namespace Go.Proofs.YtmgiljicjjcjlaaGreat
open Go.RowKit
set_option linter.unusedVariables false
set_option linter.unusedSimpArgs false
theorem strOf {w : World} {B n : Nat} {A : Option Addr} {l : List UInt8} (hr : Rd w B 1 A n (l.map bv)) : ∀ c, (convert 23 9 (.slice A n c)).run Tryz.prog w = .ok (.string ⟨l.toArray⟩) w :=
  fun c => run_str_rd (P := Tryz.prog) 23 9 5 Tryz.underlying23 Tryz.underlying5 Tryz.underlying9 hr
theorem size_u8 : ∀ w, (sizeOf 5).run Tryz.prog w = .ok 1 w := fun w => by
  obtain ⟨i0, hi0, hz0, hz1, hz2⟩ := info_parts u8_info
  simp [sizeOf, typeInfo, hi0, hz1]
theorem TpAt.txt {w : World} {B gl rate : Nat} {t : List UInt8} (h : TpAt w B gl t rate) : TxtAt w B gl t := by
  obtain ⟨rs, gk, gp, ga, vl, vo, vt, B0, tk, h1, h2, h3⟩ := h
  exact ⟨rs, h1, h2.lvw, h3⟩
theorem Rd.cellAt {w : World} {B n b o j : Nat} {xs : List Value} {u : Value} (h : Rd w B 1 (some ⟨b, o, none⟩) n xs) (hj : xs[j]? = some u) : w.cell? ⟨b, o + j, none⟩ = some u := by
  have hn : 0 < n := by have := (List.getElem?_eq_some_iff.1 hj).1; have := h.1; omega
  obtain ⟨b1, o1, e, _, hc⟩ := h.2 hn
  injection e with e
  injection e with e1 e2
  subst e1
  subst e2
  exact hc j u hj
theorem nat_at {L : List Nat} {j a : Nat} (h : L[j]? = some a) : (L.map sv)[j]? = some (.int .i64 (a : Int)) := by rw [List.getElem?_map, h]; rfl
set_option maxRecDepth 100000 in
set_option maxHeartbeats 4000000 in
theorem WhereEach_walk (A : Option Addr) (n c : Nat) (l : List Int) (at_ long : Int) (w : World) (hr : Rd w w.heap.size 1 A n (l.map iv)) (hn : n ≤ maxLen) :
    Calls Tryz.prog 5 #[.slice A n c, .int .i64 at_, .int .i64 long] w fun e w' => e = .returned (.bool true) ∧ Below w.heap.size w w' := by
  have Hr := Lib.hid hr
  clear hr
  go_enter Tryz.func5, Tryz.ntmps5
  go_wp2_with fail
  refine (Text_any A n c w.heap.size l 80 true w Hr.out (Nat.le_refl _) hn (by omega)).mono ?_
  rintro e w1 ⟨t, A1, c1, ht80, _, rfl, hm1, hb1⟩
  obtain ⟨n1, hn1⟩ : ∃ n1, t.length = n1 := ⟨_, rfl⟩
  rw [hn1] at hm1 ht80
  rw [hn1]
  have Hn1 := Lib.hid hn1
  have Hm1 := Lib.hid hm1
  have Hb1 := Lib.hid hb1
  clear hn1 hm1 hb1 Hr
  go_wp2_with fail
  have hbA : Below w1.heap.size w1 (w1.alloc (.cells #[.slice A1 n1 c1] 23)) := (Below.refl _ _).alloc (Nat.le_refl _) _
  have hrd := Rd.made w1 23 1 1 #[.slice A1 n1 c1] rfl
  have hm1A := Hm1.out.below hbA
  refine (TpNew_any 6 _ 1 1 _ [⟨A1, n1, c1, t⟩] t (by simp [catS]) _ hrd (fun s hs => by simp at hs; subst hs; exact hm1A.rd) (Nat.le_refl _) (by omega) (by rw [Hn1.out]; omega) (by omega) (by omega)).mono ?_
  rintro e w3 ⟨gl, rfl, hgl, htx, hb3⟩
  have hb23 := hbA.trans (hb3.mono hbA.size)
  have hbw3 := Hb1.out.trans (hb23.mono Hb1.out.size)
  have hm13 := Hm1.out.below hb23
  have htx3 := TpAt.mono htx (B' := w.heap.size) (by have := Hb1.out.size; have := hbA.size; omega)
  have Hm1' := Lib.hid hm13
  have Hb3 := Lib.hid hbw3
  have Ht := Lib.hid htx3
  clear hrd hm1A hb3 hbA hb23 hbw3 hm13 htx3 htx hgl Hb1 Hm1
  obtain ⟨k, hk1, hk2⟩ := umod_ex at_ ((n1 : Int) + 1) (by omega)
  obtain ⟨m0, hm01, hm02⟩ := umod_ex long 5 (by omega)
  obtain ⟨m, hm⟩ : ∃ m, min m0 (n1 - k) = m := ⟨_, rfl⟩
  obtain ⟨h, hh⟩ : ∃ h, k + m = h := ⟨_, rfl⟩
  have hkn : k ≤ n1 := by omega
  have hmn : k + m ≤ n1 := by omega
  have hm4 : m ≤ 4 := by omega
  have e1 : IntKind.i64.wrap ((n1 : Int) + 1) = (n1 : Int) + 1 := by rw [IntKind.wrap_i64]; omega
  have e2 : IntKind.u64.wrap ((n1 : Int) + 1) = (n1 : Int) + 1 := by rw [IntKind.wrap_u64]; omega
  have e3 : IntKind.i64.wrap (k : Int) = (k : Int) := by rw [IntKind.wrap_i64]; omega
  have e4 : IntKind.i64.wrap (m0 : Int) = (m0 : Int) := by rw [IntKind.wrap_i64]; omega
  have e5 : IntKind.i64.wrap ((n1 : Int) - (k : Int)) = (n1 : Int) - (k : Int) := by rw [IntKind.wrap_i64]; omega
  have e6 : min (m0 : Int) ((n1 : Int) - (k : Int)) = (m : Int) := by omega
  have e7 : IntKind.i64.wrap ((k : Int) + (m : Int)) = (h : Int) := by rw [IntKind.wrap_i64]; omega
  have hc1 := Hm1'.out.cap
  have kc := run_cut_lohi (P := Tryz.prog) 23 5 1 Tryz.underlying23 size_u8 A1 n1 c1 k h (by omega) (by omega)
  have hhk : h - k = m := by omega
  rw [hhk] at kc
  obtain ⟨q, hq⟩ : ∃ q, (t.drop k).take m = q := ⟨_, rfl⟩
  have hql : q.length = m := by rw [← hq, List.length_take, List.length_drop, Hn1.out]; omega
  have hP : ∀ w2 : World, VB w.heap.size w3 w2 → Rd w2 w2.heap.size 1 (cutA A1 c1 k 1) m (q.map bv) := fun w2 hv => by
    have h0 := (hv.1.made Hm1'.out (by decide) (by decide)).rd
    have h1 := (h0.cut (k := k) (cap := c1) (by omega) hc1).cut_hi (k := m) (by omega)
    rw [Nat.mul_one, Nat.mul_one, ← List.map_drop, ← List.map_take, hq] at h1
    exact h1
  have hcutA : ∀ (a : Nat) (w2 : World), VB w.heap.size w3 w2 → a + m ≤ n1 → (t.drop a).take m = q → Rd w2 w2.heap.size 1 (cutA A1 c1 a 1) m (q.map bv) := fun a w2 hv ha hqa => by
    have h0 := (hv.1.made Hm1'.out (by decide) (by decide)).rd
    have h1 := (h0.cut (k := a) (cap := c1) (by omega) hc1).cut_hi (k := m) (by omega)
    rw [Nat.mul_one, Nat.mul_one, ← List.map_drop, ← List.map_take, hqa] at h1
    exact h1
  have hkin : k ∈ placesT t q := by rw [← hq]; exact places_mem (by rw [Hn1.out]; omega)
  have hrise := places_rise t q
  have hat : ∀ i ∈ placesT t q, i + m ≤ n1 ∧ (t.drop i).take m = q := fun i hi => by
    have := places_at hi
    rw [hql, Hn1.out] at this
    exact this
  have hocc := places_len t q
  obtain ⟨ps, hps⟩ : ∃ x, placesT t q = x := ⟨_, rfl⟩
  rw [hps] at hkin hrise hat hocc
  obtain ⟨k2, hk20⟩ : ∃ x, ps.length = x := ⟨_, rfl⟩
  have hle := placesT_le t q
  rw [hps, hk20, Hn1.out] at hle
  rw [hk20] at hocc
  have hpos : 0 < k2 := by
    rw [← hk20]
    exact List.length_pos_of_mem hkin
  obtain ⟨a0, ha0⟩ : ∃ a0, ps[0]? = some a0 := ⟨ps[0]'(by omega), List.getElem?_eq_getElem (by omega)⟩
  have hfp : firstPl ps = (a0 : Int) := by
    cases ps with
    | nil => cases ha0
    | cons x xs =>
      simp at ha0
      subst ha0
      rfl
  have HP := Lib.hid hP
  have HA := Lib.hid hcutA
  have Hkin := Lib.hid hkin
  have Hrise := Lib.hid hrise
  have Hat := Lib.hid hat
  have Hocc := Lib.hid hocc
  have Hps := Lib.hid hps
  have Hk2 := Lib.hid hk20
  have Hpos := Lib.hid hpos
  have Ha0 := Lib.hid ha0
  have Hfp := Lib.hid hfp
  have Hql := Lib.hid hql
  have Hmn := Lib.hid hmn
  have Hm4 := Lib.hid hm4
  have Hc1 := Lib.hid hc1
  have Hle := Lib.hid hle
  clear hk2 hm02 hm hh hkn hmn hm4 hc1 hhk hq hql hP hcutA hkin hrise hat hocc hps hk20 hle hpos ha0 hfp
  go_wp2_with fail
  clear e1 e2 e3 e4 e5 e6 e7 kc hk1 hm01
  have hbA : Below w3.heap.size w3 (w3.alloc (.cells #[.slice (cutA A1 c1 k 1) m (c1 - k)] 23)) := (Below.refl _ _).alloc (Nat.le_refl _) _
  have hrd := Rd.made w3 23 1 1 #[.slice (cutA A1 c1 k 1) m (c1 - k)] rfl
  refine (All_any w.heap.size gl 6 t _ 1 1 _ [⟨cutA A1 c1 k 1, m, c1 - k, q⟩] q (by simp [catS]) _ (Ht.out.vis (Vis.of_below hbA)) hrd (fun s hs => by simp at hs; subst hs; exact HP.out _ (VisK.of_below hbA)) (Nat.le_refl _) (by omega) (by rw [Hql.out]; have := Hm4.out; omega)).mono ?_
  rintro e W ⟨A8, c8, rfl, hm8, hv4⟩
  rw [Hps.out, Hk2.out] at hm8 ⊢
  have hv34 := (VisK.of_below hbA).trans hv4
  obtain ⟨b8, o8, rfl, _, _⟩ := hm8.rd.2 Hpos.out
  have hm1W := hv34.1.made Hm1'.out (by decide) (by decide)
  have htW := Ht.out.vis hv34.1
  have hbW := Hb3.out.trans (VB.to_below hv34 Hb3.out.size)
  have Hm8 := Lib.hid hm8
  have Hv := Lib.hid hv34
  have Hm1 := Lib.hid hm1W
  have HbW := Lib.hid hbW
  clear hbA hrd hv4 hm8 hv34 hm1W hbW Hb3 Hm1'
  have HtW := Lib.hid htW
  clear htW Ht
  go_wp2_with fail
  go_loopw [14, 15] (fun s i wr => ∃ j : Nat, j ≤ k2 ∧ i = .int .i64 (j : Int) ∧ s = .bool (inT ps k j) ∧ VB w.heap.size W wr) (fun _ i _ => k2 - (intOf i).toNat)
  case atStart => exact ⟨0, by omega, rfl, by rw [inT_zero], VisK.refl _ _⟩
  case round =>
    obtain ⟨j, hj, rfl, rfl, hvr⟩ := hrel
    by_cases hlt : j < k2
    · obtain ⟨x, ha⟩ : ∃ x, ps[j]? = some x := ⟨ps[j]'(by rw [Hk2.out]; exact hlt), List.getElem?_eq_getElem (by rw [Hk2.out]; exact hlt)⟩
      obtain ⟨ham, haq⟩ := Hat.out x (List.mem_of_getElem? ha)
      have hsucc := inT_succ (k := k) ha
      have hm8r := hvr.1.made Hm8.out (by decide) (by decide)
      have hm1r := hvr.1.made Hm1.out (by decide) (by decide)
      obtain ⟨h, hh⟩ : ∃ h, x + m = h := ⟨_, rfl⟩
      have hle := Hle.out
      have hc1 := Hc1.out
      have kc := run_cut_lohi (P := Tryz.prog) 23 5 1 Tryz.underlying23 size_u8 A1 n1 c1 x h (by omega) (by omega)
      have hha : h - x = m := by omega
      rw [hha] at kc
      have f2 : IntKind.i64.wrap ((x : Int) + (m : Int)) = (h : Int) := by rw [IntKind.wrap_i64]; omega
      have f3 : ¬ n1 < h := by omega
      have f3' : decide (n1 < h) = false := decide_eq_false f3
      obtain ⟨bi, hbi⟩ : ∃ b, inT ps k j = b := ⟨_, rfl⟩
      obtain ⟨bo, hbo1⟩ : ∃ b, ((x : Int) == (k : Int)) = b := ⟨_, rfl⟩
      rw [hbi, hbo1] at hsucc
      rw [hbi]
      have Ham := Lib.hid (And.intro ham haq)
      have Kc := Lib.hid kc
      have F2 := Lib.hid f2
      have F3 := Lib.hid f3
      have F3' := Lib.hid f3'
      have Hsucc := Lib.hid hsucc
      have Ha := Lib.hid ha
      have Hh := Lib.hid hh
      have Hbo := Lib.hid hbo1
      have Hm8r := Lib.hid hm8r
      have Hm1r := Lib.hid hm1r
      have Hvr := Lib.hid hvr
      obtain ⟨W1, hW1⟩ : ∃ x, x = wr := ⟨_, rfl⟩
      subst hW1
      clear hsucc ha hh hha hbi hbo1 ham haq hle hc1 kc f2 f3 f3' hm8r hm1r hvr
      by_cases hj0 : j = 0
      · have F5 := Lib.hid (show ¬ 0 < j by omega)
        clear hj0
        go_wp2_with fail
        refine wp_region_any (by kernel_rfl) ?_
        refine wpAny_loose2 [63, 64, 65, 66, 67, 68, 69, 70, 71, 72, 73, 74, 75, 76, 77, 78, 79, 80, 81, 82, 83, 84, 85, 86, 87, 88, 89, 90, 91, 92, 93, 94, 95, 96, 97, 98, 99, 100, 101, 102, 103, 104, 105, 106, 107, 108, 109, 110, 111, 112] (VB w.heap.size) (Vs [is (.int .i64 (j : Int)), is (.bool false), is (.bool false), is undef, is undef, is undef, is undef, is undef, is undef, is undef, is undef, is undef, is undef, is (.bool false), is (.bool false), is (.slice (some ⟨b8, o8, none⟩) k2 c8), is (.int .i64 (j : Int)), is (.pointer (some ⟨b8, o8 + j, none⟩)), is (.int .i64 (x : Int)), is (.bool false), is (.bool false), is (.bool false), is (.slice (some ⟨b8, o8, none⟩) k2 c8), is (.int .i64 (j : Int)), is (.pointer (some ⟨b8, o8 + j, none⟩)), is (.int .i64 (x : Int)), is (.int .i64 (m : Int)), is (.int .i64 (h : Int)), is (.slice A1 n1 c1), is (.int .i64 (n1 : Int)), is (.bool false), is (.bool false), is (.bool false), is (.slice A1 n1 c1), is (.slice (some ⟨b8, o8, none⟩) k2 c8), is (.int .i64 (j : Int)), is (.pointer (some ⟨b8, o8 + j, none⟩)), is (.int .i64 (x : Int)), is (.slice (some ⟨b8, o8, none⟩) k2 c8), is (.int .i64 (j : Int)), is (.pointer (some ⟨b8, o8 + j, none⟩)), is (.int .i64 (x : Int)), is (.int .i64 (m : Int)), is (.int .i64 (h : Int)), is (.slice (cutA A1 c1 x 1) m (c1 - x)), is (.string ⟨q.toArray⟩), is (.slice (cutA A1 c1 k 1) m (c1 - k)), is (.string ⟨q.toArray⟩), is (.bool false), is (.bool false)]) _ _ rfl (by kernel_rfl) (VisK.refl _ _) (fun _ _ => VisK.trans) (stbs_all (by repeat' (first | exact stbs_is _ _ | exact stbs_any _ | (refine List.forall_mem_cons.2 ⟨?_, ?_⟩) | (intro p hp; cases hp)))) ?_ ?_
        · refine steps_of ?_
          refine steps_cons ?_ ?_
          · refine step_on rfl rfl ?_
            intro ev w5 hS hc hf hold hval a K ha hK
            have e15 : ev (.tmp 15) = .int .i64 (j : Int) := hold 15 (by kernel_rfl)
            replace hS : (VB w.heap.size) W1 w5 := ⟨⟨hS.1.os, hS.1.tape, hS.1.output, hS.1.size, hS.1.block⟩, ⟨hS.2.os, hS.2.tape, hS.2.output, hS.2.size, hS.2.block⟩⟩
            go_simp
            exact hK _ _ ((VisK.refl _ _)) rfl
          refine steps_cons ?_ ?_
          · refine step_on rfl rfl ?_
            intro ev w5 hS hc hf hold hval a K ha hK
            have e63 : ev (.tmp 63) = .int .i64 (j : Int) := hval 0 63 (by kernel_rfl) rfl
            replace hS : (VB w.heap.size) W1 w5 := ⟨⟨hS.1.os, hS.1.tape, hS.1.output, hS.1.size, hS.1.block⟩, ⟨hS.2.os, hS.2.tape, hS.2.output, hS.2.size, hS.2.block⟩⟩
            have f5 := F5.out
            go_simp
            exact hK _ _ ((VisK.refl _ _)) rfl
          refine steps_cons ?_ ?_
          · refine step_on rfl rfl ?_
            intro ev w5 hS hc hf hold hval a K ha hK
            have e64 : ev (.tmp 64) = .bool false := hval 1 64 (by kernel_rfl) rfl
            replace hS : (VB w.heap.size) W1 w5 := ⟨⟨hS.1.os, hS.1.tape, hS.1.output, hS.1.size, hS.1.block⟩, ⟨hS.2.os, hS.2.tape, hS.2.output, hS.2.size, hS.2.block⟩⟩
            go_simp
            exact hK _ _ ((VisK.refl _ _)) rfl
          refine steps_cons ?_ ?_
          · exact step_skip (d := 65) (b := false) rfl rfl rfl (by kernel_rfl) (fun _ _ _ h => h) (fun _ => (VisK.refl _ _)) (fun _ => rfl)
          refine steps_cons ?_ ?_
          · exact step_skip (d := 65) (b := false) rfl rfl rfl (by kernel_rfl) (fun _ _ _ h => h) (fun _ => (VisK.refl _ _)) (fun _ => rfl)
          refine steps_cons ?_ ?_
          · exact step_skip (d := 65) (b := false) rfl rfl rfl (by kernel_rfl) (fun _ _ _ h => h) (fun _ => (VisK.refl _ _)) (fun _ => rfl)
          refine steps_cons ?_ ?_
          · exact step_skip (d := 65) (b := false) rfl rfl rfl (by kernel_rfl) (fun _ _ _ h => h) (fun _ => (VisK.refl _ _)) (fun _ => rfl)
          refine steps_cons ?_ ?_
          · exact step_skip (d := 65) (b := false) rfl rfl rfl (by kernel_rfl) (fun _ _ _ h => h) (fun _ => (VisK.refl _ _)) (fun _ => rfl)
          refine steps_cons ?_ ?_
          · exact step_skip (d := 65) (b := false) rfl rfl rfl (by kernel_rfl) (fun _ _ _ h => h) (fun _ => (VisK.refl _ _)) (fun _ => rfl)
          refine steps_cons ?_ ?_
          · exact step_skip (d := 65) (b := false) rfl rfl rfl (by kernel_rfl) (fun _ _ _ h => h) (fun _ => (VisK.refl _ _)) (fun _ => rfl)
          refine steps_cons ?_ ?_
          · exact step_skip (d := 65) (b := false) rfl rfl rfl (by kernel_rfl) (fun _ _ _ h => h) (fun _ => (VisK.refl _ _)) (fun _ => rfl)
          refine steps_cons ?_ ?_
          · exact step_skip (d := 65) (b := false) rfl rfl rfl (by kernel_rfl) (fun _ _ _ h => h) (fun _ => (VisK.refl _ _)) (fun _ => rfl)
          refine steps_cons ?_ ?_
          · exact step_skip (d := 65) (b := false) rfl rfl rfl (by kernel_rfl) (fun _ _ _ h => h) (fun _ => (VisK.refl _ _)) (fun _ => rfl)
          refine steps_cons ?_ ?_
          · refine step_on rfl rfl ?_
            intro ev w5 hS hc hf hold hval a K ha hK
            have e65 : ev (.tmp 65) = .bool false := hval 2 65 (by kernel_rfl) rfl
            have e75 : ev (.tmp 75) = undef := hval 12 75 (by kernel_rfl) rfl
            replace hS : (VB w.heap.size) W1 w5 := ⟨⟨hS.1.os, hS.1.tape, hS.1.output, hS.1.size, hS.1.block⟩, ⟨hS.2.os, hS.2.tape, hS.2.output, hS.2.size, hS.2.block⟩⟩
            go_simp
            exact hK _ _ ((VisK.refl _ _)) rfl
          refine steps_cons ?_ ?_
          · refine step_on rfl rfl ?_
            intro ev w5 hS hc hf hold hval a K ha hK
            have e76 : ev (.tmp 76) = .bool false := hval 13 76 (by kernel_rfl) rfl
            replace hS : (VB w.heap.size) W1 w5 := ⟨⟨hS.1.os, hS.1.tape, hS.1.output, hS.1.size, hS.1.block⟩, ⟨hS.2.os, hS.2.tape, hS.2.output, hS.2.size, hS.2.block⟩⟩
            go_simp
            exact hK _ _ ((VisK.refl _ _)) rfl
          refine steps_cons ?_ ?_
          · refine step_guard (d := 77) (b := false) rfl rfl rfl (by kernel_rfl) (fun _ _ _ h => h) ?_
            intro ev w5 hS hc hf hold hval a K ha hK
            have e13 : ev (.tmp 13) = .slice (some ⟨b8, o8, none⟩) k2 c8 := hold 13 (by kernel_rfl)
            replace hS : (VB w.heap.size) W1 w5 := ⟨⟨hS.1.os, hS.1.tape, hS.1.output, hS.1.size, hS.1.block⟩, ⟨hS.2.os, hS.2.tape, hS.2.output, hS.2.size, hS.2.block⟩⟩
            go_simp
            exact hK _ _ ((VisK.refl _ _)) rfl
          refine steps_cons ?_ ?_
          · refine step_guard (d := 77) (b := false) rfl rfl rfl (by kernel_rfl) (fun _ _ _ h => h) ?_
            intro ev w5 hS hc hf hold hval a K ha hK
            have e15 : ev (.tmp 15) = .int .i64 (j : Int) := hold 15 (by kernel_rfl)
            replace hS : (VB w.heap.size) W1 w5 := ⟨⟨hS.1.os, hS.1.tape, hS.1.output, hS.1.size, hS.1.block⟩, ⟨hS.2.os, hS.2.tape, hS.2.output, hS.2.size, hS.2.block⟩⟩
            go_simp
            exact hK _ _ ((VisK.refl _ _)) rfl
          refine steps_cons ?_ ?_
          · refine step_guard (d := 77) (b := false) rfl rfl rfl (by kernel_rfl) (fun _ _ _ h => h) ?_
            intro ev w5 hS hc hf hold hval a K ha hK
            have e78 : ev (.tmp 78) = .slice (some ⟨b8, o8, none⟩) k2 c8 := hval 15 78 (by kernel_rfl) rfl
            have e79 : ev (.tmp 79) = .int .i64 (j : Int) := hval 16 79 (by kernel_rfl) rfl
            replace hS : (VB w.heap.size) W1 w5 := ⟨⟨hS.1.os, hS.1.tape, hS.1.output, hS.1.size, hS.1.block⟩, ⟨hS.2.os, hS.2.tape, hS.2.output, hS.2.size, hS.2.block⟩⟩
            have hps := hlt
            go_simp
            exact hK _ _ ((VisK.refl _ _)) rfl
          refine steps_cons ?_ ?_
          · refine step_guard (d := 77) (b := false) rfl rfl rfl (by kernel_rfl) (fun _ _ _ h => h) ?_
            intro ev w5 hS hc hf hold hval a K ha hK
            have e80 : ev (.tmp 80) = .pointer (some ⟨b8, o8 + j, none⟩) := hval 17 80 (by kernel_rfl) rfl
            replace hS : (VB w.heap.size) W1 w5 := ⟨⟨hS.1.os, hS.1.tape, hS.1.output, hS.1.size, hS.1.block⟩, ⟨hS.2.os, hS.2.tape, hS.2.output, hS.2.size, hS.2.block⟩⟩
            have hc := (hS.1.made Hm8r.out (by decide) (by decide)).rd.cellAt (nat_at Ha.out)
            go_simp
            exact hK _ _ ((VisK.refl _ _)) rfl
          refine steps_cons ?_ ?_
          · refine step_guard (d := 77) (b := false) rfl rfl rfl (by kernel_rfl) (fun _ _ _ h => h) ?_
            intro ev w5 hS hc hf hold hval a K ha hK
            have e81 : ev (.tmp 81) = .int .i64 (x : Int) := hval 18 81 (by kernel_rfl) rfl
            replace hS : (VB w.heap.size) W1 w5 := ⟨⟨hS.1.os, hS.1.tape, hS.1.output, hS.1.size, hS.1.block⟩, ⟨hS.2.os, hS.2.tape, hS.2.output, hS.2.size, hS.2.block⟩⟩
            go_simp
            exact hK _ _ ((VisK.refl _ _)) rfl
          refine steps_cons ?_ ?_
          · refine step_on rfl rfl ?_
            intro ev w5 hS hc hf hold hval a K ha hK
            have e77 : ev (.tmp 77) = .bool false := hval 14 77 (by kernel_rfl) rfl
            have e82 : ev (.tmp 82) = .bool false := hval 19 82 (by kernel_rfl) rfl
            replace hS : (VB w.heap.size) W1 w5 := ⟨⟨hS.1.os, hS.1.tape, hS.1.output, hS.1.size, hS.1.block⟩, ⟨hS.2.os, hS.2.tape, hS.2.output, hS.2.size, hS.2.block⟩⟩
            go_simp
            exact hK _ _ ((VisK.refl _ _)) rfl
          refine steps_cons ?_ ?_
          · refine step_on rfl rfl ?_
            intro ev w5 hS hc hf hold hval a K ha hK
            have e83 : ev (.tmp 83) = .bool false := hval 20 83 (by kernel_rfl) rfl
            replace hS : (VB w.heap.size) W1 w5 := ⟨⟨hS.1.os, hS.1.tape, hS.1.output, hS.1.size, hS.1.block⟩, ⟨hS.2.os, hS.2.tape, hS.2.output, hS.2.size, hS.2.block⟩⟩
            go_simp
            exact hK _ _ ((VisK.refl _ _)) rfl
          refine steps_cons ?_ ?_
          · refine step_guard (d := 84) (b := false) rfl rfl rfl (by kernel_rfl) (fun _ _ _ h => h) ?_
            intro ev w5 hS hc hf hold hval a K ha hK
            have e13 : ev (.tmp 13) = .slice (some ⟨b8, o8, none⟩) k2 c8 := hold 13 (by kernel_rfl)
            replace hS : (VB w.heap.size) W1 w5 := ⟨⟨hS.1.os, hS.1.tape, hS.1.output, hS.1.size, hS.1.block⟩, ⟨hS.2.os, hS.2.tape, hS.2.output, hS.2.size, hS.2.block⟩⟩
            go_simp
            exact hK _ _ ((VisK.refl _ _)) rfl
          refine steps_cons ?_ ?_
          · refine step_guard (d := 84) (b := false) rfl rfl rfl (by kernel_rfl) (fun _ _ _ h => h) ?_
            intro ev w5 hS hc hf hold hval a K ha hK
            have e15 : ev (.tmp 15) = .int .i64 (j : Int) := hold 15 (by kernel_rfl)
            replace hS : (VB w.heap.size) W1 w5 := ⟨⟨hS.1.os, hS.1.tape, hS.1.output, hS.1.size, hS.1.block⟩, ⟨hS.2.os, hS.2.tape, hS.2.output, hS.2.size, hS.2.block⟩⟩
            go_simp
            exact hK _ _ ((VisK.refl _ _)) rfl
          refine steps_cons ?_ ?_
          · refine step_guard (d := 84) (b := false) rfl rfl rfl (by kernel_rfl) (fun _ _ _ h => h) ?_
            intro ev w5 hS hc hf hold hval a K ha hK
            have e85 : ev (.tmp 85) = .slice (some ⟨b8, o8, none⟩) k2 c8 := hval 22 85 (by kernel_rfl) rfl
            have e86 : ev (.tmp 86) = .int .i64 (j : Int) := hval 23 86 (by kernel_rfl) rfl
            replace hS : (VB w.heap.size) W1 w5 := ⟨⟨hS.1.os, hS.1.tape, hS.1.output, hS.1.size, hS.1.block⟩, ⟨hS.2.os, hS.2.tape, hS.2.output, hS.2.size, hS.2.block⟩⟩
            have hps := hlt
            go_simp
            exact hK _ _ ((VisK.refl _ _)) rfl
          refine steps_cons ?_ ?_
          · refine step_guard (d := 84) (b := false) rfl rfl rfl (by kernel_rfl) (fun _ _ _ h => h) ?_
            intro ev w5 hS hc hf hold hval a K ha hK
            have e87 : ev (.tmp 87) = .pointer (some ⟨b8, o8 + j, none⟩) := hval 24 87 (by kernel_rfl) rfl
            replace hS : (VB w.heap.size) W1 w5 := ⟨⟨hS.1.os, hS.1.tape, hS.1.output, hS.1.size, hS.1.block⟩, ⟨hS.2.os, hS.2.tape, hS.2.output, hS.2.size, hS.2.block⟩⟩
            have hc := (hS.1.made Hm8r.out (by decide) (by decide)).rd.cellAt (nat_at Ha.out)
            go_simp
            exact hK _ _ ((VisK.refl _ _)) rfl
          refine steps_cons ?_ ?_
          · refine step_guard (d := 84) (b := false) rfl rfl rfl (by kernel_rfl) (fun _ _ _ h => h) ?_
            intro ev w5 hS hc hf hold hval a K ha hK
            have e11 : ev (.tmp 11) = .int .i64 (m : Int) := hold 11 (by kernel_rfl)
            replace hS : (VB w.heap.size) W1 w5 := ⟨⟨hS.1.os, hS.1.tape, hS.1.output, hS.1.size, hS.1.block⟩, ⟨hS.2.os, hS.2.tape, hS.2.output, hS.2.size, hS.2.block⟩⟩
            go_simp
            exact hK _ _ ((VisK.refl _ _)) rfl
          refine steps_cons ?_ ?_
          · refine step_guard (d := 84) (b := false) rfl rfl rfl (by kernel_rfl) (fun _ _ _ h => h) ?_
            intro ev w5 hS hc hf hold hval a K ha hK
            have e88 : ev (.tmp 88) = .int .i64 (x : Int) := hval 25 88 (by kernel_rfl) rfl
            have e89 : ev (.tmp 89) = .int .i64 (m : Int) := hval 26 89 (by kernel_rfl) rfl
            replace hS : (VB w.heap.size) W1 w5 := ⟨⟨hS.1.os, hS.1.tape, hS.1.output, hS.1.size, hS.1.block⟩, ⟨hS.2.os, hS.2.tape, hS.2.output, hS.2.size, hS.2.block⟩⟩
            have f2 := F2.out
            go_simp
            exact hK _ _ ((VisK.refl _ _)) rfl
          refine steps_cons ?_ ?_
          · refine step_guard (d := 84) (b := false) rfl rfl rfl (by kernel_rfl) (fun _ _ _ h => h) ?_
            intro ev w5 hS hc hf hold hval a K ha hK
            have e7 : ev (.tmp 7) = .slice A1 n1 c1 := hold 7 (by kernel_rfl)
            replace hS : (VB w.heap.size) W1 w5 := ⟨⟨hS.1.os, hS.1.tape, hS.1.output, hS.1.size, hS.1.block⟩, ⟨hS.2.os, hS.2.tape, hS.2.output, hS.2.size, hS.2.block⟩⟩
            go_simp
            exact hK _ _ ((VisK.refl _ _)) rfl
          refine steps_cons ?_ ?_
          · refine step_guard (d := 84) (b := false) rfl rfl rfl (by kernel_rfl) (fun _ _ _ h => h) ?_
            intro ev w5 hS hc hf hold hval a K ha hK
            have e91 : ev (.tmp 91) = .slice A1 n1 c1 := hval 28 91 (by kernel_rfl) rfl
            replace hS : (VB w.heap.size) W1 w5 := ⟨⟨hS.1.os, hS.1.tape, hS.1.output, hS.1.size, hS.1.block⟩, ⟨hS.2.os, hS.2.tape, hS.2.output, hS.2.size, hS.2.block⟩⟩
            go_simp
            exact hK _ _ ((VisK.refl _ _)) rfl
          refine steps_cons ?_ ?_
          · refine step_guard (d := 84) (b := false) rfl rfl rfl (by kernel_rfl) (fun _ _ _ h => h) ?_
            intro ev w5 hS hc hf hold hval a K ha hK
            have e90 : ev (.tmp 90) = .int .i64 (h : Int) := hval 27 90 (by kernel_rfl) rfl
            have e92 : ev (.tmp 92) = .int .i64 (n1 : Int) := hval 29 92 (by kernel_rfl) rfl
            replace hS : (VB w.heap.size) W1 w5 := ⟨⟨hS.1.os, hS.1.tape, hS.1.output, hS.1.size, hS.1.block⟩, ⟨hS.2.os, hS.2.tape, hS.2.output, hS.2.size, hS.2.block⟩⟩
            have f3 := F3.out
            have f4 := F3'.out
            go_simp
            exact hK _ _ ((VisK.refl _ _)) rfl
          refine steps_cons ?_ ?_
          · refine step_on rfl rfl ?_
            intro ev w5 hS hc hf hold hval a K ha hK
            have e84 : ev (.tmp 84) = .bool false := hval 21 84 (by kernel_rfl) rfl
            have e93 : ev (.tmp 93) = .bool false := hval 30 93 (by kernel_rfl) rfl
            replace hS : (VB w.heap.size) W1 w5 := ⟨⟨hS.1.os, hS.1.tape, hS.1.output, hS.1.size, hS.1.block⟩, ⟨hS.2.os, hS.2.tape, hS.2.output, hS.2.size, hS.2.block⟩⟩
            go_simp
            exact hK _ _ ((VisK.refl _ _)) rfl
          refine steps_cons ?_ ?_
          · refine step_on rfl rfl ?_
            intro ev w5 hS hc hf hold hval a K ha hK
            have e94 : ev (.tmp 94) = .bool false := hval 31 94 (by kernel_rfl) rfl
            replace hS : (VB w.heap.size) W1 w5 := ⟨⟨hS.1.os, hS.1.tape, hS.1.output, hS.1.size, hS.1.block⟩, ⟨hS.2.os, hS.2.tape, hS.2.output, hS.2.size, hS.2.block⟩⟩
            go_simp
            exact hK _ _ ((VisK.refl _ _)) rfl
          refine steps_cons ?_ ?_
          · refine step_guard (d := 95) (b := false) rfl rfl rfl (by kernel_rfl) (fun _ _ _ h => h) ?_
            intro ev w5 hS hc hf hold hval a K ha hK
            have e7 : ev (.tmp 7) = .slice A1 n1 c1 := hold 7 (by kernel_rfl)
            replace hS : (VB w.heap.size) W1 w5 := ⟨⟨hS.1.os, hS.1.tape, hS.1.output, hS.1.size, hS.1.block⟩, ⟨hS.2.os, hS.2.tape, hS.2.output, hS.2.size, hS.2.block⟩⟩
            go_simp
            exact hK _ _ ((VisK.refl _ _)) rfl
          refine steps_cons ?_ ?_
          · refine step_guard (d := 95) (b := false) rfl rfl rfl (by kernel_rfl) (fun _ _ _ h => h) ?_
            intro ev w5 hS hc hf hold hval a K ha hK
            have e13 : ev (.tmp 13) = .slice (some ⟨b8, o8, none⟩) k2 c8 := hold 13 (by kernel_rfl)
            replace hS : (VB w.heap.size) W1 w5 := ⟨⟨hS.1.os, hS.1.tape, hS.1.output, hS.1.size, hS.1.block⟩, ⟨hS.2.os, hS.2.tape, hS.2.output, hS.2.size, hS.2.block⟩⟩
            go_simp
            exact hK _ _ ((VisK.refl _ _)) rfl
          refine steps_cons ?_ ?_
          · refine step_guard (d := 95) (b := false) rfl rfl rfl (by kernel_rfl) (fun _ _ _ h => h) ?_
            intro ev w5 hS hc hf hold hval a K ha hK
            have e15 : ev (.tmp 15) = .int .i64 (j : Int) := hold 15 (by kernel_rfl)
            replace hS : (VB w.heap.size) W1 w5 := ⟨⟨hS.1.os, hS.1.tape, hS.1.output, hS.1.size, hS.1.block⟩, ⟨hS.2.os, hS.2.tape, hS.2.output, hS.2.size, hS.2.block⟩⟩
            go_simp
            exact hK _ _ ((VisK.refl _ _)) rfl
          refine steps_cons ?_ ?_
          · refine step_guard (d := 95) (b := false) rfl rfl rfl (by kernel_rfl) (fun _ _ _ h => h) ?_
            intro ev w5 hS hc hf hold hval a K ha hK
            have e97 : ev (.tmp 97) = .slice (some ⟨b8, o8, none⟩) k2 c8 := hval 34 97 (by kernel_rfl) rfl
            have e98 : ev (.tmp 98) = .int .i64 (j : Int) := hval 35 98 (by kernel_rfl) rfl
            replace hS : (VB w.heap.size) W1 w5 := ⟨⟨hS.1.os, hS.1.tape, hS.1.output, hS.1.size, hS.1.block⟩, ⟨hS.2.os, hS.2.tape, hS.2.output, hS.2.size, hS.2.block⟩⟩
            have hps := hlt
            go_simp
            exact hK _ _ ((VisK.refl _ _)) rfl
          refine steps_cons ?_ ?_
          · refine step_guard (d := 95) (b := false) rfl rfl rfl (by kernel_rfl) (fun _ _ _ h => h) ?_
            intro ev w5 hS hc hf hold hval a K ha hK
            have e99 : ev (.tmp 99) = .pointer (some ⟨b8, o8 + j, none⟩) := hval 36 99 (by kernel_rfl) rfl
            replace hS : (VB w.heap.size) W1 w5 := ⟨⟨hS.1.os, hS.1.tape, hS.1.output, hS.1.size, hS.1.block⟩, ⟨hS.2.os, hS.2.tape, hS.2.output, hS.2.size, hS.2.block⟩⟩
            have hc := (hS.1.made Hm8r.out (by decide) (by decide)).rd.cellAt (nat_at Ha.out)
            go_simp
            exact hK _ _ ((VisK.refl _ _)) rfl
          refine steps_cons ?_ ?_
          · refine step_guard (d := 95) (b := false) rfl rfl rfl (by kernel_rfl) (fun _ _ _ h => h) ?_
            intro ev w5 hS hc hf hold hval a K ha hK
            have e13 : ev (.tmp 13) = .slice (some ⟨b8, o8, none⟩) k2 c8 := hold 13 (by kernel_rfl)
            replace hS : (VB w.heap.size) W1 w5 := ⟨⟨hS.1.os, hS.1.tape, hS.1.output, hS.1.size, hS.1.block⟩, ⟨hS.2.os, hS.2.tape, hS.2.output, hS.2.size, hS.2.block⟩⟩
            go_simp
            exact hK _ _ ((VisK.refl _ _)) rfl
          refine steps_cons ?_ ?_
          · refine step_guard (d := 95) (b := false) rfl rfl rfl (by kernel_rfl) (fun _ _ _ h => h) ?_
            intro ev w5 hS hc hf hold hval a K ha hK
            have e15 : ev (.tmp 15) = .int .i64 (j : Int) := hold 15 (by kernel_rfl)
            replace hS : (VB w.heap.size) W1 w5 := ⟨⟨hS.1.os, hS.1.tape, hS.1.output, hS.1.size, hS.1.block⟩, ⟨hS.2.os, hS.2.tape, hS.2.output, hS.2.size, hS.2.block⟩⟩
            go_simp
            exact hK _ _ ((VisK.refl _ _)) rfl
          refine steps_cons ?_ ?_
          · refine step_guard (d := 95) (b := false) rfl rfl rfl (by kernel_rfl) (fun _ _ _ h => h) ?_
            intro ev w5 hS hc hf hold hval a K ha hK
            have e101 : ev (.tmp 101) = .slice (some ⟨b8, o8, none⟩) k2 c8 := hval 38 101 (by kernel_rfl) rfl
            have e102 : ev (.tmp 102) = .int .i64 (j : Int) := hval 39 102 (by kernel_rfl) rfl
            replace hS : (VB w.heap.size) W1 w5 := ⟨⟨hS.1.os, hS.1.tape, hS.1.output, hS.1.size, hS.1.block⟩, ⟨hS.2.os, hS.2.tape, hS.2.output, hS.2.size, hS.2.block⟩⟩
            have hps := hlt
            go_simp
            exact hK _ _ ((VisK.refl _ _)) rfl
          refine steps_cons ?_ ?_
          · refine step_guard (d := 95) (b := false) rfl rfl rfl (by kernel_rfl) (fun _ _ _ h => h) ?_
            intro ev w5 hS hc hf hold hval a K ha hK
            have e103 : ev (.tmp 103) = .pointer (some ⟨b8, o8 + j, none⟩) := hval 40 103 (by kernel_rfl) rfl
            replace hS : (VB w.heap.size) W1 w5 := ⟨⟨hS.1.os, hS.1.tape, hS.1.output, hS.1.size, hS.1.block⟩, ⟨hS.2.os, hS.2.tape, hS.2.output, hS.2.size, hS.2.block⟩⟩
            have hc := (hS.1.made Hm8r.out (by decide) (by decide)).rd.cellAt (nat_at Ha.out)
            go_simp
            exact hK _ _ ((VisK.refl _ _)) rfl
          refine steps_cons ?_ ?_
          · refine step_guard (d := 95) (b := false) rfl rfl rfl (by kernel_rfl) (fun _ _ _ h => h) ?_
            intro ev w5 hS hc hf hold hval a K ha hK
            have e11 : ev (.tmp 11) = .int .i64 (m : Int) := hold 11 (by kernel_rfl)
            replace hS : (VB w.heap.size) W1 w5 := ⟨⟨hS.1.os, hS.1.tape, hS.1.output, hS.1.size, hS.1.block⟩, ⟨hS.2.os, hS.2.tape, hS.2.output, hS.2.size, hS.2.block⟩⟩
            go_simp
            exact hK _ _ ((VisK.refl _ _)) rfl
          refine steps_cons ?_ ?_
          · refine step_guard (d := 95) (b := false) rfl rfl rfl (by kernel_rfl) (fun _ _ _ h => h) ?_
            intro ev w5 hS hc hf hold hval a K ha hK
            have e104 : ev (.tmp 104) = .int .i64 (x : Int) := hval 41 104 (by kernel_rfl) rfl
            have e105 : ev (.tmp 105) = .int .i64 (m : Int) := hval 42 105 (by kernel_rfl) rfl
            replace hS : (VB w.heap.size) W1 w5 := ⟨⟨hS.1.os, hS.1.tape, hS.1.output, hS.1.size, hS.1.block⟩, ⟨hS.2.os, hS.2.tape, hS.2.output, hS.2.size, hS.2.block⟩⟩
            have f2 := F2.out
            go_simp
            exact hK _ _ ((VisK.refl _ _)) rfl
          refine steps_cons ?_ ?_
          · refine step_guard (d := 95) (b := false) rfl rfl rfl (by kernel_rfl) (fun _ _ _ h => h) ?_
            intro ev w5 hS hc hf hold hval a K ha hK
            have e96 : ev (.tmp 96) = .slice A1 n1 c1 := hval 33 96 (by kernel_rfl) rfl
            have e100 : ev (.tmp 100) = .int .i64 (x : Int) := hval 37 100 (by kernel_rfl) rfl
            have e106 : ev (.tmp 106) = .int .i64 (h : Int) := hval 43 106 (by kernel_rfl) rfl
            replace hS : (VB w.heap.size) W1 w5 := ⟨⟨hS.1.os, hS.1.tape, hS.1.output, hS.1.size, hS.1.block⟩, ⟨hS.2.os, hS.2.tape, hS.2.output, hS.2.size, hS.2.block⟩⟩
            have kc := Kc.out
            go_simp
            exact hK _ _ ((VisK.refl _ _)) rfl
          refine steps_cons ?_ ?_
          · refine step_guard (d := 95) (b := false) rfl rfl rfl (by kernel_rfl) (fun _ _ _ h => h) ?_
            intro ev w5 hS hc hf hold hval a K ha hK
            have e107 : ev (.tmp 107) = .slice (cutA A1 c1 x 1) m (c1 - x) := hval 44 107 (by kernel_rfl) rfl
            replace hS : (VB w.heap.size) W1 w5 := ⟨⟨hS.1.os, hS.1.tape, hS.1.output, hS.1.size, hS.1.block⟩, ⟨hS.2.os, hS.2.tape, hS.2.output, hS.2.size, hS.2.block⟩⟩
            have s1 := strOf (HA.out x w5 (Hv.out.trans (Hvr.out.trans hS)) Ham.out.1 Ham.out.2)
            go_simp
            exact hK _ _ ((VisK.refl _ _)) rfl
          refine steps_cons ?_ ?_
          · refine step_guard (d := 95) (b := false) rfl rfl rfl (by kernel_rfl) (fun _ _ _ h => h) ?_
            intro ev w5 hS hc hf hold hval a K ha hK
            have e12 : ev (.tmp 12) = .slice (cutA A1 c1 k 1) m (c1 - k) := hold 12 (by kernel_rfl)
            replace hS : (VB w.heap.size) W1 w5 := ⟨⟨hS.1.os, hS.1.tape, hS.1.output, hS.1.size, hS.1.block⟩, ⟨hS.2.os, hS.2.tape, hS.2.output, hS.2.size, hS.2.block⟩⟩
            go_simp
            exact hK _ _ ((VisK.refl _ _)) rfl
          refine steps_cons ?_ ?_
          · refine step_guard (d := 95) (b := false) rfl rfl rfl (by kernel_rfl) (fun _ _ _ h => h) ?_
            intro ev w5 hS hc hf hold hval a K ha hK
            have e109 : ev (.tmp 109) = .slice (cutA A1 c1 k 1) m (c1 - k) := hval 46 109 (by kernel_rfl) rfl
            replace hS : (VB w.heap.size) W1 w5 := ⟨⟨hS.1.os, hS.1.tape, hS.1.output, hS.1.size, hS.1.block⟩, ⟨hS.2.os, hS.2.tape, hS.2.output, hS.2.size, hS.2.block⟩⟩
            have s1 := strOf (HP.out w5 (Hv.out.trans (Hvr.out.trans hS)))
            go_simp
            exact hK _ _ ((VisK.refl _ _)) rfl
          refine steps_cons ?_ ?_
          · refine step_guard (d := 95) (b := false) rfl rfl rfl (by kernel_rfl) (fun _ _ _ h => h) ?_
            intro ev w5 hS hc hf hold hval a K ha hK
            have e108 : ev (.tmp 108) = .string ⟨q.toArray⟩ := hval 45 108 (by kernel_rfl) rfl
            have e110 : ev (.tmp 110) = .string ⟨q.toArray⟩ := hval 47 110 (by kernel_rfl) rfl
            replace hS : (VB w.heap.size) W1 w5 := ⟨⟨hS.1.os, hS.1.tape, hS.1.output, hS.1.size, hS.1.block⟩, ⟨hS.2.os, hS.2.tape, hS.2.output, hS.2.size, hS.2.block⟩⟩
            go_simp
            exact hK _ _ ((VisK.refl _ _)) rfl
          refine steps_cons ?_ ?_
          · refine step_on rfl rfl ?_
            intro ev w5 hS hc hf hold hval a K ha hK
            have e95 : ev (.tmp 95) = .bool false := hval 32 95 (by kernel_rfl) rfl
            have e111 : ev (.tmp 111) = .bool false := hval 48 111 (by kernel_rfl) rfl
            replace hS : (VB w.heap.size) W1 w5 := ⟨⟨hS.1.os, hS.1.tape, hS.1.output, hS.1.size, hS.1.block⟩, ⟨hS.2.os, hS.2.tape, hS.2.output, hS.2.size, hS.2.block⟩⟩
            go_simp
            exact hK _ _ ((VisK.refl _ _)) rfl
          exact steps_nil
        · intro ev w6 hS hval
          replace hS : (VB w.heap.size) W1 w6 := ⟨⟨hS.1.os, hS.1.tape, hS.1.output, hS.1.size, hS.1.block⟩, ⟨hS.2.os, hS.2.tape, hS.2.output, hS.2.size, hS.2.block⟩⟩
          have e112 : ev (.tmp 112) = .bool false := hval 49 112 rfl
          simp only [putsOf, List.foldl_cons, List.foldl_nil, Act.put, List.setIfInBounds_toArray, List.set_cons_zero, List.set_cons_succ]
          rw [e112]
          clear hval
          have d1 := (hS.1.made Hm8r.out (by decide) (by decide)).rd.cellAt (nat_at Ha.out)
          have hvn := Hvr.out.trans hS
          have hbo : ((x : Int) == (k : Int)) = bo := Hbo.out
          have hk82 := Hle.out
          cases bi with
          | true =>
            go_wp2_with fail
            go_roundw
            case rel => exact ⟨j + 1, by omega, by go_num, by rw [Hsucc.out]; rfl, hvn⟩
            case measure => simp [intOf]; omega
          | false =>
            go_wp2_with fail
            go_roundw
            case rel => exact ⟨j + 1, by omega, by go_num, by rw [Hsucc.out]; rfl, hvn⟩
            case measure => simp [intOf]; omega
      · obtain ⟨j', hjj'⟩ : ∃ j', j = j' + 1 := ⟨j - 1, by omega⟩
        obtain ⟨x', ha'⟩ : ∃ x', ps[j']? = some x' := ⟨ps[j']'(by rw [Hk2.out]; omega), List.getElem?_eq_getElem (by rw [Hk2.out]; omega)⟩
        have hr2 := rise_at Hrise.out ha' (hjj' ▸ Ha.out)
        have F5 := Lib.hid (show 0 < j by omega)
        have F6 := Lib.hid (show IntKind.i64.wrap ((j : Int) - 1) = (j' : Int) by have := Hle.out; rw [IntKind.wrap_i64]; omega)
        have F7 := Lib.hid (show ¬ x ≤ x' by omega)
        have Hj1 := Lib.hid (show j' < k2 by omega)
        have Ha' := Lib.hid ha'
        clear ha' hr2 hjj' hj0
        go_wp2_with fail
        refine wp_region_any (by kernel_rfl) ?_
        refine wpAny_loose2 [63, 64, 65, 66, 67, 68, 69, 70, 71, 72, 73, 74, 75, 76, 77, 78, 79, 80, 81, 82, 83, 84, 85, 86, 87, 88, 89, 90, 91, 92, 93, 94, 95, 96, 97, 98, 99, 100, 101, 102, 103, 104, 105, 106, 107, 108, 109, 110, 111, 112] (VB w.heap.size) (Vs [is (.int .i64 (j : Int)), is (.bool true), is (.bool true), is (.slice (some ⟨b8, o8, none⟩) k2 c8), is (.int .i64 (j : Int)), is (.pointer (some ⟨b8, o8 + j, none⟩)), is (.int .i64 (x : Int)), is (.slice (some ⟨b8, o8, none⟩) k2 c8), is (.int .i64 (j : Int)), is (.int .i64 (j' : Int)), is (.pointer (some ⟨b8, o8 + j', none⟩)), is (.int .i64 (x' : Int)), is (.bool false), is (.bool false), is (.bool false), is (.slice (some ⟨b8, o8, none⟩) k2 c8), is (.int .i64 (j : Int)), is (.pointer (some ⟨b8, o8 + j, none⟩)), is (.int .i64 (x : Int)), is (.bool false), is (.bool false), is (.bool false), is (.slice (some ⟨b8, o8, none⟩) k2 c8), is (.int .i64 (j : Int)), is (.pointer (some ⟨b8, o8 + j, none⟩)), is (.int .i64 (x : Int)), is (.int .i64 (m : Int)), is (.int .i64 (h : Int)), is (.slice A1 n1 c1), is (.int .i64 (n1 : Int)), is (.bool false), is (.bool false), is (.bool false), is (.slice A1 n1 c1), is (.slice (some ⟨b8, o8, none⟩) k2 c8), is (.int .i64 (j : Int)), is (.pointer (some ⟨b8, o8 + j, none⟩)), is (.int .i64 (x : Int)), is (.slice (some ⟨b8, o8, none⟩) k2 c8), is (.int .i64 (j : Int)), is (.pointer (some ⟨b8, o8 + j, none⟩)), is (.int .i64 (x : Int)), is (.int .i64 (m : Int)), is (.int .i64 (h : Int)), is (.slice (cutA A1 c1 x 1) m (c1 - x)), is (.string ⟨q.toArray⟩), is (.slice (cutA A1 c1 k 1) m (c1 - k)), is (.string ⟨q.toArray⟩), is (.bool false), is (.bool false)]) _ _ rfl (by kernel_rfl) (VisK.refl _ _) (fun _ _ => VisK.trans) (stbs_all (by repeat' (first | exact stbs_is _ _ | exact stbs_any _ | (refine List.forall_mem_cons.2 ⟨?_, ?_⟩) | (intro p hp; cases hp)))) ?_ ?_
        · refine steps_of ?_
          refine steps_cons ?_ ?_
          · refine step_on rfl rfl ?_
            intro ev w5 hS hc hf hold hval a K ha hK
            have e15 : ev (.tmp 15) = .int .i64 (j : Int) := hold 15 (by kernel_rfl)
            replace hS : (VB w.heap.size) W1 w5 := ⟨⟨hS.1.os, hS.1.tape, hS.1.output, hS.1.size, hS.1.block⟩, ⟨hS.2.os, hS.2.tape, hS.2.output, hS.2.size, hS.2.block⟩⟩
            go_simp
            exact hK _ _ ((VisK.refl _ _)) rfl
          refine steps_cons ?_ ?_
          · refine step_on rfl rfl ?_
            intro ev w5 hS hc hf hold hval a K ha hK
            have e63 : ev (.tmp 63) = .int .i64 (j : Int) := hval 0 63 (by kernel_rfl) rfl
            replace hS : (VB w.heap.size) W1 w5 := ⟨⟨hS.1.os, hS.1.tape, hS.1.output, hS.1.size, hS.1.block⟩, ⟨hS.2.os, hS.2.tape, hS.2.output, hS.2.size, hS.2.block⟩⟩
            have f5 := F5.out
            go_simp
            exact hK _ _ ((VisK.refl _ _)) rfl
          refine steps_cons ?_ ?_
          · refine step_on rfl rfl ?_
            intro ev w5 hS hc hf hold hval a K ha hK
            have e64 : ev (.tmp 64) = .bool true := hval 1 64 (by kernel_rfl) rfl
            replace hS : (VB w.heap.size) W1 w5 := ⟨⟨hS.1.os, hS.1.tape, hS.1.output, hS.1.size, hS.1.block⟩, ⟨hS.2.os, hS.2.tape, hS.2.output, hS.2.size, hS.2.block⟩⟩
            go_simp
            exact hK _ _ ((VisK.refl _ _)) rfl
          refine steps_cons ?_ ?_
          · refine step_guard (d := 65) (b := true) rfl rfl rfl (by kernel_rfl) (fun _ _ _ h => h) ?_
            intro ev w5 hS hc hf hold hval a K ha hK
            have e13 : ev (.tmp 13) = .slice (some ⟨b8, o8, none⟩) k2 c8 := hold 13 (by kernel_rfl)
            replace hS : (VB w.heap.size) W1 w5 := ⟨⟨hS.1.os, hS.1.tape, hS.1.output, hS.1.size, hS.1.block⟩, ⟨hS.2.os, hS.2.tape, hS.2.output, hS.2.size, hS.2.block⟩⟩
            go_simp
            exact hK _ _ ((VisK.refl _ _)) rfl
          refine steps_cons ?_ ?_
          · refine step_guard (d := 65) (b := true) rfl rfl rfl (by kernel_rfl) (fun _ _ _ h => h) ?_
            intro ev w5 hS hc hf hold hval a K ha hK
            have e15 : ev (.tmp 15) = .int .i64 (j : Int) := hold 15 (by kernel_rfl)
            replace hS : (VB w.heap.size) W1 w5 := ⟨⟨hS.1.os, hS.1.tape, hS.1.output, hS.1.size, hS.1.block⟩, ⟨hS.2.os, hS.2.tape, hS.2.output, hS.2.size, hS.2.block⟩⟩
            go_simp
            exact hK _ _ ((VisK.refl _ _)) rfl
          refine steps_cons ?_ ?_
          · refine step_guard (d := 65) (b := true) rfl rfl rfl (by kernel_rfl) (fun _ _ _ h => h) ?_
            intro ev w5 hS hc hf hold hval a K ha hK
            have e66 : ev (.tmp 66) = .slice (some ⟨b8, o8, none⟩) k2 c8 := hval 3 66 (by kernel_rfl) rfl
            have e67 : ev (.tmp 67) = .int .i64 (j : Int) := hval 4 67 (by kernel_rfl) rfl
            replace hS : (VB w.heap.size) W1 w5 := ⟨⟨hS.1.os, hS.1.tape, hS.1.output, hS.1.size, hS.1.block⟩, ⟨hS.2.os, hS.2.tape, hS.2.output, hS.2.size, hS.2.block⟩⟩
            have hps := hlt
            go_simp
            exact hK _ _ ((VisK.refl _ _)) rfl
          refine steps_cons ?_ ?_
          · refine step_guard (d := 65) (b := true) rfl rfl rfl (by kernel_rfl) (fun _ _ _ h => h) ?_
            intro ev w5 hS hc hf hold hval a K ha hK
            have e68 : ev (.tmp 68) = .pointer (some ⟨b8, o8 + j, none⟩) := hval 5 68 (by kernel_rfl) rfl
            replace hS : (VB w.heap.size) W1 w5 := ⟨⟨hS.1.os, hS.1.tape, hS.1.output, hS.1.size, hS.1.block⟩, ⟨hS.2.os, hS.2.tape, hS.2.output, hS.2.size, hS.2.block⟩⟩
            have hc := (hS.1.made Hm8r.out (by decide) (by decide)).rd.cellAt (nat_at Ha.out)
            go_simp
            exact hK _ _ ((VisK.refl _ _)) rfl
          refine steps_cons ?_ ?_
          · refine step_guard (d := 65) (b := true) rfl rfl rfl (by kernel_rfl) (fun _ _ _ h => h) ?_
            intro ev w5 hS hc hf hold hval a K ha hK
            have e13 : ev (.tmp 13) = .slice (some ⟨b8, o8, none⟩) k2 c8 := hold 13 (by kernel_rfl)
            replace hS : (VB w.heap.size) W1 w5 := ⟨⟨hS.1.os, hS.1.tape, hS.1.output, hS.1.size, hS.1.block⟩, ⟨hS.2.os, hS.2.tape, hS.2.output, hS.2.size, hS.2.block⟩⟩
            go_simp
            exact hK _ _ ((VisK.refl _ _)) rfl
          refine steps_cons ?_ ?_
          · refine step_guard (d := 65) (b := true) rfl rfl rfl (by kernel_rfl) (fun _ _ _ h => h) ?_
            intro ev w5 hS hc hf hold hval a K ha hK
            have e15 : ev (.tmp 15) = .int .i64 (j : Int) := hold 15 (by kernel_rfl)
            replace hS : (VB w.heap.size) W1 w5 := ⟨⟨hS.1.os, hS.1.tape, hS.1.output, hS.1.size, hS.1.block⟩, ⟨hS.2.os, hS.2.tape, hS.2.output, hS.2.size, hS.2.block⟩⟩
            go_simp
            exact hK _ _ ((VisK.refl _ _)) rfl
          refine steps_cons ?_ ?_
          · refine step_guard (d := 65) (b := true) rfl rfl rfl (by kernel_rfl) (fun _ _ _ h => h) ?_
            intro ev w5 hS hc hf hold hval a K ha hK
            have e71 : ev (.tmp 71) = .int .i64 (j : Int) := hval 8 71 (by kernel_rfl) rfl
            replace hS : (VB w.heap.size) W1 w5 := ⟨⟨hS.1.os, hS.1.tape, hS.1.output, hS.1.size, hS.1.block⟩, ⟨hS.2.os, hS.2.tape, hS.2.output, hS.2.size, hS.2.block⟩⟩
            have f6 := F6.out
            go_simp
            exact hK _ _ ((VisK.refl _ _)) rfl
          refine steps_cons ?_ ?_
          · refine step_guard (d := 65) (b := true) rfl rfl rfl (by kernel_rfl) (fun _ _ _ h => h) ?_
            intro ev w5 hS hc hf hold hval a K ha hK
            have e70 : ev (.tmp 70) = .slice (some ⟨b8, o8, none⟩) k2 c8 := hval 7 70 (by kernel_rfl) rfl
            have e72 : ev (.tmp 72) = .int .i64 (j' : Int) := hval 9 72 (by kernel_rfl) rfl
            replace hS : (VB w.heap.size) W1 w5 := ⟨⟨hS.1.os, hS.1.tape, hS.1.output, hS.1.size, hS.1.block⟩, ⟨hS.2.os, hS.2.tape, hS.2.output, hS.2.size, hS.2.block⟩⟩
            have hj1 := Hj1.out
            go_simp
            exact hK _ _ ((VisK.refl _ _)) rfl
          refine steps_cons ?_ ?_
          · refine step_guard (d := 65) (b := true) rfl rfl rfl (by kernel_rfl) (fun _ _ _ h => h) ?_
            intro ev w5 hS hc hf hold hval a K ha hK
            have e73 : ev (.tmp 73) = .pointer (some ⟨b8, o8 + j', none⟩) := hval 10 73 (by kernel_rfl) rfl
            replace hS : (VB w.heap.size) W1 w5 := ⟨⟨hS.1.os, hS.1.tape, hS.1.output, hS.1.size, hS.1.block⟩, ⟨hS.2.os, hS.2.tape, hS.2.output, hS.2.size, hS.2.block⟩⟩
            have hc := (hS.1.made Hm8r.out (by decide) (by decide)).rd.cellAt (nat_at Ha'.out)
            go_simp
            exact hK _ _ ((VisK.refl _ _)) rfl
          refine steps_cons ?_ ?_
          · refine step_guard (d := 65) (b := true) rfl rfl rfl (by kernel_rfl) (fun _ _ _ h => h) ?_
            intro ev w5 hS hc hf hold hval a K ha hK
            have e69 : ev (.tmp 69) = .int .i64 (x : Int) := hval 6 69 (by kernel_rfl) rfl
            have e74 : ev (.tmp 74) = .int .i64 (x' : Int) := hval 11 74 (by kernel_rfl) rfl
            replace hS : (VB w.heap.size) W1 w5 := ⟨⟨hS.1.os, hS.1.tape, hS.1.output, hS.1.size, hS.1.block⟩, ⟨hS.2.os, hS.2.tape, hS.2.output, hS.2.size, hS.2.block⟩⟩
            have f7 := F7.out
            go_simp
            exact hK _ _ ((VisK.refl _ _)) rfl
          refine steps_cons ?_ ?_
          · refine step_on rfl rfl ?_
            intro ev w5 hS hc hf hold hval a K ha hK
            have e65 : ev (.tmp 65) = .bool true := hval 2 65 (by kernel_rfl) rfl
            have e75 : ev (.tmp 75) = .bool false := hval 12 75 (by kernel_rfl) rfl
            replace hS : (VB w.heap.size) W1 w5 := ⟨⟨hS.1.os, hS.1.tape, hS.1.output, hS.1.size, hS.1.block⟩, ⟨hS.2.os, hS.2.tape, hS.2.output, hS.2.size, hS.2.block⟩⟩
            go_simp
            exact hK _ _ ((VisK.refl _ _)) rfl
          refine steps_cons ?_ ?_
          · refine step_on rfl rfl ?_
            intro ev w5 hS hc hf hold hval a K ha hK
            have e76 : ev (.tmp 76) = .bool false := hval 13 76 (by kernel_rfl) rfl
            replace hS : (VB w.heap.size) W1 w5 := ⟨⟨hS.1.os, hS.1.tape, hS.1.output, hS.1.size, hS.1.block⟩, ⟨hS.2.os, hS.2.tape, hS.2.output, hS.2.size, hS.2.block⟩⟩
            go_simp
            exact hK _ _ ((VisK.refl _ _)) rfl
          refine steps_cons ?_ ?_
          · refine step_guard (d := 77) (b := false) rfl rfl rfl (by kernel_rfl) (fun _ _ _ h => h) ?_
            intro ev w5 hS hc hf hold hval a K ha hK
            have e13 : ev (.tmp 13) = .slice (some ⟨b8, o8, none⟩) k2 c8 := hold 13 (by kernel_rfl)
            replace hS : (VB w.heap.size) W1 w5 := ⟨⟨hS.1.os, hS.1.tape, hS.1.output, hS.1.size, hS.1.block⟩, ⟨hS.2.os, hS.2.tape, hS.2.output, hS.2.size, hS.2.block⟩⟩
            go_simp
            exact hK _ _ ((VisK.refl _ _)) rfl
          refine steps_cons ?_ ?_
          · refine step_guard (d := 77) (b := false) rfl rfl rfl (by kernel_rfl) (fun _ _ _ h => h) ?_
            intro ev w5 hS hc hf hold hval a K ha hK
            have e15 : ev (.tmp 15) = .int .i64 (j : Int) := hold 15 (by kernel_rfl)
            replace hS : (VB w.heap.size) W1 w5 := ⟨⟨hS.1.os, hS.1.tape, hS.1.output, hS.1.size, hS.1.block⟩, ⟨hS.2.os, hS.2.tape, hS.2.output, hS.2.size, hS.2.block⟩⟩
            go_simp
            exact hK _ _ ((VisK.refl _ _)) rfl
          refine steps_cons ?_ ?_
          · refine step_guard (d := 77) (b := false) rfl rfl rfl (by kernel_rfl) (fun _ _ _ h => h) ?_
            intro ev w5 hS hc hf hold hval a K ha hK
            have e78 : ev (.tmp 78) = .slice (some ⟨b8, o8, none⟩) k2 c8 := hval 15 78 (by kernel_rfl) rfl
            have e79 : ev (.tmp 79) = .int .i64 (j : Int) := hval 16 79 (by kernel_rfl) rfl
            replace hS : (VB w.heap.size) W1 w5 := ⟨⟨hS.1.os, hS.1.tape, hS.1.output, hS.1.size, hS.1.block⟩, ⟨hS.2.os, hS.2.tape, hS.2.output, hS.2.size, hS.2.block⟩⟩
            have hps := hlt
            go_simp
            exact hK _ _ ((VisK.refl _ _)) rfl
          refine steps_cons ?_ ?_
          · refine step_guard (d := 77) (b := false) rfl rfl rfl (by kernel_rfl) (fun _ _ _ h => h) ?_
            intro ev w5 hS hc hf hold hval a K ha hK
            have e80 : ev (.tmp 80) = .pointer (some ⟨b8, o8 + j, none⟩) := hval 17 80 (by kernel_rfl) rfl
            replace hS : (VB w.heap.size) W1 w5 := ⟨⟨hS.1.os, hS.1.tape, hS.1.output, hS.1.size, hS.1.block⟩, ⟨hS.2.os, hS.2.tape, hS.2.output, hS.2.size, hS.2.block⟩⟩
            have hc := (hS.1.made Hm8r.out (by decide) (by decide)).rd.cellAt (nat_at Ha.out)
            go_simp
            exact hK _ _ ((VisK.refl _ _)) rfl
          refine steps_cons ?_ ?_
          · refine step_guard (d := 77) (b := false) rfl rfl rfl (by kernel_rfl) (fun _ _ _ h => h) ?_
            intro ev w5 hS hc hf hold hval a K ha hK
            have e81 : ev (.tmp 81) = .int .i64 (x : Int) := hval 18 81 (by kernel_rfl) rfl
            replace hS : (VB w.heap.size) W1 w5 := ⟨⟨hS.1.os, hS.1.tape, hS.1.output, hS.1.size, hS.1.block⟩, ⟨hS.2.os, hS.2.tape, hS.2.output, hS.2.size, hS.2.block⟩⟩
            go_simp
            exact hK _ _ ((VisK.refl _ _)) rfl
          refine steps_cons ?_ ?_
          · refine step_on rfl rfl ?_
            intro ev w5 hS hc hf hold hval a K ha hK
            have e77 : ev (.tmp 77) = .bool false := hval 14 77 (by kernel_rfl) rfl
            have e82 : ev (.tmp 82) = .bool false := hval 19 82 (by kernel_rfl) rfl
            replace hS : (VB w.heap.size) W1 w5 := ⟨⟨hS.1.os, hS.1.tape, hS.1.output, hS.1.size, hS.1.block⟩, ⟨hS.2.os, hS.2.tape, hS.2.output, hS.2.size, hS.2.block⟩⟩
            go_simp
            exact hK _ _ ((VisK.refl _ _)) rfl
          refine steps_cons ?_ ?_
          · refine step_on rfl rfl ?_
            intro ev w5 hS hc hf hold hval a K ha hK
            have e83 : ev (.tmp 83) = .bool false := hval 20 83 (by kernel_rfl) rfl
            replace hS : (VB w.heap.size) W1 w5 := ⟨⟨hS.1.os, hS.1.tape, hS.1.output, hS.1.size, hS.1.block⟩, ⟨hS.2.os, hS.2.tape, hS.2.output, hS.2.size, hS.2.block⟩⟩
            go_simp
            exact hK _ _ ((VisK.refl _ _)) rfl
          refine steps_cons ?_ ?_
          · refine step_guard (d := 84) (b := false) rfl rfl rfl (by kernel_rfl) (fun _ _ _ h => h) ?_
            intro ev w5 hS hc hf hold hval a K ha hK
            have e13 : ev (.tmp 13) = .slice (some ⟨b8, o8, none⟩) k2 c8 := hold 13 (by kernel_rfl)
            replace hS : (VB w.heap.size) W1 w5 := ⟨⟨hS.1.os, hS.1.tape, hS.1.output, hS.1.size, hS.1.block⟩, ⟨hS.2.os, hS.2.tape, hS.2.output, hS.2.size, hS.2.block⟩⟩
            go_simp
            exact hK _ _ ((VisK.refl _ _)) rfl
          refine steps_cons ?_ ?_
          · refine step_guard (d := 84) (b := false) rfl rfl rfl (by kernel_rfl) (fun _ _ _ h => h) ?_
            intro ev w5 hS hc hf hold hval a K ha hK
            have e15 : ev (.tmp 15) = .int .i64 (j : Int) := hold 15 (by kernel_rfl)
            replace hS : (VB w.heap.size) W1 w5 := ⟨⟨hS.1.os, hS.1.tape, hS.1.output, hS.1.size, hS.1.block⟩, ⟨hS.2.os, hS.2.tape, hS.2.output, hS.2.size, hS.2.block⟩⟩
            go_simp
            exact hK _ _ ((VisK.refl _ _)) rfl
          refine steps_cons ?_ ?_
          · refine step_guard (d := 84) (b := false) rfl rfl rfl (by kernel_rfl) (fun _ _ _ h => h) ?_
            intro ev w5 hS hc hf hold hval a K ha hK
            have e85 : ev (.tmp 85) = .slice (some ⟨b8, o8, none⟩) k2 c8 := hval 22 85 (by kernel_rfl) rfl
            have e86 : ev (.tmp 86) = .int .i64 (j : Int) := hval 23 86 (by kernel_rfl) rfl
            replace hS : (VB w.heap.size) W1 w5 := ⟨⟨hS.1.os, hS.1.tape, hS.1.output, hS.1.size, hS.1.block⟩, ⟨hS.2.os, hS.2.tape, hS.2.output, hS.2.size, hS.2.block⟩⟩
            have hps := hlt
            go_simp
            exact hK _ _ ((VisK.refl _ _)) rfl
          refine steps_cons ?_ ?_
          · refine step_guard (d := 84) (b := false) rfl rfl rfl (by kernel_rfl) (fun _ _ _ h => h) ?_
            intro ev w5 hS hc hf hold hval a K ha hK
            have e87 : ev (.tmp 87) = .pointer (some ⟨b8, o8 + j, none⟩) := hval 24 87 (by kernel_rfl) rfl
            replace hS : (VB w.heap.size) W1 w5 := ⟨⟨hS.1.os, hS.1.tape, hS.1.output, hS.1.size, hS.1.block⟩, ⟨hS.2.os, hS.2.tape, hS.2.output, hS.2.size, hS.2.block⟩⟩
            have hc := (hS.1.made Hm8r.out (by decide) (by decide)).rd.cellAt (nat_at Ha.out)
            go_simp
            exact hK _ _ ((VisK.refl _ _)) rfl
          refine steps_cons ?_ ?_
          · refine step_guard (d := 84) (b := false) rfl rfl rfl (by kernel_rfl) (fun _ _ _ h => h) ?_
            intro ev w5 hS hc hf hold hval a K ha hK
            have e11 : ev (.tmp 11) = .int .i64 (m : Int) := hold 11 (by kernel_rfl)
            replace hS : (VB w.heap.size) W1 w5 := ⟨⟨hS.1.os, hS.1.tape, hS.1.output, hS.1.size, hS.1.block⟩, ⟨hS.2.os, hS.2.tape, hS.2.output, hS.2.size, hS.2.block⟩⟩
            go_simp
            exact hK _ _ ((VisK.refl _ _)) rfl
          refine steps_cons ?_ ?_
          · refine step_guard (d := 84) (b := false) rfl rfl rfl (by kernel_rfl) (fun _ _ _ h => h) ?_
            intro ev w5 hS hc hf hold hval a K ha hK
            have e88 : ev (.tmp 88) = .int .i64 (x : Int) := hval 25 88 (by kernel_rfl) rfl
            have e89 : ev (.tmp 89) = .int .i64 (m : Int) := hval 26 89 (by kernel_rfl) rfl
            replace hS : (VB w.heap.size) W1 w5 := ⟨⟨hS.1.os, hS.1.tape, hS.1.output, hS.1.size, hS.1.block⟩, ⟨hS.2.os, hS.2.tape, hS.2.output, hS.2.size, hS.2.block⟩⟩
            have f2 := F2.out
            go_simp
            exact hK _ _ ((VisK.refl _ _)) rfl
          refine steps_cons ?_ ?_
          · refine step_guard (d := 84) (b := false) rfl rfl rfl (by kernel_rfl) (fun _ _ _ h => h) ?_
            intro ev w5 hS hc hf hold hval a K ha hK
            have e7 : ev (.tmp 7) = .slice A1 n1 c1 := hold 7 (by kernel_rfl)
            replace hS : (VB w.heap.size) W1 w5 := ⟨⟨hS.1.os, hS.1.tape, hS.1.output, hS.1.size, hS.1.block⟩, ⟨hS.2.os, hS.2.tape, hS.2.output, hS.2.size, hS.2.block⟩⟩
            go_simp
            exact hK _ _ ((VisK.refl _ _)) rfl
          refine steps_cons ?_ ?_
          · refine step_guard (d := 84) (b := false) rfl rfl rfl (by kernel_rfl) (fun _ _ _ h => h) ?_
            intro ev w5 hS hc hf hold hval a K ha hK
            have e91 : ev (.tmp 91) = .slice A1 n1 c1 := hval 28 91 (by kernel_rfl) rfl
            replace hS : (VB w.heap.size) W1 w5 := ⟨⟨hS.1.os, hS.1.tape, hS.1.output, hS.1.size, hS.1.block⟩, ⟨hS.2.os, hS.2.tape, hS.2.output, hS.2.size, hS.2.block⟩⟩
            go_simp
            exact hK _ _ ((VisK.refl _ _)) rfl
          refine steps_cons ?_ ?_
          · refine step_guard (d := 84) (b := false) rfl rfl rfl (by kernel_rfl) (fun _ _ _ h => h) ?_
            intro ev w5 hS hc hf hold hval a K ha hK
            have e90 : ev (.tmp 90) = .int .i64 (h : Int) := hval 27 90 (by kernel_rfl) rfl
            have e92 : ev (.tmp 92) = .int .i64 (n1 : Int) := hval 29 92 (by kernel_rfl) rfl
            replace hS : (VB w.heap.size) W1 w5 := ⟨⟨hS.1.os, hS.1.tape, hS.1.output, hS.1.size, hS.1.block⟩, ⟨hS.2.os, hS.2.tape, hS.2.output, hS.2.size, hS.2.block⟩⟩
            have f3 := F3.out
            have f4 := F3'.out
            go_simp
            exact hK _ _ ((VisK.refl _ _)) rfl
          refine steps_cons ?_ ?_
          · refine step_on rfl rfl ?_
            intro ev w5 hS hc hf hold hval a K ha hK
            have e84 : ev (.tmp 84) = .bool false := hval 21 84 (by kernel_rfl) rfl
            have e93 : ev (.tmp 93) = .bool false := hval 30 93 (by kernel_rfl) rfl
            replace hS : (VB w.heap.size) W1 w5 := ⟨⟨hS.1.os, hS.1.tape, hS.1.output, hS.1.size, hS.1.block⟩, ⟨hS.2.os, hS.2.tape, hS.2.output, hS.2.size, hS.2.block⟩⟩
            go_simp
            exact hK _ _ ((VisK.refl _ _)) rfl
          refine steps_cons ?_ ?_
          · refine step_on rfl rfl ?_
            intro ev w5 hS hc hf hold hval a K ha hK
            have e94 : ev (.tmp 94) = .bool false := hval 31 94 (by kernel_rfl) rfl
            replace hS : (VB w.heap.size) W1 w5 := ⟨⟨hS.1.os, hS.1.tape, hS.1.output, hS.1.size, hS.1.block⟩, ⟨hS.2.os, hS.2.tape, hS.2.output, hS.2.size, hS.2.block⟩⟩
            go_simp
            exact hK _ _ ((VisK.refl _ _)) rfl
          refine steps_cons ?_ ?_
          · refine step_guard (d := 95) (b := false) rfl rfl rfl (by kernel_rfl) (fun _ _ _ h => h) ?_
            intro ev w5 hS hc hf hold hval a K ha hK
            have e7 : ev (.tmp 7) = .slice A1 n1 c1 := hold 7 (by kernel_rfl)
            replace hS : (VB w.heap.size) W1 w5 := ⟨⟨hS.1.os, hS.1.tape, hS.1.output, hS.1.size, hS.1.block⟩, ⟨hS.2.os, hS.2.tape, hS.2.output, hS.2.size, hS.2.block⟩⟩
            go_simp
            exact hK _ _ ((VisK.refl _ _)) rfl
          refine steps_cons ?_ ?_
          · refine step_guard (d := 95) (b := false) rfl rfl rfl (by kernel_rfl) (fun _ _ _ h => h) ?_
            intro ev w5 hS hc hf hold hval a K ha hK
            have e13 : ev (.tmp 13) = .slice (some ⟨b8, o8, none⟩) k2 c8 := hold 13 (by kernel_rfl)
            replace hS : (VB w.heap.size) W1 w5 := ⟨⟨hS.1.os, hS.1.tape, hS.1.output, hS.1.size, hS.1.block⟩, ⟨hS.2.os, hS.2.tape, hS.2.output, hS.2.size, hS.2.block⟩⟩
            go_simp
            exact hK _ _ ((VisK.refl _ _)) rfl
          refine steps_cons ?_ ?_
          · refine step_guard (d := 95) (b := false) rfl rfl rfl (by kernel_rfl) (fun _ _ _ h => h) ?_
            intro ev w5 hS hc hf hold hval a K ha hK
            have e15 : ev (.tmp 15) = .int .i64 (j : Int) := hold 15 (by kernel_rfl)
            replace hS : (VB w.heap.size) W1 w5 := ⟨⟨hS.1.os, hS.1.tape, hS.1.output, hS.1.size, hS.1.block⟩, ⟨hS.2.os, hS.2.tape, hS.2.output, hS.2.size, hS.2.block⟩⟩
            go_simp
            exact hK _ _ ((VisK.refl _ _)) rfl
          refine steps_cons ?_ ?_
          · refine step_guard (d := 95) (b := false) rfl rfl rfl (by kernel_rfl) (fun _ _ _ h => h) ?_
            intro ev w5 hS hc hf hold hval a K ha hK
            have e97 : ev (.tmp 97) = .slice (some ⟨b8, o8, none⟩) k2 c8 := hval 34 97 (by kernel_rfl) rfl
            have e98 : ev (.tmp 98) = .int .i64 (j : Int) := hval 35 98 (by kernel_rfl) rfl
            replace hS : (VB w.heap.size) W1 w5 := ⟨⟨hS.1.os, hS.1.tape, hS.1.output, hS.1.size, hS.1.block⟩, ⟨hS.2.os, hS.2.tape, hS.2.output, hS.2.size, hS.2.block⟩⟩
            have hps := hlt
            go_simp
            exact hK _ _ ((VisK.refl _ _)) rfl
          refine steps_cons ?_ ?_
          · refine step_guard (d := 95) (b := false) rfl rfl rfl (by kernel_rfl) (fun _ _ _ h => h) ?_
            intro ev w5 hS hc hf hold hval a K ha hK
            have e99 : ev (.tmp 99) = .pointer (some ⟨b8, o8 + j, none⟩) := hval 36 99 (by kernel_rfl) rfl
            replace hS : (VB w.heap.size) W1 w5 := ⟨⟨hS.1.os, hS.1.tape, hS.1.output, hS.1.size, hS.1.block⟩, ⟨hS.2.os, hS.2.tape, hS.2.output, hS.2.size, hS.2.block⟩⟩
            have hc := (hS.1.made Hm8r.out (by decide) (by decide)).rd.cellAt (nat_at Ha.out)
            go_simp
            exact hK _ _ ((VisK.refl _ _)) rfl
          refine steps_cons ?_ ?_
          · refine step_guard (d := 95) (b := false) rfl rfl rfl (by kernel_rfl) (fun _ _ _ h => h) ?_
            intro ev w5 hS hc hf hold hval a K ha hK
            have e13 : ev (.tmp 13) = .slice (some ⟨b8, o8, none⟩) k2 c8 := hold 13 (by kernel_rfl)
            replace hS : (VB w.heap.size) W1 w5 := ⟨⟨hS.1.os, hS.1.tape, hS.1.output, hS.1.size, hS.1.block⟩, ⟨hS.2.os, hS.2.tape, hS.2.output, hS.2.size, hS.2.block⟩⟩
            go_simp
            exact hK _ _ ((VisK.refl _ _)) rfl
          refine steps_cons ?_ ?_
          · refine step_guard (d := 95) (b := false) rfl rfl rfl (by kernel_rfl) (fun _ _ _ h => h) ?_
            intro ev w5 hS hc hf hold hval a K ha hK
            have e15 : ev (.tmp 15) = .int .i64 (j : Int) := hold 15 (by kernel_rfl)
            replace hS : (VB w.heap.size) W1 w5 := ⟨⟨hS.1.os, hS.1.tape, hS.1.output, hS.1.size, hS.1.block⟩, ⟨hS.2.os, hS.2.tape, hS.2.output, hS.2.size, hS.2.block⟩⟩
            go_simp
            exact hK _ _ ((VisK.refl _ _)) rfl
          refine steps_cons ?_ ?_
          · refine step_guard (d := 95) (b := false) rfl rfl rfl (by kernel_rfl) (fun _ _ _ h => h) ?_
            intro ev w5 hS hc hf hold hval a K ha hK
            have e101 : ev (.tmp 101) = .slice (some ⟨b8, o8, none⟩) k2 c8 := hval 38 101 (by kernel_rfl) rfl
            have e102 : ev (.tmp 102) = .int .i64 (j : Int) := hval 39 102 (by kernel_rfl) rfl
            replace hS : (VB w.heap.size) W1 w5 := ⟨⟨hS.1.os, hS.1.tape, hS.1.output, hS.1.size, hS.1.block⟩, ⟨hS.2.os, hS.2.tape, hS.2.output, hS.2.size, hS.2.block⟩⟩
            have hps := hlt
            go_simp
            exact hK _ _ ((VisK.refl _ _)) rfl
          refine steps_cons ?_ ?_
          · refine step_guard (d := 95) (b := false) rfl rfl rfl (by kernel_rfl) (fun _ _ _ h => h) ?_
            intro ev w5 hS hc hf hold hval a K ha hK
            have e103 : ev (.tmp 103) = .pointer (some ⟨b8, o8 + j, none⟩) := hval 40 103 (by kernel_rfl) rfl
            replace hS : (VB w.heap.size) W1 w5 := ⟨⟨hS.1.os, hS.1.tape, hS.1.output, hS.1.size, hS.1.block⟩, ⟨hS.2.os, hS.2.tape, hS.2.output, hS.2.size, hS.2.block⟩⟩
            have hc := (hS.1.made Hm8r.out (by decide) (by decide)).rd.cellAt (nat_at Ha.out)
            go_simp
            exact hK _ _ ((VisK.refl _ _)) rfl
          refine steps_cons ?_ ?_
          · refine step_guard (d := 95) (b := false) rfl rfl rfl (by kernel_rfl) (fun _ _ _ h => h) ?_
            intro ev w5 hS hc hf hold hval a K ha hK
            have e11 : ev (.tmp 11) = .int .i64 (m : Int) := hold 11 (by kernel_rfl)
            replace hS : (VB w.heap.size) W1 w5 := ⟨⟨hS.1.os, hS.1.tape, hS.1.output, hS.1.size, hS.1.block⟩, ⟨hS.2.os, hS.2.tape, hS.2.output, hS.2.size, hS.2.block⟩⟩
            go_simp
            exact hK _ _ ((VisK.refl _ _)) rfl
          refine steps_cons ?_ ?_
          · refine step_guard (d := 95) (b := false) rfl rfl rfl (by kernel_rfl) (fun _ _ _ h => h) ?_
            intro ev w5 hS hc hf hold hval a K ha hK
            have e104 : ev (.tmp 104) = .int .i64 (x : Int) := hval 41 104 (by kernel_rfl) rfl
            have e105 : ev (.tmp 105) = .int .i64 (m : Int) := hval 42 105 (by kernel_rfl) rfl
            replace hS : (VB w.heap.size) W1 w5 := ⟨⟨hS.1.os, hS.1.tape, hS.1.output, hS.1.size, hS.1.block⟩, ⟨hS.2.os, hS.2.tape, hS.2.output, hS.2.size, hS.2.block⟩⟩
            have f2 := F2.out
            go_simp
            exact hK _ _ ((VisK.refl _ _)) rfl
          refine steps_cons ?_ ?_
          · refine step_guard (d := 95) (b := false) rfl rfl rfl (by kernel_rfl) (fun _ _ _ h => h) ?_
            intro ev w5 hS hc hf hold hval a K ha hK
            have e96 : ev (.tmp 96) = .slice A1 n1 c1 := hval 33 96 (by kernel_rfl) rfl
            have e100 : ev (.tmp 100) = .int .i64 (x : Int) := hval 37 100 (by kernel_rfl) rfl
            have e106 : ev (.tmp 106) = .int .i64 (h : Int) := hval 43 106 (by kernel_rfl) rfl
            replace hS : (VB w.heap.size) W1 w5 := ⟨⟨hS.1.os, hS.1.tape, hS.1.output, hS.1.size, hS.1.block⟩, ⟨hS.2.os, hS.2.tape, hS.2.output, hS.2.size, hS.2.block⟩⟩
            have kc := Kc.out
            go_simp
            exact hK _ _ ((VisK.refl _ _)) rfl
          refine steps_cons ?_ ?_
          · refine step_guard (d := 95) (b := false) rfl rfl rfl (by kernel_rfl) (fun _ _ _ h => h) ?_
            intro ev w5 hS hc hf hold hval a K ha hK
            have e107 : ev (.tmp 107) = .slice (cutA A1 c1 x 1) m (c1 - x) := hval 44 107 (by kernel_rfl) rfl
            replace hS : (VB w.heap.size) W1 w5 := ⟨⟨hS.1.os, hS.1.tape, hS.1.output, hS.1.size, hS.1.block⟩, ⟨hS.2.os, hS.2.tape, hS.2.output, hS.2.size, hS.2.block⟩⟩
            have s1 := strOf (HA.out x w5 (Hv.out.trans (Hvr.out.trans hS)) Ham.out.1 Ham.out.2)
            go_simp
            exact hK _ _ ((VisK.refl _ _)) rfl
          refine steps_cons ?_ ?_
          · refine step_guard (d := 95) (b := false) rfl rfl rfl (by kernel_rfl) (fun _ _ _ h => h) ?_
            intro ev w5 hS hc hf hold hval a K ha hK
            have e12 : ev (.tmp 12) = .slice (cutA A1 c1 k 1) m (c1 - k) := hold 12 (by kernel_rfl)
            replace hS : (VB w.heap.size) W1 w5 := ⟨⟨hS.1.os, hS.1.tape, hS.1.output, hS.1.size, hS.1.block⟩, ⟨hS.2.os, hS.2.tape, hS.2.output, hS.2.size, hS.2.block⟩⟩
            go_simp
            exact hK _ _ ((VisK.refl _ _)) rfl
          refine steps_cons ?_ ?_
          · refine step_guard (d := 95) (b := false) rfl rfl rfl (by kernel_rfl) (fun _ _ _ h => h) ?_
            intro ev w5 hS hc hf hold hval a K ha hK
            have e109 : ev (.tmp 109) = .slice (cutA A1 c1 k 1) m (c1 - k) := hval 46 109 (by kernel_rfl) rfl
            replace hS : (VB w.heap.size) W1 w5 := ⟨⟨hS.1.os, hS.1.tape, hS.1.output, hS.1.size, hS.1.block⟩, ⟨hS.2.os, hS.2.tape, hS.2.output, hS.2.size, hS.2.block⟩⟩
            have s1 := strOf (HP.out w5 (Hv.out.trans (Hvr.out.trans hS)))
            go_simp
            exact hK _ _ ((VisK.refl _ _)) rfl
          refine steps_cons ?_ ?_
          · refine step_guard (d := 95) (b := false) rfl rfl rfl (by kernel_rfl) (fun _ _ _ h => h) ?_
            intro ev w5 hS hc hf hold hval a K ha hK
            have e108 : ev (.tmp 108) = .string ⟨q.toArray⟩ := hval 45 108 (by kernel_rfl) rfl
            have e110 : ev (.tmp 110) = .string ⟨q.toArray⟩ := hval 47 110 (by kernel_rfl) rfl
            replace hS : (VB w.heap.size) W1 w5 := ⟨⟨hS.1.os, hS.1.tape, hS.1.output, hS.1.size, hS.1.block⟩, ⟨hS.2.os, hS.2.tape, hS.2.output, hS.2.size, hS.2.block⟩⟩
            go_simp
            exact hK _ _ ((VisK.refl _ _)) rfl
          refine steps_cons ?_ ?_
          · refine step_on rfl rfl ?_
            intro ev w5 hS hc hf hold hval a K ha hK
            have e95 : ev (.tmp 95) = .bool false := hval 32 95 (by kernel_rfl) rfl
            have e111 : ev (.tmp 111) = .bool false := hval 48 111 (by kernel_rfl) rfl
            replace hS : (VB w.heap.size) W1 w5 := ⟨⟨hS.1.os, hS.1.tape, hS.1.output, hS.1.size, hS.1.block⟩, ⟨hS.2.os, hS.2.tape, hS.2.output, hS.2.size, hS.2.block⟩⟩
            go_simp
            exact hK _ _ ((VisK.refl _ _)) rfl
          exact steps_nil
        · intro ev w6 hS hval
          replace hS : (VB w.heap.size) W1 w6 := ⟨⟨hS.1.os, hS.1.tape, hS.1.output, hS.1.size, hS.1.block⟩, ⟨hS.2.os, hS.2.tape, hS.2.output, hS.2.size, hS.2.block⟩⟩
          have e112 : ev (.tmp 112) = .bool false := hval 49 112 rfl
          simp only [putsOf, List.foldl_cons, List.foldl_nil, Act.put, List.setIfInBounds_toArray, List.set_cons_zero, List.set_cons_succ]
          rw [e112]
          clear hval
          have d1 := (hS.1.made Hm8r.out (by decide) (by decide)).rd.cellAt (nat_at Ha.out)
          have hvn := Hvr.out.trans hS
          have hbo : ((x : Int) == (k : Int)) = bo := Hbo.out
          have hk82 := Hle.out
          cases bi with
          | true =>
            go_wp2_with fail
            go_roundw
            case rel => exact ⟨j + 1, by omega, by go_num, by rw [Hsucc.out]; rfl, hvn⟩
            case measure => simp [intOf]; omega
          | false =>
            go_wp2_with fail
            go_roundw
            case rel => exact ⟨j + 1, by omega, by go_num, by rw [Hsucc.out]; rfl, hvn⟩
            case measure => simp [intOf]; omega
    · obtain rfl : j = k2 := by omega
      rw [inT_all Hk2.out Hkin.out]
      have hge : ¬ ((j : Int) < (j : Int)) := by omega
      obtain ⟨W2, hW2⟩ : ∃ x, x = wr := ⟨_, rfl⟩
      subst hW2
      have hvW := hvr
      have hm1W := hvW.1.made Hm1.out (by decide) (by decide)
      have hm8W := hvW.1.made Hm8.out (by decide) (by decide)
      have htW := HtW.out.vis hvW.1
      have hbW := HbW.out.trans (VB.to_below hvW HbW.out.size)
      have hvv := Hv.out.trans hvW
      have Hm1W := Lib.hid hm1W
      have Hm8W := Lib.hid hm8W
      have Ht2 := Lib.hid htW
      have Hb2 := Lib.hid hbW
      have Hv2 := Lib.hid hvv
      clear hvr hvW hm1W hm8W htW hbW hvv hlt HtW HbW Hv Hm8 Hm1
      go_wp2_with fail
      refine wp_region_any (by kernel_rfl) ?_
      refine wpAny_loose2 [122, 123, 124, 125, 126, 127, 128, 129, 130, 131, 132, 133, 134, 135, 136, 137, 138, 139, 140, 141, 142, 143, 144, 6] (VB w.heap.size) (Vs [is (.bool true), is (.bool true), is (.bool true), is (.bool true), is (.bool true), is (.slice (some ⟨b8, o8, none⟩) j c8), is (.int .i64 (j : Int)), is (.pointer (some ⟨gl, 0, none⟩)), is (.slice (cutA A1 c1 k 1) m (c1 - k)), fun v w2 => ∃ g, v = .slice (some ⟨g, 0, none⟩) 1 1 ∧ Bk w2 g 23 #[.slice (cutA A1 c1 k 1) m (c1 - k)], is (.int .i64 (j : Int)), is (.bool true), is (.bool true), is (.bool true), is (.pointer (some ⟨gl, 0, none⟩)), is (.slice (cutA A1 c1 k 1) m (c1 - k)), fun v w2 => ∃ g, v = .slice (some ⟨g, 0, none⟩) 1 1 ∧ Bk w2 g 23 #[.slice (cutA A1 c1 k 1) m (c1 - k)], is (.int .i64 (a0 : Int)), is (.slice (some ⟨b8, o8, none⟩) j c8), is (.pointer (some ⟨b8, o8, none⟩)), is (.int .i64 (a0 : Int)), is (.bool true), is (.bool true), is (.bool true)]) _ _ rfl (by kernel_rfl) (VisK.refl _ _) (fun _ _ => VisK.trans) (stbs_all (by repeat' (first | exact stbs_is _ _ | exact stbs_any _ | exact fun _ _ _ ⟨g, h1, h2⟩ k => ⟨g, h1, k.1.bk h2 (by decide) (by decide)⟩ | (refine List.forall_mem_cons.2 ⟨?_, ?_⟩) | (intro p hp; cases hp)))) ?_ ?_
      · refine steps_of ?_
        refine steps_cons ?_ ?_
        · refine step_on rfl rfl ?_
          intro ev w5 hS hc hf hold hval a K ha hK
          replace hS : (VB w.heap.size) W2 w5 := ⟨⟨hS.1.os, hS.1.tape, hS.1.output, hS.1.size, hS.1.block⟩, ⟨hS.2.os, hS.2.tape, hS.2.output, hS.2.size, hS.2.block⟩⟩
          go_simp
          refine (Told14_any w5).mono ?_
          rintro e w8 ⟨rfl, hb8⟩
          exact hK _ _ (VisK.of_below hb8) rfl
        refine steps_cons ?_ ?_
        · refine step_on rfl rfl ?_
          intro ev w5 hS hc hf hold hval a K ha hK
          have e122 : ev (.tmp 122) = .bool true := hval 0 122 (by kernel_rfl) rfl
          replace hS : (VB w.heap.size) W2 w5 := ⟨⟨hS.1.os, hS.1.tape, hS.1.output, hS.1.size, hS.1.block⟩, ⟨hS.2.os, hS.2.tape, hS.2.output, hS.2.size, hS.2.block⟩⟩
          go_simp
          exact hK _ _ ((VisK.refl _ _)) rfl
        refine steps_cons ?_ ?_
        · refine step_guard (d := 123) (b := true) rfl rfl rfl (by kernel_rfl) (fun _ _ _ h => h) ?_
          intro ev w5 hS hc hf hold hval a K ha hK
          have e14 : ev (.tmp 14) = .bool true := hold 14 (by kernel_rfl)
          replace hS : (VB w.heap.size) W2 w5 := ⟨⟨hS.1.os, hS.1.tape, hS.1.output, hS.1.size, hS.1.block⟩, ⟨hS.2.os, hS.2.tape, hS.2.output, hS.2.size, hS.2.block⟩⟩
          go_simp
          exact hK _ _ ((VisK.refl _ _)) rfl
        refine steps_cons ?_ ?_
        · refine step_on rfl rfl ?_
          intro ev w5 hS hc hf hold hval a K ha hK
          have e123 : ev (.tmp 123) = .bool true := hval 1 123 (by kernel_rfl) rfl
          have e124 : ev (.tmp 124) = .bool true := hval 2 124 (by kernel_rfl) rfl
          replace hS : (VB w.heap.size) W2 w5 := ⟨⟨hS.1.os, hS.1.tape, hS.1.output, hS.1.size, hS.1.block⟩, ⟨hS.2.os, hS.2.tape, hS.2.output, hS.2.size, hS.2.block⟩⟩
          go_simp
          exact hK _ _ ((VisK.refl _ _)) rfl
        refine steps_cons ?_ ?_
        · refine step_on rfl rfl ?_
          intro ev w5 hS hc hf hold hval a K ha hK
          have e125 : ev (.tmp 125) = .bool true := hval 3 125 (by kernel_rfl) rfl
          replace hS : (VB w.heap.size) W2 w5 := ⟨⟨hS.1.os, hS.1.tape, hS.1.output, hS.1.size, hS.1.block⟩, ⟨hS.2.os, hS.2.tape, hS.2.output, hS.2.size, hS.2.block⟩⟩
          go_simp
          exact hK _ _ ((VisK.refl _ _)) rfl
        refine steps_cons ?_ ?_
        · refine step_guard (d := 126) (b := true) rfl rfl rfl (by kernel_rfl) (fun _ _ _ h => h) ?_
          intro ev w5 hS hc hf hold hval a K ha hK
          have e13 : ev (.tmp 13) = .slice (some ⟨b8, o8, none⟩) j c8 := hold 13 (by kernel_rfl)
          replace hS : (VB w.heap.size) W2 w5 := ⟨⟨hS.1.os, hS.1.tape, hS.1.output, hS.1.size, hS.1.block⟩, ⟨hS.2.os, hS.2.tape, hS.2.output, hS.2.size, hS.2.block⟩⟩
          go_simp
          exact hK _ _ ((VisK.refl _ _)) rfl
        refine steps_cons ?_ ?_
        · refine step_guard (d := 126) (b := true) rfl rfl rfl (by kernel_rfl) (fun _ _ _ h => h) ?_
          intro ev w5 hS hc hf hold hval a K ha hK
          have e127 : ev (.tmp 127) = .slice (some ⟨b8, o8, none⟩) j c8 := hval 5 127 (by kernel_rfl) rfl
          replace hS : (VB w.heap.size) W2 w5 := ⟨⟨hS.1.os, hS.1.tape, hS.1.output, hS.1.size, hS.1.block⟩, ⟨hS.2.os, hS.2.tape, hS.2.output, hS.2.size, hS.2.block⟩⟩
          go_simp
          exact hK _ _ ((VisK.refl _ _)) rfl
        refine steps_cons ?_ ?_
        · refine step_guard (d := 126) (b := true) rfl rfl rfl (by kernel_rfl) (fun _ _ _ h => h) ?_
          intro ev w5 hS hc hf hold hval a K ha hK
          have e8 : ev (.tmp 8) = .pointer (some ⟨gl, 0, none⟩) := hold 8 (by kernel_rfl)
          replace hS : (VB w.heap.size) W2 w5 := ⟨⟨hS.1.os, hS.1.tape, hS.1.output, hS.1.size, hS.1.block⟩, ⟨hS.2.os, hS.2.tape, hS.2.output, hS.2.size, hS.2.block⟩⟩
          go_simp
          exact hK _ _ ((VisK.refl _ _)) rfl
        refine steps_cons ?_ ?_
        · refine step_guard (d := 126) (b := true) rfl rfl rfl (by kernel_rfl) (fun _ _ _ h => h) ?_
          intro ev w5 hS hc hf hold hval a K ha hK
          have e12 : ev (.tmp 12) = .slice (cutA A1 c1 k 1) m (c1 - k) := hold 12 (by kernel_rfl)
          replace hS : (VB w.heap.size) W2 w5 := ⟨⟨hS.1.os, hS.1.tape, hS.1.output, hS.1.size, hS.1.block⟩, ⟨hS.2.os, hS.2.tape, hS.2.output, hS.2.size, hS.2.block⟩⟩
          go_simp
          exact hK _ _ ((VisK.refl _ _)) rfl
        refine steps_cons ?_ ?_
        · refine step_guard (d := 126) (b := true) rfl rfl rfl (by kernel_rfl) (fun _ _ _ h => h) ?_
          intro ev w5 hS hc hf hold hval a K ha hK
          have e130 : ev (.tmp 130) = .slice (cutA A1 c1 k 1) m (c1 - k) := hval 8 130 (by kernel_rfl) rfl
          replace hS : (VB w.heap.size) W2 w5 := ⟨⟨hS.1.os, hS.1.tape, hS.1.output, hS.1.size, hS.1.block⟩, ⟨hS.2.os, hS.2.tape, hS.2.output, hS.2.size, hS.2.block⟩⟩
          go_simp
          exact hK _ _ ((VisK.refl _ _).alloc _) ⟨_, rfl, Bk.new _ _ _⟩
        refine steps_cons ?_ ?_
        · refine step_guard (d := 126) (b := true) rfl rfl rfl (by kernel_rfl) (fun _ _ _ h => h) ?_
          intro ev w5 hS hc hf hold hval a K ha hK
          have e129 : ev (.tmp 129) = .pointer (some ⟨gl, 0, none⟩) := hval 7 129 (by kernel_rfl) rfl
          have p131 : (fun v w2 => ∃ g, v = .slice (some ⟨g, 0, none⟩) 1 1 ∧ Bk w2 g 23 #[.slice (cutA A1 c1 k 1) m (c1 - k)]) (ev (.tmp 131)) w5 := hval 9 131 (by kernel_rfl) rfl
          replace hS : (VB w.heap.size) W2 w5 := ⟨⟨hS.1.os, hS.1.tape, hS.1.output, hS.1.size, hS.1.block⟩, ⟨hS.2.os, hS.2.tape, hS.2.output, hS.2.size, hS.2.block⟩⟩
          obtain ⟨g131, e131, hb131⟩ := p131
          go_simp
          have hr9 := rd_bk hb131 1 rfl
          refine (TxtCount_any w.heap.size gl t (some ⟨g131, 0, none⟩) 1 1 w5.heap.size [⟨cutA A1 c1 k 1, m, c1 - k, q⟩] q (by simp [catS]) w5 (Ht2.out.vis hS.1).txt hr9 ?_ (Nat.le_refl _) (by omega) (by rw [Hql.out]; have := Hm4.out; omega)).mono ?_
          · intro s hs
            simp at hs
            subst hs
            exact HP.out w5 (Hv2.out.trans hS)
          · rintro e w8 ⟨rfl, hv8⟩
            rw [← Hocc.out]
            exact hK _ _ hv8 rfl
        refine steps_cons ?_ ?_
        · refine step_guard (d := 126) (b := true) rfl rfl rfl (by kernel_rfl) (fun _ _ _ h => h) ?_
          intro ev w5 hS hc hf hold hval a K ha hK
          have e128 : ev (.tmp 128) = .int .i64 (j : Int) := hval 6 128 (by kernel_rfl) rfl
          have e132 : ev (.tmp 132) = .int .i64 (j : Int) := hval 10 132 (by kernel_rfl) rfl
          replace hS : (VB w.heap.size) W2 w5 := ⟨⟨hS.1.os, hS.1.tape, hS.1.output, hS.1.size, hS.1.block⟩, ⟨hS.2.os, hS.2.tape, hS.2.output, hS.2.size, hS.2.block⟩⟩
          go_simp
          exact hK _ _ ((VisK.refl _ _)) rfl
        refine steps_cons ?_ ?_
        · refine step_on rfl rfl ?_
          intro ev w5 hS hc hf hold hval a K ha hK
          have e126 : ev (.tmp 126) = .bool true := hval 4 126 (by kernel_rfl) rfl
          have e133 : ev (.tmp 133) = .bool true := hval 11 133 (by kernel_rfl) rfl
          replace hS : (VB w.heap.size) W2 w5 := ⟨⟨hS.1.os, hS.1.tape, hS.1.output, hS.1.size, hS.1.block⟩, ⟨hS.2.os, hS.2.tape, hS.2.output, hS.2.size, hS.2.block⟩⟩
          go_simp
          exact hK _ _ ((VisK.refl _ _)) rfl
        refine steps_cons ?_ ?_
        · refine step_on rfl rfl ?_
          intro ev w5 hS hc hf hold hval a K ha hK
          have e134 : ev (.tmp 134) = .bool true := hval 12 134 (by kernel_rfl) rfl
          replace hS : (VB w.heap.size) W2 w5 := ⟨⟨hS.1.os, hS.1.tape, hS.1.output, hS.1.size, hS.1.block⟩, ⟨hS.2.os, hS.2.tape, hS.2.output, hS.2.size, hS.2.block⟩⟩
          go_simp
          exact hK _ _ ((VisK.refl _ _)) rfl
        refine steps_cons ?_ ?_
        · refine step_guard (d := 135) (b := true) rfl rfl rfl (by kernel_rfl) (fun _ _ _ h => h) ?_
          intro ev w5 hS hc hf hold hval a K ha hK
          have e8 : ev (.tmp 8) = .pointer (some ⟨gl, 0, none⟩) := hold 8 (by kernel_rfl)
          replace hS : (VB w.heap.size) W2 w5 := ⟨⟨hS.1.os, hS.1.tape, hS.1.output, hS.1.size, hS.1.block⟩, ⟨hS.2.os, hS.2.tape, hS.2.output, hS.2.size, hS.2.block⟩⟩
          go_simp
          exact hK _ _ ((VisK.refl _ _)) rfl
        refine steps_cons ?_ ?_
        · refine step_guard (d := 135) (b := true) rfl rfl rfl (by kernel_rfl) (fun _ _ _ h => h) ?_
          intro ev w5 hS hc hf hold hval a K ha hK
          have e12 : ev (.tmp 12) = .slice (cutA A1 c1 k 1) m (c1 - k) := hold 12 (by kernel_rfl)
          replace hS : (VB w.heap.size) W2 w5 := ⟨⟨hS.1.os, hS.1.tape, hS.1.output, hS.1.size, hS.1.block⟩, ⟨hS.2.os, hS.2.tape, hS.2.output, hS.2.size, hS.2.block⟩⟩
          go_simp
          exact hK _ _ ((VisK.refl _ _)) rfl
        refine steps_cons ?_ ?_
        · refine step_guard (d := 135) (b := true) rfl rfl rfl (by kernel_rfl) (fun _ _ _ h => h) ?_
          intro ev w5 hS hc hf hold hval a K ha hK
          have e137 : ev (.tmp 137) = .slice (cutA A1 c1 k 1) m (c1 - k) := hval 15 137 (by kernel_rfl) rfl
          replace hS : (VB w.heap.size) W2 w5 := ⟨⟨hS.1.os, hS.1.tape, hS.1.output, hS.1.size, hS.1.block⟩, ⟨hS.2.os, hS.2.tape, hS.2.output, hS.2.size, hS.2.block⟩⟩
          go_simp
          exact hK _ _ ((VisK.refl _ _).alloc _) ⟨_, rfl, Bk.new _ _ _⟩
        refine steps_cons ?_ ?_
        · refine step_guard (d := 135) (b := true) rfl rfl rfl (by kernel_rfl) (fun _ _ _ h => h) ?_
          intro ev w5 hS hc hf hold hval a K ha hK
          have e136 : ev (.tmp 136) = .pointer (some ⟨gl, 0, none⟩) := hval 14 136 (by kernel_rfl) rfl
          have p138 : (fun v w2 => ∃ g, v = .slice (some ⟨g, 0, none⟩) 1 1 ∧ Bk w2 g 23 #[.slice (cutA A1 c1 k 1) m (c1 - k)]) (ev (.tmp 138)) w5 := hval 16 138 (by kernel_rfl) rfl
          replace hS : (VB w.heap.size) W2 w5 := ⟨⟨hS.1.os, hS.1.tape, hS.1.output, hS.1.size, hS.1.block⟩, ⟨hS.2.os, hS.2.tape, hS.2.output, hS.2.size, hS.2.block⟩⟩
          obtain ⟨g138, e138, hb138⟩ := p138
          go_simp
          have hr9 := rd_bk hb138 1 rfl
          refine (First_any w.heap.size gl 6 t (some ⟨g138, 0, none⟩) 1 1 w5.heap.size [⟨cutA A1 c1 k 1, m, c1 - k, q⟩] q (by simp [catS]) w5 (Ht2.out.vis hS.1) hr9 ?_ (Nat.le_refl _) (by omega) (by rw [Hql.out]; have := Hm4.out; omega)).mono ?_
          · intro s hs
            simp at hs
            subst hs
            exact HP.out w5 (Hv2.out.trans hS)
          · rintro e w8 ⟨rfl, hv8⟩
            rw [Hps.out, Hfp.out]
            exact hK _ _ hv8 rfl
        refine steps_cons ?_ ?_
        · refine step_guard (d := 135) (b := true) rfl rfl rfl (by kernel_rfl) (fun _ _ _ h => h) ?_
          intro ev w5 hS hc hf hold hval a K ha hK
          have e13 : ev (.tmp 13) = .slice (some ⟨b8, o8, none⟩) j c8 := hold 13 (by kernel_rfl)
          replace hS : (VB w.heap.size) W2 w5 := ⟨⟨hS.1.os, hS.1.tape, hS.1.output, hS.1.size, hS.1.block⟩, ⟨hS.2.os, hS.2.tape, hS.2.output, hS.2.size, hS.2.block⟩⟩
          go_simp
          exact hK _ _ ((VisK.refl _ _)) rfl
        refine steps_cons ?_ ?_
        · refine step_guard (d := 135) (b := true) rfl rfl rfl (by kernel_rfl) (fun _ _ _ h => h) ?_
          intro ev w5 hS hc hf hold hval a K ha hK
          have e140 : ev (.tmp 140) = .slice (some ⟨b8, o8, none⟩) j c8 := hval 18 140 (by kernel_rfl) rfl
          replace hS : (VB w.heap.size) W2 w5 := ⟨⟨hS.1.os, hS.1.tape, hS.1.output, hS.1.size, hS.1.block⟩, ⟨hS.2.os, hS.2.tape, hS.2.output, hS.2.size, hS.2.block⟩⟩
          have hps := Hpos.out
          go_simp
          exact hK _ _ ((VisK.refl _ _)) rfl
        refine steps_cons ?_ ?_
        · refine step_guard (d := 135) (b := true) rfl rfl rfl (by kernel_rfl) (fun _ _ _ h => h) ?_
          intro ev w5 hS hc hf hold hval a K ha hK
          have e141 : ev (.tmp 141) = .pointer (some ⟨b8, o8, none⟩) := hval 19 141 (by kernel_rfl) rfl
          replace hS : (VB w.heap.size) W2 w5 := ⟨⟨hS.1.os, hS.1.tape, hS.1.output, hS.1.size, hS.1.block⟩, ⟨hS.2.os, hS.2.tape, hS.2.output, hS.2.size, hS.2.block⟩⟩
          have hc := (hS.1.made Hm8W.out (by decide) (by decide)).rd.cellAt (nat_at Ha0.out)
          rw [Nat.add_zero] at hc
          go_simp
          exact hK _ _ ((VisK.refl _ _)) rfl
        refine steps_cons ?_ ?_
        · refine step_guard (d := 135) (b := true) rfl rfl rfl (by kernel_rfl) (fun _ _ _ h => h) ?_
          intro ev w5 hS hc hf hold hval a K ha hK
          have e139 : ev (.tmp 139) = .int .i64 (a0 : Int) := hval 17 139 (by kernel_rfl) rfl
          have e142 : ev (.tmp 142) = .int .i64 (a0 : Int) := hval 20 142 (by kernel_rfl) rfl
          replace hS : (VB w.heap.size) W2 w5 := ⟨⟨hS.1.os, hS.1.tape, hS.1.output, hS.1.size, hS.1.block⟩, ⟨hS.2.os, hS.2.tape, hS.2.output, hS.2.size, hS.2.block⟩⟩
          go_simp
          exact hK _ _ ((VisK.refl _ _)) rfl
        refine steps_cons ?_ ?_
        · refine step_on rfl rfl ?_
          intro ev w5 hS hc hf hold hval a K ha hK
          have e135 : ev (.tmp 135) = .bool true := hval 13 135 (by kernel_rfl) rfl
          have e143 : ev (.tmp 143) = .bool true := hval 21 143 (by kernel_rfl) rfl
          replace hS : (VB w.heap.size) W2 w5 := ⟨⟨hS.1.os, hS.1.tape, hS.1.output, hS.1.size, hS.1.block⟩, ⟨hS.2.os, hS.2.tape, hS.2.output, hS.2.size, hS.2.block⟩⟩
          go_simp
          exact hK _ _ ((VisK.refl _ _)) rfl
        refine steps_cons ?_ ?_
        · refine step_on rfl rfl ?_
          intro ev w5 hS hc hf hold hval a K ha hK
          have e144 : ev (.tmp 144) = .bool true := hval 22 144 (by kernel_rfl) rfl
          replace hS : (VB w.heap.size) W2 w5 := ⟨⟨hS.1.os, hS.1.tape, hS.1.output, hS.1.size, hS.1.block⟩, ⟨hS.2.os, hS.2.tape, hS.2.output, hS.2.size, hS.2.block⟩⟩
          go_simp
          exact hK _ _ ((VisK.refl _ _)) rfl
        exact steps_nil
      · intro ev w6 hS hval
        replace hS : (VB w.heap.size) W2 w6 := ⟨⟨hS.1.os, hS.1.tape, hS.1.output, hS.1.size, hS.1.block⟩, ⟨hS.2.os, hS.2.tape, hS.2.output, hS.2.size, hS.2.block⟩⟩
        have e6 : ev (.tmp 6) = .bool true := hval 23 6 rfl
        simp only [putsOf, List.foldl_cons, List.foldl_nil, Act.put, List.setIfInBounds_toArray, List.set_cons_zero, List.set_cons_succ]
        rw [e6]
        clear hval
        have hb0 := Hb2.out.trans (VB.to_below hS Hb2.out.size)
        go_wp2_with fail
        go_ret
        exact ⟨rfl, hb0⟩
end Go.Proofs.YtmgiljicjjcjlaaGreat
