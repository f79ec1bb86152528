/- The walk of the law RunBack. No conditions. -/
import Derived.Test.YthcoldomeedbnaaRunSyms
namespace Go.Proofs.Ythcoldomeedbnaa
open Go.RowKit
set_option linter.unusedVariables false
theorem runs_mem (m : List Int) (x : Int × Nat) (h : x ∈ runsOf m) : x.1 ∈ m := by
  have h1 := (runsOf_ok m).1 x h
  have h2 : x.1 ∈ expand (runsOf m) := List.mem_flatMap.2 ⟨x, h, List.mem_replicate.2 ⟨by omega, rfl⟩⟩
  rwa [expand_runs] at h2
theorem byte_of (z : Int) (h0 : 0 ≤ z) (h1 : z < 256) : ∃ c : UInt8, Value.int .u8 z = bv c :=
  ⟨UInt8.ofNat z.toNat, int_eq (by rw [UInt8.toNat_ofNat']; omega)⟩
set_option maxRecDepth 100000 in
set_option maxHeartbeats 2000000 in
theorem walkRunBack (w : World) (A0 : Option Addr) (m0 c0 : Nat) (l : List Int) (hr0 : Rd w w.heap.size 1 A0 m0 (l.map iv)) (hbd : ∀ x ∈ l, -9223372036854775808 ≤ x ∧ x ≤ 9223372036854775807) (hmc0 : m0 ≤ c0) (hcl0 : c0 ≤ maxLen) (cut : Int) (hcut : (Lit.int .i64 cut).wf = true) :
    Calls Try.prog 14 #[.slice A0 m0 c0, .int .i64 cut] w fun e w' => e = .returned (.bool true) ∧ Below w.heap.size w w' := by
  obtain ⟨i0, hi0, hz0, hz1, hz2⟩ := info_parts u8_info
  have Hr0 := Lib.hid hr0
  clear hr0 hcut
  go_enter Try.func14, Try.ntmps14
  go_wp2_with fail
  refine (Syms_any _ _ _ l _ Hr0.out (by omega)).mono ?_
  rintro e w1 ⟨m, n, A1, c1, rfl, hmn, hn, hsy, hm1, hb1⟩
  have hs1 := hb1.size
  have Hr1 := Lib.hid hm1.rd
  clear hm1 Hr0
  obtain ⟨r, hr⟩ : ∃ r, runsOf m = r := ⟨_, rfl⟩
  obtain ⟨q, hq⟩ : ∃ q, r.length = q := ⟨_, rfl⟩
  have hqn : q ≤ n := by rw [← hq, ← hr, ← hmn]; exact runsOf_len m
  have hsy2 : ∀ x ∈ runsOf m, symOk x.1 := fun x hx => hsy _ (runs_mem m x hx)
  obtain ⟨bs, hbs⟩ : ∃ bs, runBytes (runsOf m) = bs := ⟨_, rfl⟩
  have hput : putRuns m = some bs := by rw [putRuns, if_pos hsy2, hbs]
  obtain ⟨p, hp⟩ : ∃ p, bs.length = p := ⟨_, rfl⟩
  have hp0 : 0 < p := by rw [← hp, ← hbs, runBytes, List.length_append, encB, List.length_append]; simp; omega
  have hp1 : p ≤ 5000 := by
    have h1 := encB_len (runsOf m).length
    have h2 := flatRun_len (runsOf m)
    rw [← hp, ← hbs, runBytes, List.length_append, hr, hq]
    rw [hr, hq] at h1 h2
    omega
  have hexp : expand r = m := by rw [← hr, expand_runs]
  have hall : allRuns (castRuns r) = m := by rw [allRuns_cast r (by rw [hexp]; omega), hexp]
  have hokr : RunsOk r := hr ▸ runsOf_ok m
  have hcnt : ∀ x ∈ r, x.2 ≤ 200 := fun x hx => by have := runsOf_mem m x (hr ▸ hx); omega
  have hg1 : getRuns bs (n : Int) = (m, 0) := by
    have := getRuns_back m hsy2 (by omega) (n : Int) (by omega) []
    rw [if_pos rfl, List.append_nil, hbs] at this
    exact this
  have hg2 : 0 < n → getRuns bs ((n : Int) - 1) = ([], 3) := fun h => by
    have := getRuns_full m hsy2 (by omega) ((n : Int) - 1) (by omega) (by omega)
    rwa [hbs] at this
  have hg3 : ∀ k, k < p → getRuns (bs.take k) (n : Int) = ([], 4) := fun k hk => by
    have := getRuns_cut m hsy2 (by omega) (n : Int) (by omega) k (by rw [hbs, hp]; exact hk)
    rwa [hbs] at this
  have hg4 : ∀ c : UInt8, getRuns (bs ++ [c]) (n : Int) = ([], 4) := fun c => by
    have := getRuns_back m hsy2 (by omega) (n : Int) (by omega) [c]
    rw [if_neg (by simp), hbs] at this
    exact this
  have Hr' := Lib.hid hr
  have Hq := Lib.hid hq
  have Hput := Lib.hid hput
  have Hp := Lib.hid hp
  have Hall := Lib.hid hall
  have Hokr := Lib.hid hokr
  have Hcnt := Lib.hid hcnt
  have Hg1 := Lib.hid hg1
  have Hg2 := Lib.hid hg2
  have Hg3 := Lib.hid hg3
  have Hg4 := Lib.hid hg4
  have Hmn := Lib.hid hmn
  clear hr hq hsy hsy2 hbs hput hp hexp hall hokr hcnt hg1 hg2 hg3 hg4 hmn
  go_wp2_with fail
  refine (RunOf_is _ _ _ _ m _ r q Hr'.out Hq.out Hr1.out (Nat.le_refl _) (by omega)).mono ?_
  rintro e w2 ⟨A2, c2, rfl, hm2, hb2⟩
  have hB2 := hb1.trans (hb2.mono hs1)
  have Hr2 := Lib.hid hm2.rd
  have Hr1 := Lib.hid (Hr1.out.below hb2 |>.mono hb2.size)
  have hs2 := hB2.size
  clear hm2 hb2 hb1
  go_wp2_with fail
  refine (RunPut_ok _ _ _ _ m _ bs p Hput.out Hp.out Hr1.out (Nat.le_refl _) (by omega)).mono ?_
  rintro e w3 ⟨A3, c3, rfl, hm3, hb3⟩
  have hB3 := hB2.trans (hb3.mono hs2)
  have Hr1 := Lib.hid (Hr1.out.below hb3 |>.mono hb3.size)
  have Hr2 := Lib.hid (Hr2.out.below hb3 |>.mono hb3.size)
  have Hr3 := Lib.hid hm3.rd
  have hc3 := hm3.cap
  have hx3 := hm3.max
  have hs3 := hB3.size
  clear hm3 hb3 hB2
  have hp00 : ((p : Int) == 0) = false := by rw [beq_eq_false_iff_ne]; omega
  go_wp2_with fail
  refine (RunAll_is _ _ _ _ (castRuns r) _ m n Hall.out Hmn.out (by rw [run2Cells_cast]; exact Hr2.out) (Nat.le_refl _) (by omega)).mono ?_
  rintro e w4 ⟨A4, c4, rfl, hm4, hb4⟩
  have hB4 := hB3.trans (hb4.mono hs3)
  have Hr1 := Lib.hid (Hr1.out.below hb4 |>.mono hb4.size)
  have Hr2 := Lib.hid (Hr2.out.below hb4 |>.mono hb4.size)
  have Hr3 := Lib.hid (Hr3.out.below hb4 |>.mono hb4.size)
  have Hr4 := Lib.hid hm4.rd
  have hs4 := hB4.size
  clear hm4 hb4 hB3
  go_wp2_with fail
  refine (Same_any _ _ _ _ _ _ _ m m _ Hr4.out Hr1.out (by unfold maxLen; omega) (by unfold maxLen; omega)).mono ?_
  rintro e w5 ⟨rfl, hb5⟩
  have hB5 := hB4.trans (hb5.mono hs4)
  have Hr1 := Lib.hid (Hr1.out.below hb5 |>.mono hb5.size)
  have Hr2 := Lib.hid (Hr2.out.below hb5 |>.mono hb5.size)
  have Hr3 := Lib.hid (Hr3.out.below hb5 |>.mono hb5.size)
  have hs5 := hB5.size
  clear hb5 hB4 Hr4
  have hdec : decide (m = m) = true := by simp
  rw [hdec]
  clear hdec
  go_wp2_with fail
  go_loopw [9] (fun i wr => ∃ k : Nat, k ≤ q ∧ i = .int .i64 k ∧ Below w.heap.size w wr ∧ Below w5.heap.size w5 wr) (fun i _ => q - (intOf i).toNat)
  case atStart => exact ⟨0, Nat.zero_le _, rfl, hB5, Below.refl _ _⟩
  case round =>
    obtain ⟨k, hk, rfl, hb, hc⟩ := hrel
    by_cases hlt : k < q
    · obtain ⟨x, hx⟩ : ∃ x, r[k]? = some x := ⟨r[k]'(by have := Hq.out; omega), List.getElem?_eq_getElem (by have := Hq.out; omega)⟩
      have hx1 := Hokr.out.1 x (List.mem_of_getElem? hx)
      have hx2 := Hcnt.out x (List.mem_of_getElem? hx)
      obtain ⟨b, off, rfl, hbl, hcell⟩ := (Hr2.out.below hc).2 (by omega)
      obtain ⟨s, c⟩ := x
      simp only at hx1 hx2
      have d0 : wr.cell? ⟨b, off + k * 2, none⟩ = some (.int .i64 s) := hcell (k * 2 + 0) _ ((runCells_get r k 0 _ hx (by omega)).trans rfl)
      have d1 : wr.cell? ⟨b, off + k * 2 + 1, none⟩ = some (.int .i64 (c : Int)) := by rw [Nat.add_assoc]; exact hcell (k * 2 + 1) _ ((runCells_get r k 1 _ hx (by omega)).trans rfl)
      have t1 : decide ((c : Int) < 1) = false := by rw [decide_eq_false_iff_not]; omega
      by_cases hk0 : k = 0
      · subst hk0
        clear hcell hx
        go_wp2
        go_quiet (fail)
        go_wp2
        go_roundw
        case rel => exact ⟨1, by omega, by go_num, below_drewN hb _, below_drewN hc _⟩
        case measure => simp [intOf]; omega
      · obtain ⟨j, hj⟩ : ∃ j, k = j + 1 := ⟨k - 1, by omega⟩
        obtain ⟨y, hy⟩ : ∃ y, r[j]? = some y := ⟨r[j]'(by have := Hq.out; omega), List.getElem?_eq_getElem (by have := Hq.out; omega)⟩
        have hne := Hokr.out.2.2 j y (s, c) hy (hj ▸ hx)
        have d2 : wr.cell? ⟨b, off + j * 2, none⟩ = some (.int .i64 y.1) := hcell (j * 2 + 0) _ ((runCells_get r j 0 _ hy (by omega)).trans rfl)
        have hjj : (k : Int) - 1 = (j : Int) := by omega
        have t2 : decide ((k : Int) > 0) = true := by rw [decide_eq_true_iff]; omega
        have t3 : (s == y.1) = false := by rw [beq_eq_false_iff_ne]; exact fun h => hne h.symm
        have hjq : j < q := by omega
        have hj1 : 0 < k := by omega
        have hj2 : (0 : Int) < (k : Int) := by omega
        have t4 : decide ((0 : Int) < (k : Int)) = true := by rw [decide_eq_true_iff]; omega
        obtain ⟨y1, y2⟩ := y
        simp only at d2 t3
        clear hcell hx hy hne hj
        go_wp2
        go_quiet (fail)
        go_wp2
        go_roundw
        case rel => exact ⟨k + 1, by omega, by go_num, below_drewN hb _, below_drewN hc _⟩
        case measure => simp [intOf]; omega
    · have hge : q ≤ k := by omega
      have hs6 := hb.size
      have Hr1 := Lib.hid (Hr1.out.below hc |>.mono hc.size)
      have Hr3 := Lib.hid (Hr3.out.below hc |>.mono hc.size)
      clear hc hB5 hs5 Hr2
      go_wp2_with fail
      refine (RunGet_is _ _ _ _ bs (n : Int) _ m n 0 Hg1.out Hmn.out Hr3.out (Nat.le_refl _) hc3 hx3 (by omega) (by omega)).mono ?_
      rintro e w7 ⟨A7, c7, rfl, hm7, hb7⟩
      have hB7 := hb.trans (hb7.mono hs6)
      have hs7 := hB7.size
      have Hr1 := Lib.hid (Hr1.out.below hb7 |>.mono hb7.size)
      have Hr3 := Lib.hid (Hr3.out.below hb7 |>.mono hb7.size)
      have Hr7 := Lib.hid hm7.rd
      clear hb7 hm7 hb
      obtain ⟨l8, n8, e8, hg8, hn8, hle8, he8⟩ : ∃ (l8 : List Int) (n8 : Nat) (e8 : Int), getRuns bs ((n : Int) - 1) = (l8, e8) ∧ l8.length = n8 ∧ n8 ≤ 200 ∧ (e8 = 3 ∨ (e8 = 0 ∧ n = 0)) := by
        by_cases h0 : n = 0
        · subst h0
          exact ⟨m, 0, 0, Hg1.out, Hmn.out, by omega, .inr ⟨rfl, rfl⟩⟩
        · exact ⟨[], 0, 3, Hg2.out (by omega), rfl, by omega, .inl rfl⟩
      have Hg8 := Lib.hid hg8
      have Hn8 := Lib.hid hn8
      have He8 := Lib.hid he8
      clear hg8 hn8 he8
      go_wp2_with fail
      refine (RunGet_is _ _ _ _ bs ((n : Int) - 1) _ l8 n8 e8 Hg8.out Hn8.out Hr3.out (Nat.le_refl _) hc3 hx3 (by omega) (by omega)).mono ?_
      rintro e w8 ⟨A8, c8, rfl, hm8, hb8⟩
      have hB8 := hB7.trans (hb8.mono hs7)
      have hs8 := hB8.size
      have Hr1 := Lib.hid (Hr1.out.below hb8 |>.mono hb8.size)
      have Hr3 := Lib.hid (Hr3.out.below hb8 |>.mono hb8.size)
      have Hr7 := Lib.hid (Hr7.out.below hb8 |>.mono hb8.size)
      clear hb8 hm8 hB7
      obtain ⟨kc, hkc, hkc1⟩ := umod_ex cut (p : Int) (by omega)
      go_wp2_with fail
      have hkp : kc < p := by omega
      refine (RunGet_is _ _ _ _ (bs.take kc) (n : Int) _ [] 0 4 (Hg3.out kc hkp) rfl (by have := Hr3.out.cut_hi (k := kc) (by omega); rw [Nat.mul_one, ← List.map_take] at this; exact this) (Nat.le_refl _) (by omega) hx3 (by omega) (by omega)).mono ?_
      rintro e w9 ⟨A9, c9, rfl, hm9, hb9⟩
      have hB9 := hB8.trans (hb9.mono hs8)
      have hs9 := hB9.size
      have Hr1 := Lib.hid (Hr1.out.below hb9 |>.mono hb9.size)
      have Hr3 := Lib.hid (Hr3.out.below hb9 |>.mono hb9.size)
      have Hr7 := Lib.hid (Hr7.out.below hb9 |>.mono hb9.size)
      clear hb9 hm9 hB8
      go_wp2_with (first
        | (at_builtin; refine wpList_append_rd _ rfl (.tmp 104) (.tmp 105) _ rfl w9.heap.size 5 i0 (.int .u8 0) 1 1 Try.underlying33 hi0 hz0 hz1 hz2 rfl (by decide) (.slice (some ⟨w9.heap.size, 0, none⟩) 0 0) 0 [] rfl (own_empty w9 5 1) w9.heap.size A3 p c3 _ rfl (Hr3.out.alloc (Nat.le_refl _) _) (oneCell_bv _) (by unfold maxLen; omega) (by omega) (by simp) ?_; intro v5 w10 hown5 hg5 hat5; rw [Nat.zero_add] at hown5; have hB10 := below_grown ((Below.refl w9.heap.size w9).alloc (Nat.le_refl _) _) (own_empty w9 5 1) hg5 (by simp); have hs10 := hB10.size)
        | (at_builtin; refine wpList_push _ rfl (.tmp 106) (.tmp 109) _ rfl w9.heap.size 5 i0 (.int .u8 0) 1 1 Try.underlying33 hi0 hz0 hz1 hz2 rfl (by decide) v5 p _ rfl hown5 rfl rfl (by simp [Value.oneCell']) (by unfold maxLen; omega) (by omega) hs10 ?_; intro v6 w11 hown6 hg6 hs6 hat6; have hB11 := below_grown hB10 hown5 hg6 hs10; obtain ⟨A6, c6, rfl, hm6⟩ := made_of_own hown6; clear hg6 hg5 hat5 hat6 hown6 hown5 hB10))
      have hB12 := hB9.trans (hB11.mono hs9)
      have hs12 := hB12.size
      have Hr1 := Lib.hid (Hr1.out.below hB11 |>.mono hB11.size)
      have Hr7 := Lib.hid (Hr7.out.below hB11 |>.mono hB11.size)
      obtain ⟨cb, hcb⟩ := byte_of (cut % 256) (by omega) (by omega)
      have hm6' : Made w11 w9.heap.size 5 1 A6 (p + 1) c6 ((bs ++ [cb]).map bv) := by
        rw [List.map_append, List.map_cons, List.map_nil, ← hcb]
        exact hm6
      have Hr6 := Lib.hid hm6'.rd
      have hc6 := hm6'.cap
      have hx6 := hm6'.max
      clear hm6 hm6' hB11 hB9 hcb
      refine (RunGet_is _ _ _ _ (bs ++ [cb]) (n : Int) _ [] 0 4 (Hg4.out cb) rfl Hr6.out (Nat.le_refl _) hc6 hx6 (by omega) (by omega)).mono ?_
      rintro e w13 ⟨A13, c13, rfl, hm13, hb13⟩
      have hB13 := hB12.trans (hb13.mono hs12)
      have hs13 := hB13.size
      have Hr1 := Lib.hid (Hr1.out.below hb13 |>.mono hb13.size)
      have Hr7 := Lib.hid (Hr7.out.below hb13 |>.mono hb13.size)
      clear hb13 hm13 hB12 Hr3 Hr6
      go_wp2_with fail
      refine (told18_any _).mono ?_
      rintro e w14 ⟨rfl, hb14⟩
      have hB14 := hB13.trans (hb14.mono hs13)
      have hs14 := hB14.size
      have Hr1 := Lib.hid (Hr1.out.below hb14 |>.mono hb14.size)
      have Hr7 := Lib.hid (Hr7.out.below hb14 |>.mono hb14.size)
      clear hb14 hB13
      go_wp2_with fail
      refine (Same_any _ _ _ _ _ _ _ m m _ Hr7.out Hr1.out (by unfold maxLen; omega) (by unfold maxLen; omega)).mono ?_
      rintro e w15 ⟨rfl, hb15⟩
      have hB15 := hB14.trans (hb15.mono hs14)
      clear hb15 hB14 Hr1 Hr7
      have hdec : decide (m = m) = true := by simp
      rw [hdec]
      clear hdec
      have ht : (e8 == 3 || (n : Int) == 0) = true := by
        rcases He8.out with h | ⟨_, h⟩
        · rw [h]; rfl
        · rw [h]; simp
      have he3 : e8 = 3 ∨ (e8 == 3) = false := by
        by_cases h : e8 = 3
        · exact .inl h
        · exact .inr (by rw [beq_eq_false_iff_ne]; exact h)
      rcases he3 with h3 | h3
      · subst h3
        go_wp2_with fail
        go_ret
        exact ⟨ret_bool (by simp), hB15⟩
      · have hn0 : n = 0 := by
          rcases He8.out with h | ⟨_, h⟩
          · rw [h] at h3; cases h3
          · exact h
        subst hn0
        go_wp2_with fail
        go_ret
        exact ⟨ret_bool (by simp), hB15⟩
end Go.Proofs.Ythcoldomeedbnaa
