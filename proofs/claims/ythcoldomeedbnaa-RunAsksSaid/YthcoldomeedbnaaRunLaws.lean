/- The walks of scrimshawref6.Same, scrimshawlaw18.Syms and of the law RunReads. No conditions. -/
import Derived.Test.YthcoldomeedbnaaRunTold
namespace Go.Proofs.Ythcoldomeedbnaa
open Go.RowKit
set_option linter.unusedVariables false
set_option maxRecDepth 100000 in
set_option maxHeartbeats 1000000 in
theorem Same_any (A1 A2 : Option Addr) (m1 c1 m2 c2 B : Nat) (l1 l2 : List Int) (w : World) (h1 : Rd w B 1 A1 m1 (l1.map iv)) (h2 : Rd w B 1 A2 m2 (l2.map iv)) (hm1 : m1 ≤ maxLen) (hm2 : m2 ≤ maxLen) :
    Calls Try.prog 41 #[.slice A1 m1 c1, .slice A2 m2 c2] w fun e w' => e = .returned (.bool (decide (l1 = l2))) ∧ Below w.heap.size w w' := by
  unfold maxLen at hm1 hm2
  have e1 : l1.length = m1 := by simpa using h1.1
  have e2 : l2.length = m2 := by simpa using h2.1
  have H1 := Lib.hid h1
  have H2 := Lib.hid h2
  have E1 := Lib.hid e1
  have E2 := Lib.hid e2
  by_cases hm : m1 = m2
  · subst hm
    clear h1 h2 e1 e2
    go_enter Try.func41, Try.ntmps41
    go_wp2
    go_loopw [5] (fun i wr => ∃ k : Nat, k ≤ m1 ∧ i = .int .i64 k ∧ l1.take k = l2.take k ∧ Below w.heap.size w wr ∧ (∀ b off, wr.cell? ⟨b, off, none⟩ = w.cell? ⟨b, off, none⟩)) (fun i _ => m1 - (intOf i).toNat)
    case atStart => exact ⟨0, Nat.zero_le _, rfl, rfl, Below.refl _ _, fun _ _ => rfl⟩
    case round =>
      obtain ⟨k, hk, rfl, heq, hb, hcell⟩ := hrel
      have Heq := Lib.hid heq
      have Hcell := Lib.hid hcell
      clear heq hcell
      by_cases hlt : k < m1
      · obtain ⟨x, hx⟩ : ∃ x, l1[k]? = some x := ⟨l1[k]'(by have := E1.out; omega), List.getElem?_eq_getElem (by have := E1.out; omega)⟩
        obtain ⟨y, hy⟩ : ∃ y, l2[k]? = some y := ⟨l2[k]'(by have := E2.out; omega), List.getElem?_eq_getElem (by have := E2.out; omega)⟩
        obtain ⟨b1, o1, u1, rfl, hb1, hu1, hc1⟩ := H1.out.get hlt
        obtain ⟨b2, o2, u2, rfl, hb2, hu2, hc2⟩ := H2.out.get hlt
        rw [List.getElem?_map, hx] at hu1
        rw [List.getElem?_map, hy] at hu2
        simp at hu1 hu2
        subst hu1 hu2
        unfold iv at hc1 hc2
        have d1 : wr.cell? ⟨b1, o1 + k, none⟩ = some (.int .i64 x) := (Hcell.out _ _).trans hc1
        have d2 : wr.cell? ⟨b2, o2 + k, none⟩ = some (.int .i64 y) := (Hcell.out _ _).trans hc2
        have hk0 : (0 : Int) ≤ (k : Int) := by omega
        have hk1 : (k : Int) < (m1 : Int) := by omega
        have hkl1 : k < l1.length := by have := E1.out; omega
        have hkl2 : k < l2.length := by have := E2.out; omega
        have hx' : l1[k] = x := (List.getElem?_eq_some_iff.1 hx).2
        have hy' : l2[k] = y := (List.getElem?_eq_some_iff.1 hy).2
        have hnext : x = y → l1.take (k + 1) = l2.take (k + 1) := fun h => by
          rw [List.take_succ_eq_append_getElem hkl1, List.take_succ_eq_append_getElem hkl2, hx', hy', Heq.out, h]
        have hnot : x ≠ y → l1 ≠ l2 := fun h h' => by subst h'; rw [hx'] at hy'; exact h hy'
        have Hnext := Lib.hid hnext
        have Hnot := Lib.hid hnot
        clear hc1 hc2 hx hy hx' hy' hnext hnot hkl1 hkl2
        by_cases hxy : x = y
        · have ht : (x == y) = true := by rw [beq_iff_eq]; exact hxy
          have Hxy := Lib.hid hxy
          clear hxy
          go_wp2
          go_quiet (fail)
          go_wp2
          go_roundw
          case rel => exact ⟨k + 1, by omega, by go_num, Hnext.out Hxy.out, below_drewN hb _, Hcell.out⟩
          case measure => simp [intOf]; omega
        · have ht : (x == y) = false := by rw [beq_eq_false_iff_ne]; exact hxy
          have Hxy := Lib.hid hxy
          clear hxy
          go_wp2
          go_quiet (fail)
          go_wp2
          go_ret
          exact ⟨ret_bool (by simp; exact Hnot.out Hxy.out), below_drewN hb _⟩
      · have hge : m1 ≤ k := by omega
        go_wp2
        go_ret
        refine ⟨ret_bool ?_, hb⟩
        have := Heq.out
        rw [List.take_of_length_le (by have := E1.out; omega), List.take_of_length_le (by have := E2.out; omega)] at this
        simp [this]
  · have hne : l1 ≠ l2 := fun h => hm (by rw [← e1, ← e2, h])
    have ht : ((m1 : Int) == (m2 : Int)) = false := by rw [beq_eq_false_iff_ne]; omega
    have Hne := Lib.hid hne
    clear h1 h2 e1 e2 hm hne
    go_enter Try.func41, Try.ntmps41
    go_wp2
    go_ret
    exact ⟨ret_bool (by simp; exact Hne.out), Below.refl _ _⟩
theorem str_at {w W : World} {A : Option Addr} {n : Nat} {l : List UInt8} (h : Rd w w.heap.size 1 A n (l.map bv)) (hb : Below w.heap.size w W) (c : Nat) : (convert 33 9 (.slice A n c)).run Try.prog W = .ok (.string ⟨l.toArray⟩) W :=
  run_str_rd (P := Try.prog) 33 9 5 Try.underlying33 Try.underlying5 Try.underlying9 (h.below hb)
set_option maxRecDepth 100000 in
set_option maxHeartbeats 1000000 in
theorem walkRunReads (w : World) (A0 : Option Addr) (m0 c0 : Nat) (b : List UInt8) (hr0 : Rd w w.heap.size 1 A0 m0 (b.map bv)) (hmc0 : m0 ≤ c0) (hcl0 : c0 ≤ maxLen) :
    Calls Try.prog 16 #[.slice A0 m0 c0] w fun e w' => e = .returned (.bool true) ∧ Below w.heap.size w w' := by
  have hll : b.length = m0 := by simpa using hr0.1
  have Hll := Lib.hid hll
  have Hr0 := Lib.hid hr0
  have hB0 := Below.refl w.heap.size w
  clear hll hr0
  by_cases h60 : m0 ≤ 60
  · obtain ⟨l, e, hg⟩ : ∃ l e, getRuns b 5000 = (l, e) := ⟨_, _, rfl⟩
    have hlen := getRuns_len b 5000 l e hg
    obtain ⟨n, hn⟩ : ∃ n, l.length = n := ⟨_, rfl⟩
    rw [hn] at hlen
    have hn5 : n ≤ 5000 := by omega
    have Hg := Lib.hid hg
    have Hn := Lib.hid hn
    by_cases he : e = 0
    · subst he
      have hput := getRuns_read b 5000 l hg
      have Hput := Lib.hid hput
      clear hg hput hn hlen
      go_enter Try.func16, Try.ntmps16
      go_wp2_with fail
      refine (RunGet_is _ _ _ _ b 5000 _ l n 0 Hg.out Hn.out Hr0.out (Nat.le_refl _) hmc0 hcl0 (by omega) (by omega)).mono ?_
      rintro e w1 ⟨A1, c1, rfl, hm1, hb1⟩
      have Hr1 := Lib.hid hm1.rd
      have hs1 := hb1.size
      clear hm1
      go_wp2_with fail
      refine (RunPut_ok _ _ _ _ l _ b m0 Hput.out Hll.out Hr1.out (Nat.le_refl _) (by omega)).mono ?_
      rintro e w2 ⟨A2, c2, rfl, hm2, hb2⟩
      have hB2 := hb1.trans (hb2.mono hs1)
      have hs2 := hB2.size
      have Hr2 := Lib.hid hm2.rd
      clear hm2 hb2 hb1
      go_wp2_with fail
      refine (told18_any _).mono ?_
      rintro e w3 ⟨rfl, hb3⟩
      have hB3 := hB2.trans (hb3.mono hs2)
      have t1 := str_at Hr2.out hb3 c2
      have t2 := str_at Hr0.out hB3 c0
      clear hb3 hB2
      go_wp2_with fail
      go_ret
      exact ⟨ret_bool (by simp), hB3⟩
    · obtain ⟨hl0, hcodes⟩ := getRuns_codes b 5000 l e hg he
      have hn0 : n = 0 := by rw [← hn, hl0]; rfl
      subst hn0
      clear hg hn hlen hl0
      have main : ∀ e : Int, (e = 4 ∨ e = 3) → Hid (getRuns b 5000 = (l, e)) → Calls Try.prog 16 #[.slice A0 m0 c0] w fun e w' => e = .returned (.bool true) ∧ Below w.heap.size w w' := by
        intro e he Hg
        rcases he with rfl | rfl
        all_goals
          go_enter Try.func16, Try.ntmps16
          go_wp2_with fail
          refine (RunGet_is _ _ _ _ b 5000 _ l 0 _ Hg.out Hn.out Hr0.out (Nat.le_refl _) hmc0 hcl0 (by omega) (by omega)).mono ?_
          rintro e w1 ⟨A1, c1, rfl, hm1, hb1⟩
          have hs1 := hb1.size
          clear hm1
          go_wp2_with fail
          refine (told18_any _).mono ?_
          rintro e w3 ⟨rfl, hb3⟩
          have hB3 := hb1.trans (hb3.mono hs1)
          clear hb3 hb1
          go_wp2_with fail
          go_ret
          exact ⟨rfl, hB3⟩
      exact main e hcodes Hg
  · go_enter Try.func16, Try.ntmps16
    go_wp2_with fail
    refine (told18_any _).mono ?_
    rintro e w3 ⟨rfl, hb3⟩
    go_wp2_with fail
    go_ret
    exact ⟨rfl, hb3⟩
set_option maxRecDepth 100000 in
set_option maxHeartbeats 400000 in
theorem walkRunLong (w : World) (s : Int) (hs : (Lit.int .i64 s).wf = true) (n : Int) (hn : (Lit.int .i64 n).wf = true) :
    Calls Try.prog 15 #[.int .i64 s, .int .i64 n] w fun e w' => e = .returned (.bool true) ∧ Below w.heap.size w w' := by
  obtain ⟨i0, hi0, hz0, hz1, hz2⟩ := info_parts int_info
  obtain ⟨c, hc, hc1⟩ := umod_ex s 257 (by omega)
  obtain ⟨t, ht, ht1⟩ := umod_ex n 5000 (by omega)
  have hB0 := Below.refl w.heap.size w
  obtain ⟨l, hl⟩ : ∃ l, List.replicate (t + 1) (c : Int) = l := ⟨_, rfl⟩
  have hlen : l.length = t + 1 := by rw [← hl]; simp
  have hrun : runsOf l = [((c : Int), t + 1)] := by rw [← hl]; exact runs_replicate _ _ (by omega)
  have hok : ∀ x ∈ runsOf l, symOk x.1 := by rw [hrun]; intro x hx; rw [List.mem_singleton.1 hx]; exact ⟨by simp, by simpa using hc1⟩
  have hput : putRuns l = some (runBytes [((c : Int), t + 1)]) := by rw [putRuns, if_pos hok, hrun]
  obtain ⟨bs, hbs⟩ : ∃ bs, runBytes [((c : Int), t + 1)] = bs := ⟨_, rfl⟩
  obtain ⟨q, hq⟩ : ∃ q, bs.length = q := ⟨_, rfl⟩
  have hq5 : q ≤ 5 := by
    have h1 : (encB 1).length = 1 := by decide
    have h2 := encB_two c (by omega)
    have h3 := encB_two (t + 1) (by omega)
    rw [← hq, ← hbs]
    simp [runBytes, runByte, h1]
    omega
  have hg1 : getRuns bs (1 + (t : Int)) = (l, 0) := by
    have := getRuns_back l hok (by omega) (1 + (t : Int)) (by omega) []
    rw [if_pos rfl, List.append_nil, hrun, hbs] at this
    exact this
  have hg2 : getRuns bs (1 + (t : Int) - 1) = ([], 3) := by
    have := getRuns_full l hok (by omega) (1 + (t : Int) - 1) (by omega) (by omega)
    rwa [hrun, hbs] at this
  rw [hbs] at hput
  have Hl := Lib.hid hl
  have Hlen := Lib.hid hlen
  have Hrun := Lib.hid hrun
  have Hput := Lib.hid hput
  have Hq := Lib.hid hq
  have Hg1 := Lib.hid hg1
  have Hg2 := Lib.hid hg2
  clear hs hn hl hlen hrun hok hput hbs hq hg1 hg2
  go_enter Try.func15, Try.ntmps15
  go_wp2_with fail
  go_loopw [7, 8] (fun v i wr => ∃ k : Nat, k ≤ t + 1 ∧ i = .int .i64 k ∧ wr.ownsRow w.heap.size 3 1 v k ((List.replicate k (c : Int)).map iv) ∧ Below w.heap.size w wr) (fun _ i _ => t + 1 - (intOf i).toNat)
  case atStart => exact ⟨0, Nat.zero_le _, rfl, World.ownsRow_nil _ _ _ _, Below.refl _ _⟩
  case round =>
    obtain ⟨k, hk, rfl, hown, hb⟩ := hrel
    have hsz := hb.size
    by_cases hlt : k < t + 1
    · go_wp2_with (at_builtin; refine wpList_push _ rfl (.tmp 30) (.tmp 32) _ rfl w.heap.size 3 i0 (.int .i64 0) 1 8 Try.underlying52 hi0 hz0 hz1 hz2 rfl (by decide) u7 k _ rfl hown rfl rfl (by simp [Value.oneCell']) (by unfold maxLen; omega) (by omega) hsz ?_; intro v2 w2 hown2 hg2 hs2 hat2)
      have hb3 := below_grown hb hown hg2 hsz
      clear hg2 hat2
      go_roundw
      case rel =>
        refine ⟨k + 1, by omega, by go_num, ?_, hb3⟩
        rw [List.replicate_succ', List.map_append]
        exact hown2
      case measure => simp [intOf]; omega
    · have hkt : k = t + 1 := by omega
      have hge : t + 1 ≤ k := by omega
      rw [hkt, Hl.out] at hown
      obtain ⟨A1, c1, rfl, hm1⟩ := made_of_own hown
      have Hr1 := Lib.hid hm1.rd
      clear hkt hown hm1
      go_wp2_with fail
      refine (RunOf_is _ _ _ _ l _ [((c : Int), t + 1)] 1 Hrun.out rfl Hr1.out (Nat.le_refl _) (by omega)).mono ?_
      rintro e w2 ⟨A2, c2, rfl, hm2, hb2⟩
      have hB2 := hb.trans (hb2.mono hsz)
      have hs2 := hB2.size
      have Hr2 := Lib.hid hm2.rd
      have Hr12 := Lib.hid (Hr1.out.below hb2 |>.mono hb2.size)
      clear hm2 hb2 hb
      go_wp2_with fail
      refine (RunPut_ok _ _ _ _ l _ bs q Hput.out Hq.out Hr12.out (Nat.le_refl _) (by omega)).mono ?_
      rintro e w3 ⟨A3, c3, rfl, hm3, hb3⟩
      have hB3 := hB2.trans (hb3.mono hs2)
      have hs3 := hB3.size
      have Hr3 := Lib.hid hm3.rd
      have hc3 := hm3.cap
      have hx3 := hm3.max
      have Hr13 := Lib.hid (Hr12.out.below hb3 |>.mono hb3.size)
      have Hr23 := Lib.hid (Hr2.out.below hb3 |>.mono hb3.size)
      clear hm3 hb3 hB2 Hr12 Hr2 Hr1
      go_wp2_with fail
      refine (RunGet_is _ _ _ _ bs (1 + (t : Int)) _ l (t + 1) 0 Hg1.out Hlen.out Hr3.out (Nat.le_refl _) hc3 hx3 (by omega) (by omega)).mono ?_
      rintro e w4 ⟨A4, c4, rfl, hm4, hb4⟩
      have hB4 := hB3.trans (hb4.mono hs3)
      have hs4 := hB4.size
      have Hr4 := Lib.hid hm4.rd
      have Hr14 := Lib.hid (Hr13.out.below hb4 |>.mono hb4.size)
      have Hr24 := Lib.hid (Hr23.out.below hb4 |>.mono hb4.size)
      have Hr34 := Lib.hid (Hr3.out.below hb4 |>.mono hb4.size)
      clear hm4 hb4 hB3 Hr13 Hr23 Hr3
      go_wp2_with fail
      refine (RunGet_is _ _ _ _ bs (1 + (t : Int) - 1) _ [] 0 3 Hg2.out rfl Hr34.out (Nat.le_refl _) hc3 hx3 (by omega) (by omega)).mono ?_
      rintro e w5 ⟨A5, c5, rfl, hm5, hb5⟩
      have hB5 := hB4.trans (hb5.mono hs4)
      have hs5 := hB5.size
      have Hr45 := Lib.hid (Hr4.out.below hb5 |>.mono hb5.size)
      have Hr15 := Lib.hid (Hr14.out.below hb5 |>.mono hb5.size)
      have Hr25 := Lib.hid (Hr24.out.below hb5 |>.mono hb5.size)
      clear hm5 hb5 hB4 Hr4 Hr14 Hr24 Hr34
      go_wp2_with fail
      refine (told18_any _).mono ?_
      rintro e w6 ⟨rfl, hb6⟩
      have hB6 := hB5.trans (hb6.mono hs5)
      have Hr46 := Lib.hid (Hr45.out.below hb6 |>.mono hb6.size)
      have Hr16 := Lib.hid (Hr15.out.below hb6 |>.mono hb6.size)
      obtain ⟨b2, o2, rfl, hl2, hcell2⟩ := Hr25.out.2 (by omega)
      have d0 : w6.cell? ⟨b2, o2, none⟩ = some (.int .i64 (c : Int)) := (hb6.cell hl2).trans (hcell2 0 _ rfl)
      have d1 : w6.cell? ⟨b2, o2 + 1, none⟩ = some (.int .i64 (1 + (t : Int))) := by
        have h1 : w6.cell? ⟨b2, o2 + 1, none⟩ = some (.int .i64 ((t + 1 : Nat) : Int)) := (hb6.cell hl2).trans (hcell2 1 _ rfl)
        rw [h1, show ((t + 1 : Nat) : Int) = 1 + (t : Int) by omega]
      have hs6 := hB6.size
      clear hcell2 hb6 hB5 Hr45 Hr15 Hr25
      go_wp2_with fail
      refine (Same_any _ _ _ _ _ _ _ l l _ Hr46.out Hr16.out (by unfold maxLen; omega) (by unfold maxLen; omega)).mono ?_
      rintro e w7 ⟨rfl, hb7⟩
      have hB7 := hB6.trans (hb7.mono hs6)
      clear hb7 hB6
      go_wp2_with fail
      go_ret
      exact ⟨ret_bool (by simp), hB7⟩
end Go.Proofs.Ythcoldomeedbnaa
