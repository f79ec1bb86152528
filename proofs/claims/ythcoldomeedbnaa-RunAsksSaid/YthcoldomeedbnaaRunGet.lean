/- The walk of run.Get. Condition: the most is at most 2^40. -/
import Derived.Test.YthcoldomeedbnaaRunPut
namespace Go.Proofs.Ythcoldomeedbnaa
open Go.RowKit
set_option linter.unusedVariables false
/-- What run.Get tells: symbols and 0, or nil and a code. -/
def GetTold (w w' : World) (o : List Int × Int) (e : Ending) : Prop :=
  ∃ A c, e = .returned (.tuple #[.slice A o.1.length c, .int .i64 o.2]) ∧ Made w' w.heap.size 3 1 A o.1.length c (o.1.map iv)
theorem told_nil {w w' : World} {o : List Int × Int} {k : Int} (h : ([], k) = o) : GetTold w w' o (.returned (.tuple #[.slice none 0 0, .int .i64 k])) := by
  subst h
  exact ⟨none, 0, rfl, ⟨World.ownsRow_nil _ _ _ _, Rd.nil _ _ _ _, Nat.le_refl _, Nat.zero_le _⟩⟩

set_option maxRecDepth 100000 in
set_option maxHeartbeats 4000000 in
theorem RunGet_core (A : Option Addr) (m c : Nat) (b : List UInt8) (most : Int) (w : World) (i0 : TypeInfo) (hi0 : Try.prog.info? 3 = some i0) (hz0 : i0.zero = some (.int .i64 0)) (hz1 : i0.size = 1) (hz2 : i0.bytes = 8)
    (Hll : Hid (b.length = m)) (Hr : Hid (Rd w w.heap.size 1 A m (b.map bv))) (hB0 : Below w.heap.size w w) (hmc : m ≤ c) (hcl : c ≤ maxLen) (R : List Int × Int) (n0 a0 : Nat) (ha0 : a0 ≤ m)
    (H0 : Hid (getB b 0 = (n0, (a0 : Int), 0))) (Hn0 : Hid (n0 < 18446744073709551616)) (mst : Nat) (H1 : Hid (rgo b mst n0 a0 257 [] = R)) (hmsb : mst ≤ 1099511627776) (hcase : most = (mst : Int) ∨ (most < 0 ∧ mst ≤ 0)) :
    Calls Try.prog 39 #[.slice A m c, .int .i64 most] w fun e w' => GetTold w w' R e ∧ Below w.heap.size w w' := by
  have Hcase := Lib.hid hcase
  clear hcase
  go_enter Try.func39, Try.ntmps39
  go_wp2_with (go_at_call 26; refine (Get_is _ _ _ _ _ _ _ _ _ _ H0.out Hr.out hmc hcl).mono ?_; rintro e w5 ⟨rfl, rfl⟩)
  go_loopw [6, 7, 9, 10] (fun x y v z wr => ∃ (n a last : Nat) (acc : List Int), x = .int .u64 (n : Int) ∧ y = .int .i64 (a : Int) ∧ z = .int .u64 (last : Int) ∧ wr.ownsRow w.heap.size 3 1 v acc.length (acc.map iv) ∧ acc.length ≤ mst ∧ a ≤ m ∧ n < 18446744073709551616 ∧ rgo b mst n a last acc = R ∧ Below w.heap.size w wr) (fun x _ _ _ _ => (intOf x).toNat)
  case atStart => exact ⟨n0, a0, 257, [], rfl, rfl, rfl, World.ownsRow_nil _ _ _ _, Nat.zero_le _, ha0, Hn0.out, H1.out, hB0⟩
  case round =>
    obtain ⟨n, a, last, acc, rfl, rfl, rfl, hown, hacc, ha, hn, hg, hb⟩ := hrel
    have Hg := Lib.hid hg
    have Hn := Lib.hid hn
    have hsz := hb.size
    have hr2 := Hr.out.below hb
    have Hr2 := Lib.hid hr2
    clear hg hn hr2
    rcases n with _ | n
    · have hgt : ((0 : Nat) : Int) = 0 := rfl
      by_cases hend : a = m
      · have hR : (acc, 0) = R := by rw [← Hg.out, rgo, if_pos (by rw [Hll.out]; exact hend)]
        have HR := Lib.hid hR
        have ht : ((a : Int) == (m : Int)) = true := by rw [beq_iff_eq]; omega
        obtain ⟨A', c', rfl, hm3⟩ := made_of_own hown
        clear hend hR hown
        go_wp2
        go_ret2
        refine ⟨?_, hb⟩
        rw [← HR.out]
        exact ⟨A', c', rfl, hm3⟩
      · have hR : ([], 4) = R := by rw [← Hg.out, rgo, if_neg (by rw [Hll.out]; exact hend)]
        have HR := Lib.hid hR
        have ht : ((a : Int) == (m : Int)) = false := by rw [beq_eq_false_iff_ne]; omega
        clear hend hR
        go_wp2
        go_ret2
        exact ⟨told_nil HR.out, hb⟩
    · have hab : a ≤ b.length := by rw [Hll.out]; exact ha
      rcases h1 : getGo (b.drop a) true 0 a with _ | ⟨s, to⟩
      · have hR : ([], 4) = R := by rw [← Hg.out, rgo_none _ _ _ _ _ _ (runAt_none1 _ _ h1)]
        have HR := Lib.hid hR
        have Hb1 := Lib.hid (getB_none b a hab h1)
        clear hR hab h1
        go_wp2_with (go_at_call 26; refine (Get_is _ _ _ _ _ _ _ _ _ _ Hb1.out Hr2.out hmc hcl).mono ?_; rintro e w5 ⟨rfl, rfl⟩)
        go_ret2
        exact ⟨told_nil HR.out, hb⟩
      · have hle1 := getGo_le _ _ _ _ _ _ h1
        have hb1 := getB_some b a s to hab h1
        have hto : to ≤ m := by rw [List.length_drop, Hll.out] at hle1; omega
        have htob : to ≤ b.length := by rw [Hll.out]; exact hto
        have Hb1 := Lib.hid hb1
        have Hs64 := Lib.hid hle1.2.2
        rcases h2 : getGo (b.drop to) true 0 to with _ | ⟨k, e⟩
        · have hR : ([], 4) = R := by rw [← Hg.out, rgo_none _ _ _ _ _ _ (runAt_none2 _ _ _ _ h1 h2)]
          have HR := Lib.hid hR
          have Hb2 := Lib.hid (getB_none b to htob h2)
          clear hR hab h1 h2 hb1 hle1 htob
          go_wp2_with fail
          refine (Get_is _ _ _ _ _ _ _ _ _ _ Hb1.out Hr2.out hmc hcl).mono ?_
          rintro e w5 ⟨rfl, rfl⟩
          go_wp2_with fail
          refine (Get_is _ _ _ _ _ _ _ _ _ _ Hb2.out Hr2.out hmc hcl).mono ?_
          rintro e w5 ⟨rfl, rfl⟩
          go_wp2
          go_ret2
          exact ⟨told_nil HR.out, hb⟩
        · have hle2 := getGo_le _ _ _ _ _ _ h2
          have hb2 := getB_some b to k e htob h2
          have he : e ≤ m := by rw [List.length_drop, Hll.out] at hle2; omega
          have Hb2 := Lib.hid hb2
          have hrun2 : rgo b mst (n + 1) a last acc = if 257 ≤ s ∨ s = last ∨ k = 0 then ([], 4) else if mst - acc.length < k then ([], 3) else rgo b mst n e s (acc ++ List.replicate k (s : Int)) := rgo_some _ _ _ _ _ _ _ _ _ (runAt_some _ _ _ _ _ _ h1 h2)
          have Hrun2 := Lib.hid hrun2
          have Hk64 := Lib.hid hle2.2.2
          clear hab h1 h2 hb1 hle1 htob hb2 hle2 hrun2
          by_cases hbad : 257 ≤ s ∨ s = last ∨ k = 0
          · have hR : ([], 4) = R := by rw [← Hg.out, Hrun2.out, if_pos hbad]
            have HR := Lib.hid hR
            have hbad' : 257 ≤ s ∨ (s < 257 ∧ s = last) ∨ (s < 257 ∧ s ≠ last ∧ k = 0) := by omega
            clear hR hbad
            rcases hbad' with h | ⟨h, h'⟩ | ⟨h, h', h''⟩
            · go_wp2_with fail
              refine (Get_is _ _ _ _ _ _ _ _ _ _ Hb1.out Hr2.out hmc hcl).mono ?_
              rintro e w5 ⟨rfl, rfl⟩
              go_wp2_with fail
              refine (Get_is _ _ _ _ _ _ _ _ _ _ Hb2.out Hr2.out hmc hcl).mono ?_
              rintro e w5 ⟨rfl, rfl⟩
              go_wp2
              go_ret2
              exact ⟨told_nil HR.out, hb⟩
            · subst h'
              go_wp2_with fail
              refine (Get_is _ _ _ _ _ _ _ _ _ _ Hb1.out Hr2.out hmc hcl).mono ?_
              rintro e w5 ⟨rfl, rfl⟩
              go_wp2_with fail
              refine (Get_is _ _ _ _ _ _ _ _ _ _ Hb2.out Hr2.out hmc hcl).mono ?_
              rintro e w5 ⟨rfl, rfl⟩
              go_wp2
              go_ret2
              exact ⟨told_nil HR.out, hb⟩
            · subst h''
              have ht : ((s : Int) == (last : Int)) = false := by rw [beq_eq_false_iff_ne]; omega
              clear h'
              go_wp2_with fail
              refine (Get_is _ _ _ _ _ _ _ _ _ _ Hb1.out Hr2.out hmc hcl).mono ?_
              rintro e w5 ⟨rfl, rfl⟩
              go_wp2_with fail
              refine (Get_is _ _ _ _ _ _ _ _ _ _ Hb2.out Hr2.out hmc hcl).mono ?_
              rintro e w5 ⟨rfl, rfl⟩
              go_wp2
              go_ret2
              exact ⟨told_nil HR.out, hb⟩
          · have h257 : s < 257 := by omega
            have hk0 : 0 < k := by omega
            have ht0 : ((k : Int) == 0) = false := by rw [beq_eq_false_iff_ne]; omega
            have ht1 : decide ((257 : Int) ≤ (s : Int)) = false := by simp; omega
            have ht : ((s : Int) == (last : Int)) = false := by rw [beq_eq_false_iff_ne]; omega
            obtain ⟨q, hq⟩ : ∃ q, acc.length = q := ⟨_, rfl⟩
            have hrun3 : rgo b mst (n + 1) a last acc = if mst - q < k then ([], 3) else rgo b mst n e s (acc ++ List.replicate k (s : Int)) := by rw [Hrun2.out, if_neg hbad, hq]
            have Hrun3 := Lib.hid hrun3
            have Hq := Lib.hid hq
            rw [hq] at hown hacc
            obtain ⟨A', c', rfl, hm3⟩ := made_of_own hown
            have Hown := Lib.hid hown
            have hn64 := Hn.out
            have hmxl : ∃ mx : Int, mx = (mst : Int) - (q : Int) := ⟨_, rfl⟩
            clear hbad hrun3 hq hm3 hown hmxl
            by_cases hfull : mst - q < k
            · have hR : ([], 3) = R := by rw [← Hg.out, Hrun3.out, if_pos hfull]
              have HR := Lib.hid hR
              have hf2 : (mst : Int) - (q : Int) < (k : Int) := by omega
              clear hR hfull hn64
              rcases Hcase.out with hc | ⟨hc, hc'⟩
              · subst hc
                go_wp2_with fail
                refine (Get_is _ _ _ _ _ _ _ _ _ _ Hb1.out Hr2.out hmc hcl).mono ?_
                rintro e w5 ⟨rfl, rfl⟩
                go_wp2_with fail
                refine (Get_is _ _ _ _ _ _ _ _ _ _ Hb2.out Hr2.out hmc hcl).mono ?_
                rintro e w5 ⟨rfl, rfl⟩
                go_wp2
                go_ret2
                exact ⟨told_nil HR.out, hb⟩
              · go_wp2_with fail
                refine (Get_is _ _ _ _ _ _ _ _ _ _ Hb1.out Hr2.out hmc hcl).mono ?_
                rintro e w5 ⟨rfl, rfl⟩
                go_wp2_with fail
                refine (Get_is _ _ _ _ _ _ _ _ _ _ Hb2.out Hr2.out hmc hcl).mono ?_
                rintro e w5 ⟨rfl, rfl⟩
                go_wp2
                go_ret2
                exact ⟨told_nil HR.out, hb⟩
            · have hR : rgo b mst n e s (acc ++ List.replicate k (s : Int)) = R := by rw [← Hg.out, Hrun3.out, if_neg hfull]
              have HR := Lib.hid hR
              have hf2 : (k : Int) ≤ (mst : Int) - (q : Int) := by omega
              have hc : most = (mst : Int) := by rcases Hcase.out with h | ⟨_, h⟩ <;> omega
              subst hc
              clear hR hfull
              go_wp2_with fail
              refine (Get_is _ _ _ _ _ _ _ _ _ _ Hb1.out Hr2.out hmc hcl).mono ?_
              rintro e w5 ⟨rfl, rfl⟩
              go_wp2_with fail
              refine (Get_is _ _ _ _ _ _ _ _ _ _ Hb2.out Hr2.out hmc hcl).mono ?_
              rintro e w5 ⟨rfl, rfl⟩
              go_wp2
              go_loopw [9, 73] (fun v i wx => ∃ j : Nat, j ≤ k ∧ i = .int .u64 (j : Int) ∧ wx.ownsRow w.heap.size 3 1 v (q + j) ((acc ++ List.replicate j (s : Int)).map iv) ∧ Below w.heap.size w wx) (fun _ i _ => k - (intOf i).toNat)
              case atStart => exact ⟨0, Nat.zero_le _, rfl, by simpa using Hown.out, hb⟩
              case round =>
                obtain ⟨j, hj, rfl, hown1, hb1⟩ := hrel
                have hsz1 := hb1.size
                by_cases hjk : j < k
                · go_wp2_with (at_builtin; refine wpList_push _ rfl (.tmp 75) (.tmp 78) _ rfl w.heap.size 3 i0 (.int .i64 0) 1 8 Try.underlying52 hi0 hz0 hz1 hz2 rfl (by decide) u9 (q + j) _ rfl hown1 rfl rfl (by simp [Value.oneCell']) (by unfold maxLen; omega) (by omega) hsz1 ?_; intro v2 w2 hown2 hg2 hs2 hat2)
                  have hb2 := below_grown hb1 hown1 hg2 hsz1
                  clear hg2 hat2
                  go_roundw
                  case rel =>
                    refine ⟨j + 1, by omega, by go_num, ?_, hb2⟩
                    rw [List.replicate_succ', ← List.append_assoc, List.map_append]
                    exact hown2
                  case measure => simp [intOf]; omega
                · have hjk2 : j = k := by omega
                  have hge : k ≤ j := by omega
                  rw [hjk2] at hown1
                  clear hjk2
                  go_wp2
                  refine ⟨⟨n, e, s, acc ++ List.replicate k (s : Int), int_eq (by omega), rfl, rfl, ?_, ?_, he, by omega, HR.out, hb1⟩, by simp [intOf]⟩
                  · rw [List.length_append, List.length_replicate, Hq.out]
                    exact hown1
                  · rw [List.length_append, List.length_replicate, Hq.out]
                    omega
set_option maxRecDepth 100000 in
set_option maxHeartbeats 4000000 in
theorem RunGet_any (A : Option Addr) (m c B : Nat) (b : List UInt8) (most : Int) (w : World) (hr : Rd w B 1 A m (b.map bv)) (hB : B ≤ w.heap.size) (hmc : m ≤ c) (hcl : c ≤ maxLen) (hmost : most ≤ 1099511627776) (hmost2 : -9223372036854775808 ≤ most) :
    Calls Try.prog 39 #[.slice A m c, .int .i64 most] w fun e w' => GetTold w w' (getRuns b most) e ∧ Below w.heap.size w w' := by
  obtain ⟨i0, hi0, hz0, hz1, hz2⟩ := info_parts int_info
  have hll : b.length = m := by simpa using hr.1
  have Hll := Lib.hid hll
  have Hr := Lib.hid (hr.mono hB)
  have hB0 := Below.refl w.heap.size w
  obtain ⟨R, hR⟩ : ∃ R, getRuns b most = R := ⟨_, rfl⟩
  rw [hR]
  rcases hfirst : getGo b true 0 0 with _ | ⟨n0, a0⟩
  · have h0 : getB b 0 = (0, 0, 4) := getB_none b 0 (Nat.zero_le _) (by simpa using hfirst)
    have h1 : ([], 4) = R := by rw [← hR, getRuns, hfirst]
    have H0 := Lib.hid h0
    have H1 := Lib.hid h1
    clear hr hll hR h0 h1 hfirst
    go_enter Try.func39, Try.ntmps39
    go_wp2_with (go_at_call 26; refine (Get_is _ _ _ _ _ _ _ _ _ _ H0.out Hr.out hmc hcl).mono ?_; rintro e w5 ⟨rfl, rfl⟩)
    go_loop [6] (fun x => x = .int .u64 0) (fun _ => 0)
    case atStart => rfl
    case round =>
      subst hrel
      go_wp2
      go_ret2
      exact ⟨told_nil H1.out, hB0⟩
  · have hle := getGo_le _ _ _ _ _ _ hfirst
    have h0 : getB b 0 = (n0, (a0 : Int), 0) := getB_some b 0 n0 a0 (Nat.zero_le _) (by simpa using hfirst)
    have h1 : rgo b most.toNat n0 a0 257 [] = R := by rw [← hR, getRuns, hfirst]
    have ha0 : a0 ≤ m := by omega
    have H0 := Lib.hid h0
    have H1 := Lib.hid h1
    have Hn0 := Lib.hid hle.2.2
    obtain ⟨mst, hmst⟩ : ∃ mst : Nat, most.toNat = mst := ⟨_, rfl⟩
    rw [hmst] at H1
    have hmsb : mst ≤ 1099511627776 := by omega
    have hcase : most = (mst : Int) ∨ (most < 0 ∧ mst ≤ 0) := by omega
    clear hr hll hR h0 h1 hfirst hle hmst hmost hmost2
    rcases hcase with hcase | ⟨hneg, hm0⟩
    · subst hcase
      exact RunGet_core A m c b (mst : Int) w i0 hi0 hz0 hz1 hz2 Hll Hr hB0 hmc hcl R n0 a0 ha0 H0 Hn0 mst H1 hmsb (.inl rfl)
    · exact RunGet_core A m c b most w i0 hi0 hz0 hz1 hz2 Hll Hr hB0 hmc hcl R n0 a0 ha0 H0 Hn0 mst H1 hmsb (.inr ⟨hneg, hm0⟩)
theorem RunGet_is (A : Option Addr) (m c B : Nat) (b : List UInt8) (most : Int) (w : World) (l : List Int) (n : Nat) (k : Int) (h : getRuns b most = (l, k)) (hn : l.length = n) (hr : Rd w B 1 A m (b.map bv)) (hB : B ≤ w.heap.size) (hmc : m ≤ c) (hcl : c ≤ maxLen) (hmost : most ≤ 1099511627776) (hmost2 : -9223372036854775808 ≤ most) :
    Calls Try.prog 39 #[.slice A m c, .int .i64 most] w fun e w' => ∃ A' c', e = .returned (.tuple #[.slice A' n c', .int .i64 k]) ∧ Made w' w.heap.size 3 1 A' n c' (l.map iv) ∧ Below w.heap.size w w' := by
  subst hn
  refine (RunGet_any A m c B b most w hr hB hmc hcl hmost hmost2).mono fun e w' ⟨⟨A', c', he, hm⟩, hb⟩ => ?_
  rw [h] at he hm
  exact ⟨A', c', he, hm, hb⟩
end Go.Proofs.Ythcoldomeedbnaa
