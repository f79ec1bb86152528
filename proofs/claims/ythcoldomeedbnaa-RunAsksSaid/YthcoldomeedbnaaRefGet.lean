/- The walks of scrimshawref16.GetRuns and scrimshawref16.AllRuns. Conditions: the most is at most 2^40; at most 2^40 runs. -/
import Derived.Test.YthcoldomeedbnaaRefRun
import Derived.Test.YthcoldomeedbnaaRefNum2
namespace Go.Proofs.Ythcoldomeedbnaa
open Go.RowKit
set_option linter.unusedVariables false
set_option maxRecDepth 100000 in
set_option maxHeartbeats 4000000 in
theorem refGetRuns_core (m : Nat) (b : List UInt8) (most : Int) (w : World) (i0 : TypeInfo) (hi0 : Try.prog.info? 3 = some i0) (hz0 : i0.zero = some (.int .i64 0)) (hz1 : i0.size = 1) (hz2 : i0.bytes = 8)
    (Hll : Hid (b.length = m)) (hsz : (⟨b.toArray⟩ : ByteArray).size = m) (hcl : (⟨b.toArray⟩ : ByteArray).size ≤ maxLen) (hB0 : Below w.heap.size w w) (R : List Int × Int) (n0 a0 : Nat) (ha0 : a0 ≤ m)
    (H0 : Hid (getB b 0 = (n0, (a0 : Int), 0))) (Hn0 : Hid (n0 < 18446744073709551616)) (mst : Nat) (H1 : Hid (rgo b mst n0 a0 257 [] = R)) (hmsb : mst ≤ 1099511627776) (hcase : most = (mst : Int) ∨ (most < 0 ∧ mst ≤ 0)) :
    Calls Try.prog 40 #[.string ⟨b.toArray⟩, .int .i64 most] w fun e w' => GetTold w w' R e ∧ Below w.heap.size w w' := by
  have Hcase := Lib.hid hcase
  clear hcase
  go_enter Try.func40, Try.ntmps40
  go_wp2_with fail
  refine (refGet_is _ _ _ _ _ _ H0.out hcl).mono ?_
  rintro e w5 ⟨rfl, rfl⟩
  go_wp2
  go_loopw [7, 9, 10, 11] (fun y v z x wr => ∃ (i n a last : Nat) (lastI : Int) (acc : List Int), x = .int .u64 (i : Int) ∧ i + n = n0 ∧ y = .int .i64 (a : Int) ∧ z = .int .i64 lastI ∧ (∀ s : Nat, s < 257 → ((s : Int) = lastI ↔ s = last)) ∧ wr.ownsRow w.heap.size 3 1 v acc.length (acc.map iv) ∧ acc.length ≤ mst ∧ a ≤ m ∧ rgo b mst n a last acc = R ∧ Below w.heap.size w wr) (fun _ _ _ x _ => n0 - (intOf x).toNat)
  case atStart => exact ⟨0, n0, a0, 257, -1, [], rfl, by omega, rfl, rfl, fun s hs => by omega, World.ownsRow_nil _ _ _ _, Nat.zero_le _, ha0, H1.out, hB0⟩
  case round =>
    obtain ⟨i, n, a, last, lastI, acc, rfl, hin, rfl, rfl, hlast, hown, hacc, ha, hg, hb⟩ := hrel
    have Hg := Lib.hid hg
    have Hlast := Lib.hid hlast
    have hn64 := Hn0.out
    have hsz5 := hb.size
    clear hg hlast
    rcases n with _ | n
    · have hlt : ¬ ((i : Int) < (n0 : Int)) := by omega
      have hge : n0 ≤ i := by omega
      by_cases hend : a = m
      · have hR : (acc, 0) = R := by rw [← Hg.out, rgo, if_pos (by rw [Hll.out]; exact hend)]
        have HR := Lib.hid hR
        have ht : ((a : Int) == (m : Int)) = true := by rw [beq_iff_eq]; omega
        obtain ⟨A', c', rfl, hm3⟩ := made_of_own hown
        clear hend hR hown
        go_wp2
        go_ret2
        refine ⟨?_, hb⟩
        rw [← HR.out]
        exact ⟨A', c', rfl, hm3⟩
      · have hR : ([], 4) = R := by rw [← Hg.out, rgo, if_neg (by rw [Hll.out]; exact hend)]
        have HR := Lib.hid hR
        have ht : ((a : Int) == (m : Int)) = false := by rw [beq_eq_false_iff_ne]; omega
        clear hend hR
        go_wp2
        go_ret2
        exact ⟨told_nil HR.out, hb⟩
    · have hab : a ≤ b.length := by rw [Hll.out]; exact ha
      have hlt : i < n0 := by omega
      rcases h1 : getGo (b.drop a) true 0 a with _ | ⟨s, to⟩
      · have hR : ([], 4) = R := by rw [← Hg.out, rgo_none _ _ _ _ _ _ (runAt_none1 _ _ h1)]
        have HR := Lib.hid hR
        have Hb1 := Lib.hid (getB_none b a hab h1)
        clear hR hab h1
        go_wp2_with fail
        refine (refGet_is _ _ _ _ _ _ Hb1.out hcl).mono ?_
        rintro e w5 ⟨rfl, rfl⟩
        go_wp2_with fail
        refine (refGet_is _ _ _ _ _ _ Hb1.out hcl).mono ?_
        rintro e w5 ⟨rfl, rfl⟩
        go_wp2
        go_ret2
        exact ⟨told_nil HR.out, hb⟩
      · have hle1 := getGo_le _ _ _ _ _ _ h1
        have hb1 := getB_some b a s to hab h1
        have hto : to ≤ m := by rw [List.length_drop, Hll.out] at hle1; omega
        have htob : to ≤ b.length := by rw [Hll.out]; exact hto
        have Hb1 := Lib.hid hb1
        have Hs64 := Lib.hid hle1.2.2
        rcases h2 : getGo (b.drop to) true 0 to with _ | ⟨k, e⟩
        · have hR : ([], 4) = R := by rw [← Hg.out, rgo_none _ _ _ _ _ _ (runAt_none2 _ _ _ _ h1 h2)]
          have HR := Lib.hid hR
          have Hb2 := Lib.hid (getB_none b to htob h2)
          clear hR hab h1 h2 hb1 hle1 htob
          go_wp2_with fail
          refine (refGet_is _ _ _ _ _ _ Hb1.out hcl).mono ?_
          rintro e w5 ⟨rfl, rfl⟩
          go_wp2_with fail
          refine (refGet_is _ _ _ _ _ _ Hb2.out hcl).mono ?_
          rintro e w5 ⟨rfl, rfl⟩
          go_wp2
          go_ret2
          exact ⟨told_nil HR.out, hb⟩
        · have hle2 := getGo_le _ _ _ _ _ _ h2
          have hb2 := getB_some b to k e htob h2
          have he : e ≤ m := by rw [List.length_drop, Hll.out] at hle2; omega
          have Hb2 := Lib.hid hb2
          have hrun2 : rgo b mst (n + 1) a last acc = if 257 ≤ s ∨ s = last ∨ k = 0 then ([], 4) else if mst - acc.length < k then ([], 3) else rgo b mst n e s (acc ++ List.replicate k (s : Int)) := rgo_some _ _ _ _ _ _ _ _ _ (runAt_some _ _ _ _ _ _ h1 h2)
          have Hrun2 := Lib.hid hrun2
          have Hk64 := Lib.hid hle2.2.2
          clear hab h1 h2 hb1 hle1 htob hb2 hle2 hrun2
          by_cases hbad : 257 ≤ s ∨ s = last ∨ k = 0
          · have hR : ([], 4) = R := by rw [← Hg.out, Hrun2.out, if_pos hbad]
            have HR := Lib.hid hR
            have hbad' : 257 ≤ s ∨ (s < 257 ∧ k = 0) ∨ (s < 257 ∧ 0 < k ∧ s = last) := by omega
            clear hR hbad
            rcases hbad' with h | ⟨h, h'⟩ | ⟨h, h', h''⟩
            · have hs64 := Hs64.out
              go_wp2_with fail
              refine (refGet_is _ _ _ _ _ _ Hb1.out hcl).mono ?_
              rintro e w5 ⟨rfl, rfl⟩
              go_wp2_with fail
              refine (refGet_is _ _ _ _ _ _ Hb2.out hcl).mono ?_
              rintro e w5 ⟨rfl, rfl⟩
              go_wp2
              go_ret2
              exact ⟨told_nil HR.out, hb⟩
            · subst h'
              go_wp2_with fail
              refine (refGet_is _ _ _ _ _ _ Hb1.out hcl).mono ?_
              rintro e w5 ⟨rfl, rfl⟩
              go_wp2_with fail
              refine (refGet_is _ _ _ _ _ _ Hb2.out hcl).mono ?_
              rintro e w5 ⟨rfl, rfl⟩
              go_wp2
              go_ret2
              exact ⟨told_nil HR.out, hb⟩
            · have hsl := (Hlast.out s h).2 h''
              subst hsl
              have ht0 : ((k : Int) == 0) = false := by rw [beq_eq_false_iff_ne]; omega
              have ht1 : decide ((257 : Int) ≤ (s : Int)) = false := by simp; omega
              clear h''
              go_wp2_with fail
              refine (refGet_is _ _ _ _ _ _ Hb1.out hcl).mono ?_
              rintro e w5 ⟨rfl, rfl⟩
              go_wp2_with fail
              refine (refGet_is _ _ _ _ _ _ Hb2.out hcl).mono ?_
              rintro e w5 ⟨rfl, rfl⟩
              go_wp2
              go_ret2
              exact ⟨told_nil HR.out, hb⟩
          · have h257 : s < 257 := by omega
            have hk0 : 0 < k := by omega
            have ht0 : ((k : Int) == 0) = false := by rw [beq_eq_false_iff_ne]; omega
            have ht1 : decide ((257 : Int) ≤ (s : Int)) = false := by simp; omega
            have ht : ((s : Int) == lastI) = false := by rw [beq_eq_false_iff_ne]; exact fun h => hbad (.inr (.inl ((Hlast.out s h257).1 h)))
            obtain ⟨q, hq⟩ : ∃ q, acc.length = q := ⟨_, rfl⟩
            have hrun3 : rgo b mst (n + 1) a last acc = if mst - q < k then ([], 3) else rgo b mst n e s (acc ++ List.replicate k (s : Int)) := by rw [Hrun2.out, if_neg hbad, hq]
            have Hrun3 := Lib.hid hrun3
            have Hq := Lib.hid hq
            rw [hq] at hown hacc
            obtain ⟨A', c', rfl, hm3⟩ := made_of_own hown
            have Hown := Lib.hid hown
            clear hbad hrun3 hq hm3 hown
            by_cases hfull : mst - q < k
            · have hR : ([], 3) = R := by rw [← Hg.out, Hrun3.out, if_pos hfull]
              have HR := Lib.hid hR
              have hf2 : (mst : Int) - (q : Int) < (k : Int) := by omega
              clear hR hfull hn64
              rcases Hcase.out with hc | ⟨hc, hc'⟩
              · subst hc
                go_wp2_with fail
                refine (refGet_is _ _ _ _ _ _ Hb1.out hcl).mono ?_
                rintro e w5 ⟨rfl, rfl⟩
                go_wp2_with fail
                refine (refGet_is _ _ _ _ _ _ Hb2.out hcl).mono ?_
                rintro e w5 ⟨rfl, rfl⟩
                go_wp2
                go_ret2
                exact ⟨told_nil HR.out, hb⟩
              · skip
                go_wp2_with fail
                refine (refGet_is _ _ _ _ _ _ Hb1.out hcl).mono ?_
                rintro e w5 ⟨rfl, rfl⟩
                go_wp2_with fail
                refine (refGet_is _ _ _ _ _ _ Hb2.out hcl).mono ?_
                rintro e w5 ⟨rfl, rfl⟩
                go_wp2
                go_ret2
                exact ⟨told_nil HR.out, hb⟩
            · have hR : rgo b mst n e s (acc ++ List.replicate k (s : Int)) = R := by rw [← Hg.out, Hrun3.out, if_neg hfull]
              have HR := Lib.hid hR
              have hf2 : (k : Int) ≤ (mst : Int) - (q : Int) := by omega
              have hc : most = (mst : Int) := by rcases Hcase.out with h | ⟨_, h⟩ <;> omega
              subst hc
              clear hR hfull
              go_wp2_with fail
              refine (refGet_is _ _ _ _ _ _ Hb1.out hcl).mono ?_
              rintro e w5 ⟨rfl, rfl⟩
              go_wp2_with fail
              refine (refGet_is _ _ _ _ _ _ Hb2.out hcl).mono ?_
              rintro e w5 ⟨rfl, rfl⟩
              go_wp2
              go_loopw [9, 18] (fun v i wx => ∃ j : Nat, j ≤ k ∧ i = .int .u64 (j : Int) ∧ wx.ownsRow w.heap.size 3 1 v (q + j) ((acc ++ List.replicate j (s : Int)).map iv) ∧ Below w.heap.size w wx) (fun _ i _ => k - (intOf i).toNat)
              case atStart => exact ⟨0, Nat.zero_le _, rfl, by simpa using Hown.out, hb⟩
              case round =>
                obtain ⟨j, hj, rfl, hown1, hb1⟩ := hrel
                have hsz1 := hb1.size
                by_cases hjk : j < k
                · go_wp2_with (at_builtin; refine wpList_push _ rfl (.tmp 79) (.tmp 82) _ rfl w.heap.size 3 i0 (.int .i64 0) 1 8 Try.underlying52 hi0 hz0 hz1 hz2 rfl (by decide) u9 (q + j) _ rfl hown1 rfl rfl (by simp [Value.oneCell']) (by unfold maxLen; omega) (by omega) hsz1 ?_; intro v2 w2 hown2 hg2 hs2 hat2)
                  have hb2 := below_grown hb1 hown1 hg2 hsz1
                  clear hg2 hat2
                  go_roundw
                  case rel =>
                    refine ⟨j + 1, by omega, by go_num, ?_, hb2⟩
                    rw [List.replicate_succ', ← List.append_assoc, List.map_append]
                    exact hown2
                  case measure => simp [intOf]; omega
                · have hjk2 : j = k := by omega
                  have hge : k ≤ j := by omega
                  rw [hjk2] at hown1
                  clear hjk2
                  go_wp2
                  refine ⟨⟨i + 1, n, e, s, (s : Int), acc ++ List.replicate k (s : Int), int_eq (by omega), by omega, rfl, rfl, fun x _ => by omega, ?_, ?_, he, HR.out, hb1⟩, by simp [intOf]; omega⟩
                  · rw [List.length_append, List.length_replicate, Hq.out]
                    exact hown1
                  · rw [List.length_append, List.length_replicate, Hq.out]
                    omega
set_option maxRecDepth 100000 in
set_option maxHeartbeats 4000000 in
theorem refGetRuns_any (b : List UInt8) (most : Int) (w : World) (hm : b.length ≤ maxLen) (hmost : most ≤ 1099511627776) (hmost2 : -9223372036854775808 ≤ most) :
    Calls Try.prog 40 #[.string ⟨b.toArray⟩, .int .i64 most] w fun e w' => GetTold w w' (getRuns b most) e ∧ Below w.heap.size w w' := by
  obtain ⟨i0, hi0, hz0, hz1, hz2⟩ := info_parts int_info
  have hB0 := Below.refl w.heap.size w
  have hsz : (⟨b.toArray⟩ : ByteArray).size = b.length := by simp [ByteArray.size]
  have hcl : (⟨b.toArray⟩ : ByteArray).size ≤ maxLen := by rw [hsz]; exact hm
  obtain ⟨R, hR⟩ : ∃ R, getRuns b most = R := ⟨_, rfl⟩
  rw [hR]
  rcases hfirst : getGo b true 0 0 with _ | ⟨n0, a0⟩
  · have h0 : getB b 0 = (0, 0, 4) := getB_none b 0 (Nat.zero_le _) (by simpa using hfirst)
    have h1 : ([], 4) = R := by rw [← hR, getRuns, hfirst]
    have H0 := Lib.hid h0
    have H1 := Lib.hid h1
    clear hR h0 h1 hfirst
    go_enter Try.func40, Try.ntmps40
    go_wp2_with fail
    refine (refGet_is _ _ _ _ _ _ H0.out hcl).mono ?_
    rintro e w5 ⟨rfl, rfl⟩
    go_wp2
    go_ret2
    exact ⟨told_nil H1.out, hB0⟩
  · have hle := getGo_le _ _ _ _ _ _ hfirst
    have h0 : getB b 0 = (n0, (a0 : Int), 0) := getB_some b 0 n0 a0 (Nat.zero_le _) (by simpa using hfirst)
    have h1 : rgo b most.toNat n0 a0 257 [] = R := by rw [← hR, getRuns, hfirst]
    have ha0 : a0 ≤ b.length := by omega
    have H0 := Lib.hid h0
    have H1 := Lib.hid h1
    have Hn0 := Lib.hid hle.2.2
    obtain ⟨mst, hmst⟩ : ∃ mst : Nat, most.toNat = mst := ⟨_, rfl⟩
    rw [hmst] at H1
    have hmsb : mst ≤ 1099511627776 := by omega
    have hcase : most = (mst : Int) ∨ (most < 0 ∧ mst ≤ 0) := by omega
    clear hR h0 h1 hfirst hle hmst hmost
    rcases hcase with hcase | ⟨hneg, hm0⟩
    · subst hcase
      exact refGetRuns_core b.length b (mst : Int) w i0 hi0 hz0 hz1 hz2 (Lib.hid rfl) hsz hcl hB0 R n0 a0 ha0 H0 Hn0 mst H1 hmsb (.inl rfl)
    · exact refGetRuns_core b.length b most w i0 hi0 hz0 hz1 hz2 (Lib.hid rfl) hsz hcl hB0 R n0 a0 ha0 H0 Hn0 mst H1 hmsb (.inr ⟨hneg, hm0⟩)
theorem refGetRuns_is (b : List UInt8) (most : Int) (w : World) (l : List Int) (n : Nat) (k : Int) (h : getRuns b most = (l, k)) (hn : l.length = n) (hm : b.length ≤ maxLen) (hmost : most ≤ 1099511627776) (hmost2 : -9223372036854775808 ≤ most) :
    Calls Try.prog 40 #[.string ⟨b.toArray⟩, .int .i64 most] w fun e w' => ∃ A' c', e = .returned (.tuple #[.slice A' n c', .int .i64 k]) ∧ Made w' w.heap.size 3 1 A' n c' (l.map iv) ∧ Below w.heap.size w w' := by
  subst hn
  refine (refGetRuns_any b most w hm hmost hmost2).mono fun e w' ⟨⟨A', c', he, hm⟩, hb⟩ => ?_
  rw [h] at he hm
  exact ⟨A', c', he, hm, hb⟩
set_option maxRecDepth 100000 in
set_option maxHeartbeats 2000000 in
theorem refAllRuns_own (A : Option Addr) (m c B : Nat) (r : List (Int × Int)) (w : World) (hr : Rd w B 2 A m (run2Cells r)) (hB : B ≤ w.heap.size) (hm : m ≤ 1099511627776) :
    Calls Try.prog 43 #[.slice A m c] w fun e w' => ∃ v, e = .returned v ∧ w'.ownsRow w.heap.size 3 1 v (allRuns r).length ((allRuns r).map iv) ∧ Below w.heap.size w w' := by
  obtain ⟨i0, hi0, hz0, hz1, hz2⟩ := info_parts int_info
  have hll : r.length = m := by have := hr.1; rw [run2Cells_len] at this; omega
  have Hll := Lib.hid hll
  have Hr := Lib.hid (hr.mono hB)
  clear hr hll
  go_enter Try.func43, Try.ntmps43
  go_wp2
  go_loopw [3, 4] (fun v i wr => ∃ k : Nat, k ≤ m ∧ i = .int .i64 k ∧ wr.ownsRow w.heap.size 3 1 v (allRuns (r.take k)).length ((allRuns (r.take k)).map iv) ∧ Below w.heap.size w wr) (fun _ i _ => m - (intOf i).toNat)
  case atStart => exact ⟨0, Nat.zero_le _, rfl, World.ownsRow_nil _ _ _ _, Below.refl _ _⟩
  case round =>
    obtain ⟨k, hk, rfl, hown, hb⟩ := hrel
    have hsz := hb.size
    by_cases hlt : k < m
    · obtain ⟨x, hx⟩ : ∃ x, r[k]? = some x := ⟨r[k]'(by have := Hll.out; omega), List.getElem?_eq_getElem (by have := Hll.out; omega)⟩
      obtain ⟨b, off, rfl, hbl, hc⟩ := Hr.out.2 (by omega)
      have c0 : w.cell? ⟨b, off + k * 2, none⟩ = some (.int .i64 x.1) := hc (k * 2 + 0) _ ((run2Cells_get r k 0 x hx (by omega)).trans rfl)
      have c1 : w.cell? ⟨b, off + k * 2 + 1, none⟩ = some (.int .i64 x.2) := by rw [Nat.add_assoc]; exact hc (k * 2 + 1) _ ((run2Cells_get r k 1 x hx (by omega)).trans rfl)
      have hnext := allRuns_snoc r k x hx
      have hlen := allRuns_len (r.take k)
      generalize allRuns (r.take k) = o at *
      obtain ⟨q, hq⟩ : ∃ q, o.length = q := ⟨_, rfl⟩
      rw [hq] at hown hlen
      obtain ⟨s, n⟩ := x
      simp only at c0 c1
      have hst : allStep o (s, n) = o ++ List.replicate (allMore n q) s := by rw [← hq]; rfl
      rw [hst] at hnext
      obtain ⟨t, ht⟩ : ∃ t, allMore n q = t := ⟨_, rfl⟩
      have hin : ∀ j, j < t → (j : Int) < n ∧ q + j < 1000000 := by intro j hj; rw [← ht] at hj; unfold allMore at hj; omega
      have hout : n ≤ (t : Int) ∨ ((t : Int) < n ∧ q + t = 1000000) := by rw [← ht]; unfold allMore; omega
      have htq : q + t ≤ 1000000 := by rw [← ht]; unfold allMore; omega
      rw [ht] at hnext
      have Hnext := Lib.hid hnext
      have Hq := Lib.hid hq
      have Hown := Lib.hid hown
      have Hin := Lib.hid hin
      have Hout := Lib.hid hout
      have C0 := Lib.hid c0
      have C1 := Lib.hid c1
      clear hnext hc hx hst ht hq hown c0 c1 hin hout
      go_wp2
      go_loopw [3, 5] (fun v i wx => ∃ j : Nat, j ≤ t ∧ i = .int .i64 j ∧ wx.ownsRow w.heap.size 3 1 v (q + j) ((o ++ List.replicate j s).map iv) ∧ Below w.heap.size w wx) (fun _ i _ => t - (intOf i).toNat)
      case atStart => exact ⟨0, Nat.zero_le _, rfl, by simpa using Hown.out, hb⟩
      case round =>
        obtain ⟨j, hj, rfl, hown1, hb1⟩ := hrel
        have hsz1 := hb1.size
        have d0 : wr.cell? ⟨b, off + k * 2, none⟩ = some (.int .i64 s) := (hb1.cell (p := ⟨b, off + k * 2, none⟩) hbl).trans C0.out
        have d1 : wr.cell? ⟨b, off + k * 2 + 1, none⟩ = some (.int .i64 n) := (hb1.cell (p := ⟨b, off + k * 2 + 1, none⟩) hbl).trans C1.out
        obtain ⟨A', c', rfl, hm3⟩ := made_of_own hown1
        clear hm3
        by_cases hjt : j < t
        · obtain ⟨h1, h2⟩ := Hin.out j hjt
          have h3 : (q : Int) + (j : Int) < 1000000 := by omega
          go_wp2_with (at_builtin; refine wpList_push _ rfl (.tmp 26) (.tmp 32) _ rfl w.heap.size 3 i0 (.int .i64 0) 1 8 Try.underlying52 hi0 hz0 hz1 hz2 rfl (by decide) (.slice A' (q + j) c') (q + j) _ rfl hown1 rfl rfl (by simp [Value.oneCell']) (by unfold maxLen; omega) (by omega) hsz1 ?_; intro v2 w2 hown2 hg2 hs2 hat2)
          have hb2 := below_grown hb1 hown1 hg2 hsz1
          clear hg2 hat2
          go_roundw
          case rel =>
            refine ⟨j + 1, by omega, by go_num, ?_, hb2⟩
            rw [List.replicate_succ', ← List.append_assoc, List.map_append]
            exact hown2
          case measure => simp [intOf]; omega
        · have hjt2 : j = t := by omega
          subst hjt2
          have hown3 : wr.ownsRow w.heap.size 3 1 (.slice A' (q + j) c') (allRuns (r.take (k + 1))).length ((allRuns (r.take (k + 1))).map iv) := by
            rw [Hnext.out, List.length_append, List.length_replicate, Hq.out]
            exact hown1
          have Hown3 := Lib.hid hown3
          clear hown1 hown3
          rcases Hout.out with h1 | ⟨h1, h2⟩
          · go_wp2
            exact ⟨⟨k + 1, by omega, by go_num, Hown3.out, hb1⟩, by simp [intOf]; omega⟩
          · have h3 : (q : Int) + (j : Int) = 1000000 := by omega
            have h4 : ¬ (q : Int) + (j : Int) < 1000000 := by omega
            have h5 : ¬ q + j < 1000000 := by omega
            go_wp2
            exact ⟨⟨k + 1, by omega, by go_num, Hown3.out, hb1⟩, by simp [intOf]; omega⟩
    · have hkm : k = m := by omega
      have htk : r.take k = r := List.take_of_length_le (by have := Hll.out; omega)
      have hge : m ≤ k := by omega
      rw [htk] at hown
      clear hkm htk
      go_wp2
      go_ret
      exact ⟨u3, rfl, hown, hb⟩
theorem refAllRuns_is (A : Option Addr) (m c B : Nat) (r : List (Int × Int)) (w : World) (l : List Int) (n : Nat) (h : allRuns r = l) (hn : l.length = n) (hr : Rd w B 2 A m (run2Cells r)) (hB : B ≤ w.heap.size) (hm : m ≤ 1099511627776) :
    Calls Try.prog 43 #[.slice A m c] w fun e w' => ∃ A' c', e = .returned (.slice A' n c') ∧ Made w' w.heap.size 3 1 A' n c' (l.map iv) ∧ Below w.heap.size w w' := by
  subst h
  subst hn
  refine (refAllRuns_own A m c B r w hr hB hm).mono fun e w' ⟨v, he, ho, hb⟩ => ?_
  obtain ⟨A', c', rfl, hm⟩ := made_of_own ho
  exact ⟨A', c', he, hm, hb⟩
end Go.Proofs.Ythcoldomeedbnaa
