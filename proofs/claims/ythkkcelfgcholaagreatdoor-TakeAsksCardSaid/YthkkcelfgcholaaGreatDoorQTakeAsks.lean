/- The walk of TakeAsks: a piece is the text's, or is refused, behind inserts too. Conditions: the lists' lengths are lengths; the table of math/bits stands in its variable. -/
import Derived.Test.YthkkcelfgcholaaGreatDoorQTkStr
import Derived.BigQuiet
namespace Go.Proofs.YthkkcelfgcholaaGreatDoor
open Go.RowKit
set_option linter.unusedVariables false
set_option linter.unusedSimpArgs false
set_option maxRecDepth 100000 in
set_option maxHeartbeats 1000000 in
theorem PieceNo_any (Bw gl rate N : Nat) (t : List UInt8) (hN : t.length = N) (a n : Int) (w : World) (h : TpAt w Bw gl t rate) (hbad : a < 0 ∨ n < 0 ∨ (N : Int) < a ∨ (N : Int) - a < n) :
    Calls Tryz.prog 8 #[.pointer (some ⟨gl, 0, none⟩), .int .i64 a, .int .i64 n] w fun e w' => e = .returned (.tuple #[.slice none 0 0, .int .i64 2]) ∧ w = w' := by
  obtain ⟨rs, gk, gp, pr, hs, hl, hrt, hz0, hn127⟩ := h
  clear hrt hz0
  have hlen : rs.length = t.length + 1 := by rw [hs.len, symL_len]
  have hL : (lastL (symL t) rs).length = t.length + 1 := by rw [lastL_len, hlen]
  rw [hN] at hL hn127
  have Hlv := Lib.hid hl.lvw
  have HL := Lib.hid hL
  clear hl hL hs hlen hN
  by_cases c1 : a < 0
  · have n1 : decide (a < 0) = true := decide_eq_true c1
    clear hbad c1
    go_enter Tryz.func8, Tryz.ntmps8
    go_wp2_with fail
    go_ret2
    exact ⟨rfl, rfl⟩
  have n1 : decide (a < 0) = false := decide_eq_false c1
  by_cases c2 : n < 0
  · have n2 : decide (n < 0) = true := decide_eq_true c2
    clear hbad c1 c2
    go_enter Tryz.func8, Tryz.ntmps8
    go_wp2_with fail
    go_ret2
    exact ⟨rfl, rfl⟩
  obtain ⟨at_, rfl⟩ : ∃ k : Nat, a = k := ⟨a.toNat, by omega⟩
  obtain ⟨m, rfl⟩ : ∃ k : Nat, n = k := ⟨n.toNat, by omega⟩
  have n1 : decide ((at_ : Int) < 0) = false := by simp
  have n2 : decide ((m : Int) < 0) = false := by simp
  by_cases c3 : N < at_
  · have n4 : decide (N < at_) = true := decide_eq_true c3
    clear hbad c1 c2
    go_enter Tryz.func8, Tryz.ntmps8
    go_wp2_with fail
    refine (LiveLen_any Bw gl _ N w Hlv.out HL.out (by omega)).mono ?_
    rintro e w1 ⟨rfl, rfl⟩
    go_wp2_with fail
    go_ret2
    exact ⟨rfl, rfl⟩
  have n4 : decide (N < at_) = false := decide_eq_false c3
  obtain ⟨d, hd⟩ : ∃ d, N - at_ = d := ⟨_, rfl⟩
  have hn : d < m := by omega
  have n5 : IntKind.i64.wrap ((N : Int) - (at_ : Int)) = (d : Int) := by rw [IntKind.wrap_i64]; omega
  have n7 : decide (d < m) = true := decide_eq_true hn
  clear hbad c1 c2 hd
  go_enter Tryz.func8, Tryz.ntmps8
  go_wp2_with fail
  refine (LiveLen_any Bw gl _ N w Hlv.out HL.out (by omega)).mono ?_
  rintro e w1 ⟨rfl, rfl⟩
  go_wp2_with fail
  refine (LiveLen_any Bw gl _ N w Hlv.out HL.out (by omega)).mono ?_
  rintro e w1 ⟨rfl, rfl⟩
  go_wp2_with fail
  go_ret2
  exact ⟨rfl, rfl⟩
set_option maxRecDepth 100000 in
set_option maxHeartbeats 8000000 in
theorem TakeAsks_walk (A : Option Addr) (n c : Nat) (l : List Int) (few : Bool) (rate : Int) (Aq : Option Addr) (mq cq : Nat) (lq : List Int) (at0 long0 : Int) (w : World) (hr : Rd w w.heap.size 1 A n (l.map iv)) (hn : n ≤ maxLen) (hrq : Rd w w.heap.size 1 Aq mq (lq.map iv)) (hnq : mq ≤ maxLen) (hT : TabW w) :
    Calls Tryz.prog 3 #[.slice A n c, .bool few, .int .i64 rate, .slice Aq mq cq, .int .i64 at0, .int .i64 long0] w fun e w' => e = .returned (.bool true) ∧ Below w.heap.size w w' := by
  have hw := hT.pos
  have Hr := Lib.hid hr
  have Hrq := Lib.hid hrq
  have HT := Lib.hid hT
  obtain ⟨x, hx1, hx2⟩ := umod_ex rate 64 (by omega)
  have hx64 : x < 64 := by omega
  clear hr hT hrq hx2
  go_enter Tryz.func3, Tryz.ntmps3
  go_wp2_with fail
  refine (Text_any A n c w.heap.size l 80 few w Hr.out (Nat.le_refl _) hn (by omega)).mono ?_
  rintro e w1 ⟨t, A1, c1, ht80, _, rfl, hm1, hb1⟩
  have s1 := strOfT hm1.rd c1
  obtain ⟨A0, cap, W1, kb, hrd, hbw⟩ := ts_conv w1 t _ rfl
  have hb01 := hb1.trans (hbw.mono hb1.size)
  obtain ⟨N, hN⟩ : ∃ N, t.length = N := ⟨_, rfl⟩
  rw [hN] at s1 kb hrd ht80 ⊢
  have hbA : Below W1.heap.size W1 (W1.alloc (.cells #[.slice A0 N cap] 23)) := (Below.refl _ _).alloc (Nat.le_refl _) _
  have hnew := LiveNewE_any (1 + x) _ 1 1 _ [⟨A0, N, cap, t⟩] t N (by simp [catS]) hN _ (Rd.made W1 23 1 1 #[.slice A0 N cap] rfl) (fun s hs => by simp at hs; subst hs; exact (hrd.below hbA).mono hbA.size) (Nat.le_refl _) (by omega) (by omega) (by omega) (by omega)
  have e2 : (((1 + x : Nat)) : Int) = 1 + (x : Int) := by omega
  rw [e2] at hnew
  have Hb01 := Lib.hid (hb01.trans (hbA.mono hb01.size))
  have HN := Lib.hid hN
  have Hnew := Lib.hid hnew
  clear hm1 hb1 Hr hrd hbw hb01 hnew hbA hN e2
  go_wp2_with fail
  refine Hnew.out.mono ?_
  rintro e w2 ⟨gl, own0, rfl, hgl, hle, hb2⟩
  have hb02 := Hb01.out.trans (hb2.mono Hb01.out.size)
  have Hle := Lib.hid (hle.low (B' := w.heap.size) (by have := Hb01.out.size; omega))
  have Hb2 := Lib.hid hb02
  have Hrq2 := Lib.hid (Hrq.out.below hb02)
  have hbq : ∀ bq oq, Aq = some ⟨bq, oq, none⟩ → 0 < mq → bq < w.heap.size := fun bq oq e h0 => by
    obtain ⟨b, o, e2, hlt, _⟩ := Hrq.out.2 h0
    rw [e] at e2
    injection e2 with e2
    injection e2 with e3
    omega
  have Hbq := Lib.hid hbq
  clear hle hb2 hb02 Hnew kb s1 hgl hbq Hb01 hx1
  obtain ⟨r, hrr⟩ : ∃ r, 1 + x = r := ⟨_, rfl⟩
  rw [hrr] at Hle
  have hr1 : 1 ≤ r := by omega
  have hr2 : r ≤ 64 := by omega
  have Hr1 := Lib.hid hr1
  have Hr2 := Lib.hid hr2
  clear hr1 hr2 hrr hx64
  go_wp2_with fail
  go_loopw [16, 13, 17] (fun i s k wr => ∃ (j : Nat) (tt : List UInt8) (own : Nat → Nat), j ≤ mq ∧ j ≤ 10 ∧ i = .int .i64 (j : Int) ∧ s = .string ⟨tt.toArray⟩ ∧ tt.length = N + j ∧ LiveE wr w.heap.size own gl tt r ∧ Below w.heap.size w wr) (fun i _ _ _ => 10 - (intOf i).toNat)
  case atStart => exact ⟨0, t, own0, Nat.zero_le _, by omega, rfl, rfl, HN.out, Hle.out, Hb2.out⟩
  case round =>
    obtain ⟨j, tt, own, hj, hj10, rfl, rfl, htt, hle, hbr⟩ := hrel
    obtain ⟨M, hM⟩ : ∃ M, N + j = M := ⟨_, rfl⟩
    rw [hM] at htt
    have hM90 : M ≤ 90 := by omega
    have z1 : (⟨tt.toArray⟩ : ByteArray).size = M := (ts_size tt).trans htt
    have Hle2 := Lib.hid hle
    have Hbr := Lib.hid hbr
    have Htt := Lib.hid htt
    have HM := Lib.hid hM
    clear hle htt hM
    by_cases hgo : j < mq ∧ j < 10
    · obtain ⟨hlt, hlt10⟩ := hgo
      obtain ⟨z, hz⟩ : ∃ z, lq[j]? = some z := ⟨_, List.getElem?_eq_getElem (by have := Hrq2.out.1; rw [List.length_map] at this; omega)⟩
      obtain ⟨bq, oq, rfl, hbq2, hcq⟩ := (Hrq.out.below Hbr.out).2 (by omega)
      have d1 : wr.cell? ⟨bq, oq + j, none⟩ = some (.int .i64 z) := hcq j _ (by rw [List.getElem?_map, hz]; rfl)
      have hbl : bq < wr.heap.size := by have := Hbq.out bq oq rfl (by omega); have := Hbr.out.size; omega
      obtain ⟨k, hk1, hk2⟩ := umod_ex z ((M + 1 : Nat) : Int) (by omega)
      have hkM : k ≤ M := by omega
      have e1 : IntKind.i64.wrap ((M : Int) + 1) = ((M + 1 : Nat) : Int) := by rw [IntKind.wrap_i64]; omega
      have e2 : IntKind.u64.wrap ((M + 1 : Nat) : Int) = ((M + 1 : Nat) : Int) := by rw [IntKind.wrap_u64]; omega
      have e3 : IntKind.i64.wrap (k : Int) = (k : Int) := by rw [IntKind.wrap_i64]; omega
      obtain ⟨M1, hM1⟩ : ∃ M1, M + 1 = M1 := ⟨_, rfl⟩
      rw [hM1] at e1 e2 hk1
      have e4 : ¬ M1 = 0 := by omega
      have e5 : ¬ (M1 : Int) = 0 := by omega
      obtain ⟨ch, hch⟩ := byte_ex (IntKind.u8.wrap z) (by rw [IntKind.wrap_u8]; omega) (by rw [IntKind.wrap_u8]; omega)
      have hins := LInsert_any wr w.heap.size own gl tt r k ch Hle2.out (by rw [Htt.out]; omega) (by rw [Htt.out]; exact hkM) Hr1.out Hr2.out
      unfold InsE at hins
      have e6 := hch.symm
      have Hch := Lib.hid hch
      have Hins := Lib.hid hins
      have hktt : k ≤ tt.length := by rw [Htt.out]; exact hkM
      have Hktt := Lib.hid hktt
      clear hk2 hcq hz hch hins hM1 hktt hbq2
      go_wp2_with fail
      refine Hins.out.mono ?_
      rintro e w4 ⟨rfl, own4, hle4, hlf4⟩
      have hsz4 := hlf4.keep.size
      have hb4 := hlf4.below (by have := Hbr.out.size; omega)
      have d1' := (hb4.cell (p := ⟨bq, oq + j, none⟩) (Hbq.out bq oq rfl (by omega))).trans d1
      have Hle4 := Lib.hid hle4
      have Hb4 := Lib.hid (Hbr.out.trans hb4)
      clear hle4 hlf4 hb4 d1 Hins Hle2 Hbr hk1 e1 e2 e3 e4 e5 e6
      have d1 := d1'
      have hbl : bq < w4.heap.size := by omega
      clear d1' hsz4
      go_wp2_with fail
      refine wp_region_any (by kernel_rfl) ?_
      have hktt := Hktt.out
      have htl : tt.length = M := Htt.out
      have hcl1 : (tt.take k).length ≤ 90 := by rw [List.length_take, Htt.out]; omega
      have hcl2 : (tt.drop k).length ≤ 90 := by rw [List.length_drop, Htt.out]; omega
      refine wpAny_loose2 [73, 74, 75, 76, 77, 78, 79, 80, 81, 82, 83, 84, 85, 86, 87, 13] Grow (Vs [is (.string ⟨tt.toArray⟩), is (.int .i64 (k : Int)), is (.string ⟨(tt.take k).toArray⟩), is (.slice (some ⟨bq, oq, none⟩) mq cq), is (.int .i64 (j : Int)), is (.pointer (some ⟨bq, oq + j, none⟩)), is (.int .i64 z), is (.int .u8 (ch.toNat : Int)), row 1 1 ([ch].map bv), is (.string ⟨[ch].toArray⟩), is (.string ⟨(tt.take k ++ [ch]).toArray⟩), is (.string ⟨tt.toArray⟩), is (.int .i64 (k : Int)), is (.string ⟨(tt.drop k).toArray⟩), is (.string ⟨(insN tt k ch).toArray⟩), is (.string ⟨(insN tt k ch).toArray⟩)]) _ _ rfl (by kernel_rfl) (Below.refl _ _) (fun _ _ => Grow.trans) (stb_all (by repeat' (first | exact stb_is _ | exact stb_row _ _ _ | (refine List.forall_mem_cons.2 ⟨?_, ?_⟩) | (intro p hp; cases hp)))) ?_ ?_
      · refine steps_of ?_
        refine steps_cons ?_ ?_
        · refine step_on rfl rfl ?_
          intro ev w5 hS hc hf hold hval a K ha hK
          have e13 : ev (.tmp 13) = .string ⟨tt.toArray⟩ := hold 13 (by kernel_rfl)
          replace hS : Grow w4 w5 := ⟨hS.os, hS.tape, hS.output, hS.size, hS.block⟩
          go_simp
          exact hK _ _ (Below.refl _ _) rfl
        refine steps_cons ?_ ?_
        · refine step_on rfl rfl ?_
          intro ev w5 hS hc hf hold hval a K ha hK
          have e17 : ev (.tmp 17) = .int .i64 (k : Int) := hold 17 (by kernel_rfl)
          replace hS : Grow w4 w5 := ⟨hS.os, hS.tape, hS.output, hS.size, hS.block⟩
          go_simp
          exact hK _ _ (Below.refl _ _) rfl
        refine steps_cons ?_ ?_
        · refine step_on rfl rfl ?_
          intro ev w5 hS hc hf hold hval a K ha hK
          have e73 : ev (.tmp 73) = .string ⟨tt.toArray⟩ := hval 0 73 (by kernel_rfl) rfl
          have e74 : ev (.tmp 74) = .int .i64 (k : Int) := hval 1 74 (by kernel_rfl) rfl
          replace hS : Grow w4 w5 := ⟨hS.os, hS.tape, hS.output, hS.size, hS.block⟩
          have q1 := ts_sub_hi tt w5 k hktt
          have q2 := ts_at_hi tt w5 k hktt
          go_simp
          exact hK _ _ (Below.refl _ _) rfl
        refine steps_cons ?_ ?_
        · refine step_on rfl rfl ?_
          intro ev w5 hS hc hf hold hval a K ha hK
          have e3 : ev (.tmp 3) = .slice (some ⟨bq, oq, none⟩) mq cq := hold 3 (by kernel_rfl)
          replace hS : Grow w4 w5 := ⟨hS.os, hS.tape, hS.output, hS.size, hS.block⟩
          go_simp
          exact hK _ _ (Below.refl _ _) rfl
        refine steps_cons ?_ ?_
        · refine step_on rfl rfl ?_
          intro ev w5 hS hc hf hold hval a K ha hK
          have e16 : ev (.tmp 16) = .int .i64 (j : Int) := hold 16 (by kernel_rfl)
          replace hS : Grow w4 w5 := ⟨hS.os, hS.tape, hS.output, hS.size, hS.block⟩
          go_simp
          exact hK _ _ (Below.refl _ _) rfl
        refine steps_cons ?_ ?_
        · refine step_on rfl rfl ?_
          intro ev w5 hS hc hf hold hval a K ha hK
          have e76 : ev (.tmp 76) = .slice (some ⟨bq, oq, none⟩) mq cq := hval 3 76 (by kernel_rfl) rfl
          have e77 : ev (.tmp 77) = .int .i64 (j : Int) := hval 4 77 (by kernel_rfl) rfl
          replace hS : Grow w4 w5 := ⟨hS.os, hS.tape, hS.output, hS.size, hS.block⟩
          go_simp
          exact hK _ _ (Below.refl _ _) rfl
        refine steps_cons ?_ ?_
        · refine step_on rfl rfl ?_
          intro ev w5 hS hc hf hold hval a K ha hK
          have e78 : ev (.tmp 78) = .pointer (some ⟨bq, oq + j, none⟩) := hval 5 78 (by kernel_rfl) rfl
          replace hS : Grow w4 w5 := ⟨hS.os, hS.tape, hS.output, hS.size, hS.block⟩
          have c79 : w5.cell? ⟨bq, oq + j, none⟩ = some (.int .i64 z) := (Below.cell hS hbl).trans d1
          go_simp
          exact hK _ _ (Below.refl _ _) rfl
        refine steps_cons ?_ ?_
        · refine step_on rfl rfl ?_
          intro ev w5 hS hc hf hold hval a K ha hK
          have e79 : ev (.tmp 79) = .int .i64 z := hval 6 79 (by kernel_rfl) rfl
          replace hS : Grow w4 w5 := ⟨hS.os, hS.tape, hS.output, hS.size, hS.block⟩
          go_simp
          exact hK _ _ (Below.refl _ _) (congrArg (Value.int .u8) Hch.out.symm)
        refine steps_cons ?_ ?_
        · refine step_on rfl rfl ?_
          intro ev w5 hS hc hf hold hval a K ha hK
          have e80 : ev (.tmp 80) = .int .u8 (ch.toNat : Int) := hval 7 80 (by kernel_rfl) rfl
          replace hS : Grow w4 w5 := ⟨hS.os, hS.tape, hS.output, hS.size, hS.block⟩
          go_simp
          exact hK _ _ ((Below.refl _ _).alloc (Nat.le_refl _) _) ⟨_, _, rfl, by exact Rd.made w5 5 1 1 #[.int .u8 (ch.toNat : Int)] rfl, by omega, by unfold maxLen; omega⟩
        refine steps_cons ?_ ?_
        · refine step_on rfl rfl ?_
          intro ev w5 hS hc hf hold hval a K ha hK
          obtain ⟨A81, c81, e81, hr81, hk81, hm81⟩ : row 1 1 ([ch].map bv) (ev (.tmp 81)) w5 := hval 8 81 (by kernel_rfl) rfl
          replace hS : Grow w4 w5 := ⟨hS.os, hS.tape, hS.output, hS.size, hS.block⟩
          have q1 := strOfT hr81 c81
          go_simp
          exact hK _ _ (Below.refl _ _) rfl
        refine steps_cons ?_ ?_
        · refine step_on rfl rfl ?_
          intro ev w5 hS hc hf hold hval a K ha hK
          have e75 : ev (.tmp 75) = .string ⟨(tt.take k).toArray⟩ := hval 2 75 (by kernel_rfl) rfl
          have e82 : ev (.tmp 82) = .string ⟨[ch].toArray⟩ := hval 9 82 (by kernel_rfl) rfl
          replace hS : Grow w4 w5 := ⟨hS.os, hS.tape, hS.output, hS.size, hS.block⟩
          go_simp
          rw [if_neg (by omega)]
          exact hK _ _ (Below.refl _ _) (ts_cat _ _)
        refine steps_cons ?_ ?_
        · refine step_on rfl rfl ?_
          intro ev w5 hS hc hf hold hval a K ha hK
          have e13 : ev (.tmp 13) = .string ⟨tt.toArray⟩ := hold 13 (by kernel_rfl)
          replace hS : Grow w4 w5 := ⟨hS.os, hS.tape, hS.output, hS.size, hS.block⟩
          go_simp
          exact hK _ _ (Below.refl _ _) rfl
        refine steps_cons ?_ ?_
        · refine step_on rfl rfl ?_
          intro ev w5 hS hc hf hold hval a K ha hK
          have e17 : ev (.tmp 17) = .int .i64 (k : Int) := hold 17 (by kernel_rfl)
          replace hS : Grow w4 w5 := ⟨hS.os, hS.tape, hS.output, hS.size, hS.block⟩
          go_simp
          exact hK _ _ (Below.refl _ _) rfl
        refine steps_cons ?_ ?_
        · refine step_on rfl rfl ?_
          intro ev w5 hS hc hf hold hval a K ha hK
          have e84 : ev (.tmp 84) = .string ⟨tt.toArray⟩ := hval 11 84 (by kernel_rfl) rfl
          have e85 : ev (.tmp 85) = .int .i64 (k : Int) := hval 12 85 (by kernel_rfl) rfl
          replace hS : Grow w4 w5 := ⟨hS.os, hS.tape, hS.output, hS.size, hS.block⟩
          have q1 := ts_sub_lo tt w5 k hktt
          have q2 := ts_at_lo tt w5 k hktt
          go_simp
          exact hK _ _ (Below.refl _ _) rfl
        refine steps_cons ?_ ?_
        · refine step_on rfl rfl ?_
          intro ev w5 hS hc hf hold hval a K ha hK
          have e83 : ev (.tmp 83) = .string ⟨(tt.take k ++ [ch]).toArray⟩ := hval 10 83 (by kernel_rfl) rfl
          have e86 : ev (.tmp 86) = .string ⟨(tt.drop k).toArray⟩ := hval 13 86 (by kernel_rfl) rfl
          replace hS : Grow w4 w5 := ⟨hS.os, hS.tape, hS.output, hS.size, hS.block⟩
          go_simp
          rw [if_neg (by omega)]
          exact hK _ _ (Below.refl _ _) ((ts_cat _ _).trans (by unfold insN; rw [List.append_assoc]; rfl))
        refine steps_cons ?_ ?_
        · refine step_on rfl rfl ?_
          intro ev w5 hS hc hf hold hval a K ha hK
          have e87 : ev (.tmp 87) = .string ⟨(insN tt k ch).toArray⟩ := hval 14 87 (by kernel_rfl) rfl
          replace hS : Grow w4 w5 := ⟨hS.os, hS.tape, hS.output, hS.size, hS.block⟩
          go_simp
          exact hK _ _ (Below.refl _ _) rfl
        exact steps_nil
      · intro ev w6 hS hval
        replace hS : Grow w4 w6 := ⟨hS.os, hS.tape, hS.output, hS.size, hS.block⟩
        have e13 : ev (.tmp 13) = .string ⟨(insN tt k ch).toArray⟩ := hval 15 13 rfl
        simp only [putsOf, List.foldl_cons, List.foldl_nil, Act.put, List.setIfInBounds_toArray, List.set_cons_zero, List.set_cons_succ]
        rw [e13]
        clear hval
        have hb5 := Hb4.out.trans (Below.mono hS Hb4.out.size)
        have hl5 := Hle4.out.vis (Vis.of_below hS)
        have Hb5 := Lib.hid hb5
        have Hl5 := Lib.hid hl5
        clear hb5 hl5 hS
        go_wp2_with fail
        go_roundw
        case rel => exact ⟨j + 1, insN tt k ch, own4, by omega, by omega, by go_num, rfl, by rw [insN_len _ _ Hktt.out, Htt.out, ← HM.out]; omega, Hl5.out, Hb5.out⟩
        case measure => simp [intOf]; omega
    · have hd1 : (decide ((j : Int) < (mq : Int)) && decide ((j : Int) < 10)) = false := by
        rw [Bool.and_eq_false_iff]
        by_cases h0 : j < mq
        · exact .inr (decide_eq_false fun e => hgo ⟨h0, by omega⟩)
        · exact .inl (decide_eq_false fun e => h0 (by omega))
      have HTr := Lib.hid (HT.out.below Hbr.out hw)
      have Htp := Lib.hid (Hle2.out.tp (by rw [Htt.out]; omega))
      clear Hle2 Hle
      obtain ⟨W, hW⟩ : ∃ W, W = wr := ⟨_, rfl⟩
      subst hW
      by_cases h0 : j < mq
      · have h10 : ¬ j < 10 := fun e => hgo ⟨h0, e⟩
        clear hgo hd1
        go_wp2_with fail
        go_loopw [18, 4, 5, 19, 20] (fun i a b s f wr => ∃ (j2 : Nat) (za zb : Int), j2 ≤ 2 ∧ i = .int .i64 (j2 : Int) ∧ a = .int .i64 za ∧ b = .int .i64 zb ∧ VB w.heap.size W wr) (fun i _ _ _ _ _ => 2 - (intOf i).toNat)
        case atStart => exact ⟨0, at0, long0, by omega, rfl, rfl, rfl, VisK.refl _ _⟩
        case round =>
          obtain ⟨j2, za, zb, hj2, rfl, rfl, rfl, hv⟩ := hrel
          have Htp2 := Lib.hid (Htp.out.vis hv.1)
          have HT2 := Lib.hid (HTr.out.vb hv hw HTr.out.pos)
          have Hv := Lib.hid hv
          have hbb := Hbr.out.trans (VB.to_below hv Hbr.out.size)
          have Hbb := Lib.hid hbb
          clear hv hbb
          by_cases hlt2 : j2 < 2
          · obtain ⟨k2, q1, q2⟩ := umod_ex za ((M + 1 : Nat) : Int) (by omega)
            have hk2M : k2 ≤ M := by omega
            obtain ⟨d2, hd2⟩ : ∃ d, M - k2 = d := ⟨_, rfl⟩
            obtain ⟨k3, q3, q4⟩ := umod_ex zb ((d2 + 1 : Nat) : Int) (by omega)
            have e1 : IntKind.i64.wrap ((M : Int) + 1) = ((M + 1 : Nat) : Int) := by rw [IntKind.wrap_i64]; omega
            have e2 : IntKind.u64.wrap ((M + 1 : Nat) : Int) = ((M + 1 : Nat) : Int) := by rw [IntKind.wrap_u64]; omega
            have e3 : IntKind.i64.wrap (k2 : Int) = (k2 : Int) := by rw [IntKind.wrap_i64]; omega
            have e4 : IntKind.i64.wrap ((M : Int) - (k2 : Int)) = (d2 : Int) := by rw [IntKind.wrap_i64]; omega
            have e5 : IntKind.i64.wrap ((d2 : Int) + 1) = ((d2 + 1 : Nat) : Int) := by rw [IntKind.wrap_i64]; omega
            have e6 : IntKind.u64.wrap ((d2 + 1 : Nat) : Int) = ((d2 + 1 : Nat) : Int) := by rw [IntKind.wrap_u64]; omega
            have e7 : IntKind.i64.wrap (k3 : Int) = (k3 : Int) := by rw [IntKind.wrap_i64]; omega
            have hk3d : k3 ≤ d2 := by omega
            obtain ⟨M1, hM1⟩ : ∃ M1, M + 1 = M1 := ⟨_, rfl⟩
            obtain ⟨D1, hD1⟩ : ∃ D1, d2 + 1 = D1 := ⟨_, rfl⟩
            rw [hM1] at q1 e1 e2
            rw [hD1] at q3 e5 e6
            have g1 : ¬ M1 = 0 := by omega
            have g2 : ¬ D1 = 0 := by omega
            clear hM1 hD1 q2 q4 hd2 hk3d
            by_cases hbad : za < 0 ∨ zb < 0 ∨ (M : Int) < za ∨ (M : Int) - za < zb
            · have hno := PieceNo_any w.heap.size gl r M tt Htt.out za zb wr Htp2.out hbad
              have Hbad := Lib.hid hbad
              clear hbad
              go_wp2_with fail
              refine hno.mono ?_
              clear hno
              rintro e w5 ⟨rfl, rfl⟩
              by_cases b1 : za < 0
              · have n1 : decide (za < 0) = true := decide_eq_true b1
                clear b1
                go_wp2_with fail
                go_roundw
                case rel => exact ⟨j2 + 1, _, _, by omega, by go_num, rfl, rfl, Hv.out⟩
                case measure => simp [intOf]; omega
              have n1 : decide (za < 0) = false := decide_eq_false b1
              by_cases b2 : zb < 0
              · have n2 : decide (zb < 0) = true := decide_eq_true b2
                clear b1 b2
                go_wp2_with fail
                go_roundw
                case rel => exact ⟨j2 + 1, _, _, by omega, by go_num, rfl, rfl, Hv.out⟩
                case measure => simp [intOf]; omega
              have n2 : decide (zb < 0) = false := decide_eq_false b2
              by_cases b3 : (M : Int) < za
              · have n3 : decide ((M : Int) < za) = true := decide_eq_true b3
                have n3' : decide (za > (M : Int)) = true := decide_eq_true b3
                clear b1 b2 b3
                go_wp2_with fail
                go_roundw
                case rel => exact ⟨j2 + 1, _, _, by omega, by go_num, rfl, rfl, Hv.out⟩
                case measure => simp [intOf]; omega
              have b4 : (M : Int) - za < zb := by have := Hbad.out; omega
              have n3 : decide ((M : Int) < za) = false := decide_eq_false b3
              have n3' : decide (za > (M : Int)) = false := decide_eq_false b3
              have e8 : IntKind.i64.wrap ((M : Int) - za) = (M : Int) - za := by rw [IntKind.wrap_i64]; omega
              have n5 : decide ((M : Int) - za < zb) = true := decide_eq_true b4
              have n5' : decide (zb > (M : Int) - za) = true := decide_eq_true b4
              clear b1 b2 b3 b4
              go_wp2_with fail
              go_roundw
              case rel => exact ⟨j2 + 1, _, _, by omega, by go_num, rfl, rfl, Hv.out⟩
              case measure => simp [intOf]; omega
            · obtain ⟨y, hy⟩ : ∃ y : Nat, (y : Int) = za := ⟨za.toNat, by omega⟩
              obtain ⟨y2, hy2⟩ : ∃ y : Nat, (y : Int) = zb := ⟨zb.toNat, by omega⟩
              have hyM : y ≤ M := by omega
              have hy2M : y + y2 ≤ M := by omega
              have e8 : IntKind.i64.wrap ((M : Int) - za) = (M : Int) - za := by rw [IntKind.wrap_i64]; omega
              have e9 : IntKind.i64.wrap (za + zb) = ((y + y2 : Nat) : Int) := by rw [IntKind.wrap_i64]; omega
              have n1 : decide (za < 0) = false := decide_eq_false (by omega)
              have n2 : decide (zb < 0) = false := decide_eq_false (by omega)
              have n3 : decide ((M : Int) < za) = false := decide_eq_false (by omega)
              have n3' : decide (za > (M : Int)) = false := decide_eq_false (by omega)
              have n5 : decide ((M : Int) - za < zb) = false := decide_eq_false (by omega)
              have n5' : decide (zb > (M : Int) - za) = false := decide_eq_false (by omega)
              have hp1 := Piece_any w.heap.size gl r tt y y2 wr Htp2.out HT2.out hw (by rw [Htt.out]; omega)
              unfold PiecePost at hp1
              have k1 := fun w => ts_sub_lohi tt w y (y + y2) (by omega) (by rw [Htt.out]; omega)
              have k2' := fun w => ts_at_lohi tt w y (y + y2) (by omega) (by rw [Htt.out]; omega)
              rw [Nat.add_sub_cancel_left, hy] at k1 k2'
              rw [hy, hy2] at hp1
              generalize y + y2 = yy at e9 k1 k2' hy2M
              clear hbad hy hy2
              go_wp2_with fail
              refine hp1.mono ?_
              clear hp1
              rintro e w5 ⟨A5, c5, rfl, hm5, hu5⟩
              have Hv5 := Lib.hid (Hv.out.trans hu5)
              have s5 := fun d => strOfT (hm5.rd.below (below_drewN (Below.refl _ _) d)) c5
              have s6 := strOfT hm5.rd c5
              clear hu5 hm5
              go_wp2_with fail
              go_quiet (fail)
              have hv6 := Hv5.out.below (below_drewN (Below.refl _ _) nq)
              go_wp2_with fail
              go_roundw
              case rel => exact ⟨j2 + 1, _, _, by omega, by go_num, rfl, rfl, hv6⟩
              case measure => simp [intOf]; omega
          · obtain rfl : j2 = 2 := by omega
            obtain ⟨W9, hW9⟩ : ∃ W, W = wr := ⟨_, rfl⟩
            subst hW9
            go_wp2_with fail
            refine (Told15_any W9 HT2.out).mono ?_
            rintro e w4 ⟨rfl, hb4⟩
            have htp4 := Htp2.out.vis (Vis.of_below hb4)
            have hT4 := HT2.out.below hb4 HT2.out.pos
            have htx := TakeText_any w.heap.size gl r tt w4 htp4 hT4 hw
            unfold TakePost at htx
            rw [Htt.out] at htx
            have Hb4 := Lib.hid (Hbb.out.trans (hb4.mono Hbb.out.size))
            clear hb4 htp4 hT4
            go_wp2_with fail
            refine htx.mono ?_
            clear htx
            rintro e w5 ⟨A6, c6, rfl, hm6, hv6⟩
            have s6 := strOfT hm6.rd c6
            have Hb5 := Lib.hid (Hb4.out.trans (VB.to_below hv6 Hb4.out.size))
            clear hm6 hv6
            go_wp2_with fail
            go_ret
            exact ⟨by simp, Hb5.out⟩
      · have h10 : ¬ j < mq := h0
        clear hgo hd1
        go_wp2_with fail
        go_loopw [18, 4, 5, 19, 20] (fun i a b s f wr => ∃ (j2 : Nat) (za zb : Int), j2 ≤ 2 ∧ i = .int .i64 (j2 : Int) ∧ a = .int .i64 za ∧ b = .int .i64 zb ∧ VB w.heap.size W wr) (fun i _ _ _ _ _ => 2 - (intOf i).toNat)
        case atStart => exact ⟨0, at0, long0, by omega, rfl, rfl, rfl, VisK.refl _ _⟩
        case round =>
          obtain ⟨j2, za, zb, hj2, rfl, rfl, rfl, hv⟩ := hrel
          have Htp2 := Lib.hid (Htp.out.vis hv.1)
          have HT2 := Lib.hid (HTr.out.vb hv hw HTr.out.pos)
          have Hv := Lib.hid hv
          have hbb := Hbr.out.trans (VB.to_below hv Hbr.out.size)
          have Hbb := Lib.hid hbb
          clear hv hbb
          by_cases hlt2 : j2 < 2
          · obtain ⟨k2, q1, q2⟩ := umod_ex za ((M + 1 : Nat) : Int) (by omega)
            have hk2M : k2 ≤ M := by omega
            obtain ⟨d2, hd2⟩ : ∃ d, M - k2 = d := ⟨_, rfl⟩
            obtain ⟨k3, q3, q4⟩ := umod_ex zb ((d2 + 1 : Nat) : Int) (by omega)
            have e1 : IntKind.i64.wrap ((M : Int) + 1) = ((M + 1 : Nat) : Int) := by rw [IntKind.wrap_i64]; omega
            have e2 : IntKind.u64.wrap ((M + 1 : Nat) : Int) = ((M + 1 : Nat) : Int) := by rw [IntKind.wrap_u64]; omega
            have e3 : IntKind.i64.wrap (k2 : Int) = (k2 : Int) := by rw [IntKind.wrap_i64]; omega
            have e4 : IntKind.i64.wrap ((M : Int) - (k2 : Int)) = (d2 : Int) := by rw [IntKind.wrap_i64]; omega
            have e5 : IntKind.i64.wrap ((d2 : Int) + 1) = ((d2 + 1 : Nat) : Int) := by rw [IntKind.wrap_i64]; omega
            have e6 : IntKind.u64.wrap ((d2 + 1 : Nat) : Int) = ((d2 + 1 : Nat) : Int) := by rw [IntKind.wrap_u64]; omega
            have e7 : IntKind.i64.wrap (k3 : Int) = (k3 : Int) := by rw [IntKind.wrap_i64]; omega
            have hk3d : k3 ≤ d2 := by omega
            obtain ⟨M1, hM1⟩ : ∃ M1, M + 1 = M1 := ⟨_, rfl⟩
            obtain ⟨D1, hD1⟩ : ∃ D1, d2 + 1 = D1 := ⟨_, rfl⟩
            rw [hM1] at q1 e1 e2
            rw [hD1] at q3 e5 e6
            have g1 : ¬ M1 = 0 := by omega
            have g2 : ¬ D1 = 0 := by omega
            clear hM1 hD1 q2 q4 hd2 hk3d
            by_cases hbad : za < 0 ∨ zb < 0 ∨ (M : Int) < za ∨ (M : Int) - za < zb
            · have hno := PieceNo_any w.heap.size gl r M tt Htt.out za zb wr Htp2.out hbad
              have Hbad := Lib.hid hbad
              clear hbad
              go_wp2_with fail
              refine hno.mono ?_
              clear hno
              rintro e w5 ⟨rfl, rfl⟩
              by_cases b1 : za < 0
              · have n1 : decide (za < 0) = true := decide_eq_true b1
                clear b1
                go_wp2_with fail
                go_roundw
                case rel => exact ⟨j2 + 1, _, _, by omega, by go_num, rfl, rfl, Hv.out⟩
                case measure => simp [intOf]; omega
              have n1 : decide (za < 0) = false := decide_eq_false b1
              by_cases b2 : zb < 0
              · have n2 : decide (zb < 0) = true := decide_eq_true b2
                clear b1 b2
                go_wp2_with fail
                go_roundw
                case rel => exact ⟨j2 + 1, _, _, by omega, by go_num, rfl, rfl, Hv.out⟩
                case measure => simp [intOf]; omega
              have n2 : decide (zb < 0) = false := decide_eq_false b2
              by_cases b3 : (M : Int) < za
              · have n3 : decide ((M : Int) < za) = true := decide_eq_true b3
                have n3' : decide (za > (M : Int)) = true := decide_eq_true b3
                clear b1 b2 b3
                go_wp2_with fail
                go_roundw
                case rel => exact ⟨j2 + 1, _, _, by omega, by go_num, rfl, rfl, Hv.out⟩
                case measure => simp [intOf]; omega
              have b4 : (M : Int) - za < zb := by have := Hbad.out; omega
              have n3 : decide ((M : Int) < za) = false := decide_eq_false b3
              have n3' : decide (za > (M : Int)) = false := decide_eq_false b3
              have e8 : IntKind.i64.wrap ((M : Int) - za) = (M : Int) - za := by rw [IntKind.wrap_i64]; omega
              have n5 : decide ((M : Int) - za < zb) = true := decide_eq_true b4
              have n5' : decide (zb > (M : Int) - za) = true := decide_eq_true b4
              clear b1 b2 b3 b4
              go_wp2_with fail
              go_roundw
              case rel => exact ⟨j2 + 1, _, _, by omega, by go_num, rfl, rfl, Hv.out⟩
              case measure => simp [intOf]; omega
            · obtain ⟨y, hy⟩ : ∃ y : Nat, (y : Int) = za := ⟨za.toNat, by omega⟩
              obtain ⟨y2, hy2⟩ : ∃ y : Nat, (y : Int) = zb := ⟨zb.toNat, by omega⟩
              have hyM : y ≤ M := by omega
              have hy2M : y + y2 ≤ M := by omega
              have e8 : IntKind.i64.wrap ((M : Int) - za) = (M : Int) - za := by rw [IntKind.wrap_i64]; omega
              have e9 : IntKind.i64.wrap (za + zb) = ((y + y2 : Nat) : Int) := by rw [IntKind.wrap_i64]; omega
              have n1 : decide (za < 0) = false := decide_eq_false (by omega)
              have n2 : decide (zb < 0) = false := decide_eq_false (by omega)
              have n3 : decide ((M : Int) < za) = false := decide_eq_false (by omega)
              have n3' : decide (za > (M : Int)) = false := decide_eq_false (by omega)
              have n5 : decide ((M : Int) - za < zb) = false := decide_eq_false (by omega)
              have n5' : decide (zb > (M : Int) - za) = false := decide_eq_false (by omega)
              have hp1 := Piece_any w.heap.size gl r tt y y2 wr Htp2.out HT2.out hw (by rw [Htt.out]; omega)
              unfold PiecePost at hp1
              have k1 := fun w => ts_sub_lohi tt w y (y + y2) (by omega) (by rw [Htt.out]; omega)
              have k2' := fun w => ts_at_lohi tt w y (y + y2) (by omega) (by rw [Htt.out]; omega)
              rw [Nat.add_sub_cancel_left, hy] at k1 k2'
              rw [hy, hy2] at hp1
              generalize y + y2 = yy at e9 k1 k2' hy2M
              clear hbad hy hy2
              go_wp2_with fail
              refine hp1.mono ?_
              clear hp1
              rintro e w5 ⟨A5, c5, rfl, hm5, hu5⟩
              have Hv5 := Lib.hid (Hv.out.trans hu5)
              have s5 := fun d => strOfT (hm5.rd.below (below_drewN (Below.refl _ _) d)) c5
              have s6 := strOfT hm5.rd c5
              clear hu5 hm5
              go_wp2_with fail
              go_quiet (fail)
              have hv6 := Hv5.out.below (below_drewN (Below.refl _ _) nq)
              go_wp2_with fail
              go_roundw
              case rel => exact ⟨j2 + 1, _, _, by omega, by go_num, rfl, rfl, hv6⟩
              case measure => simp [intOf]; omega
          · obtain rfl : j2 = 2 := by omega
            obtain ⟨W9, hW9⟩ : ∃ W, W = wr := ⟨_, rfl⟩
            subst hW9
            go_wp2_with fail
            refine (Told15_any W9 HT2.out).mono ?_
            rintro e w4 ⟨rfl, hb4⟩
            have htp4 := Htp2.out.vis (Vis.of_below hb4)
            have hT4 := HT2.out.below hb4 HT2.out.pos
            have htx := TakeText_any w.heap.size gl r tt w4 htp4 hT4 hw
            unfold TakePost at htx
            rw [Htt.out] at htx
            have Hb4 := Lib.hid (Hbb.out.trans (hb4.mono Hbb.out.size))
            clear hb4 htp4 hT4
            go_wp2_with fail
            refine htx.mono ?_
            clear htx
            rintro e w5 ⟨A6, c6, rfl, hm6, hv6⟩
            have s6 := strOfT hm6.rd c6
            have Hb5 := Lib.hid (Hb4.out.trans (VB.to_below hv6 Hb4.out.size))
            clear hm6 hv6
            go_wp2_with fail
            go_ret
            exact ⟨by simp, Hb5.out⟩
end Go.Proofs.YthkkcelfgcholaaGreatDoor
