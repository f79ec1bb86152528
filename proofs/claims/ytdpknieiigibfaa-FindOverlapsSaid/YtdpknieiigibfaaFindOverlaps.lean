/- The walk of FindOverlaps: a run of a letter stands in a longer run as often as there is room. Conditions: none. -/
import Derived.Test.YtdpknieiigibfaaFnOcc2
import Derived.Lib.MinMax
namespace Go.Proofs.Ytdpknieiigibfaa
open Go.RowKit
set_option linter.unusedVariables false
set_option linter.unusedSimpArgs false
theorem rep_snoc {α : Type} (k : Nat) (x : α) : List.replicate k x ++ [x] = List.replicate (k + 1) x := by
  rw [List.replicate_succ']
set_option maxRecDepth 100000 in
set_option maxHeartbeats 4000000 in
theorem FindOverlaps_any (c n k : Int) (w : World) (hc0 : 0 ≤ c) (hc1 : c ≤ 255) :
    Calls Try.prog 6 #[.int .u8 c, .int .i64 n, .int .i64 k] w fun e w' => e = .returned (.bool true) ∧ Below w.heap.size w w' := by
  obtain ⟨i0, hi0, hz0, hz1, hz2⟩ := info_parts u8_info
  obtain ⟨ch, hch⟩ := byte_ex c hc0 hc1
  obtain ⟨a, ha1, ha2⟩ := umod_ex n 61 (by omega)
  obtain ⟨b, hb1, hb2⟩ := umod_ex k 21 (by omega)
  have e1 : IntKind.i64.wrap (a : Int) = (a : Int) := by rw [IntKind.wrap_i64]; omega
  have e2 : IntKind.i64.wrap (b : Int) = (b : Int) := by rw [IntKind.wrap_i64]; omega
  have hbv : bv ch = .int .u8 c := by unfold bv; rw [hch]
  have hal : a ≤ 60 := by omega
  have hbl : b ≤ 20 := by omega
  have Hbv := Lib.hid hbv
  have Hal := Lib.hid hal
  have Hbl := Lib.hid hbl
  clear ha2 hb2 hbv hal hbl hch hc0 hc1
  go_enter Try.func6, Try.ntmps6
  go_wp2_with fail
  clear ha1 hb1 e1 e2
  go_loopw [9, 11] (fun v i wr => ∃ j : Nat, j ≤ a ∧ i = .int .i64 j ∧ wr.ownsRow w.heap.size 5 1 v j (List.replicate j (.int .u8 c)) ∧ Below w.heap.size w wr) (fun _ i _ => a - (intOf i).toNat)
  case atStart => exact ⟨0, by omega, rfl, World.ownsRow_nil _ _ _ _, Below.refl _ _⟩
  case round =>
    obtain ⟨j, hj, rfl, hown, hb⟩ := hrel
    have hsz := hb.size
    by_cases hlt : j < a
    · have hltI : (j : Int) < (a : Int) := by omega
      have hal := Hal.out
      have Hown := Lib.hid hown
      have Hb := Lib.hid hb
      clear hown hb
      go_wp2_with (at_builtin; refine wpList_push _ rfl (.tmp 28) (.tmp 30) _ rfl w.heap.size 5 i0 (.int .u8 0) 1 1 Try.underlying23 hi0 hz0 hz1 hz2 rfl (by decide) _ j _ rfl Hown.out rfl rfl (by simp [Value.oneCell']) (by unfold maxLen; omega) (by omega) hsz ?_; intro v2 w2 hown2 hg2 hs2 hat2)
      have hb3 := below_grown Hb.out Hown.out hg2 hsz
      go_roundw
      case rel =>
        refine ⟨j + 1, by omega, by go_num, ?_, hb3⟩
        have e3 := rep_snoc j (Value.int .u8 c)
        rw [← e3]
        exact hown2
      case measure => simp [intOf]; omega
    · obtain rfl : a = j := by omega
      obtain ⟨A1, c1, rfl, hm1⟩ := made_of_own hown
      have Hm1 := Lib.hid hm1
      have Hb1 := Lib.hid hb
      clear hown hm1 hb hlt hj
      obtain ⟨w2, hw2⟩ : ∃ w2, w2 = wr := ⟨_, rfl⟩
      subst hw2
      go_wp2_with fail
      go_loopw [10, 12] (fun v i wr => ∃ j : Nat, j ≤ b ∧ i = .int .i64 j ∧ wr.ownsRow w2.heap.size 5 1 v j (List.replicate j (.int .u8 c)) ∧ Below w2.heap.size w2 wr) (fun _ i _ => b - (intOf i).toNat)
      case atStart => exact ⟨0, by omega, rfl, World.ownsRow_nil _ _ _ _, Below.refl _ _⟩
      case round =>
        obtain ⟨j, hj, rfl, hown, hb⟩ := hrel
        have hsz := hb.size
        by_cases hlt : j < b
        · have hltI : (j : Int) < (b : Int) := by omega
          have hbl := Hbl.out
          have Hown := Lib.hid hown
          have Hb := Lib.hid hb
          clear hown hb
          go_wp2_with (at_builtin; refine wpList_push _ rfl (.tmp 37) (.tmp 39) _ rfl w2.heap.size 5 i0 (.int .u8 0) 1 1 Try.underlying23 hi0 hz0 hz1 hz2 rfl (by decide) _ j _ rfl Hown.out rfl rfl (by simp [Value.oneCell']) (by unfold maxLen; omega) (by omega) hsz ?_; intro v2 w3 hown2 hg2 hs2 hat2)
          have hb3 := below_grown Hb.out Hown.out hg2 hsz
          go_roundw
          case rel =>
            refine ⟨j + 1, by omega, by go_num, ?_, hb3⟩
            have e3 := rep_snoc j (Value.int .u8 c)
            rw [← e3]
            exact hown2
          case measure => simp [intOf]; omega
        · obtain rfl : b = j := by omega
          obtain ⟨A2, c2, rfl, hm2⟩ := made_of_own hown
          obtain ⟨w3, hw3⟩ : ∃ w3, w3 = wr := ⟨_, rfl⟩
          subst hw3
          obtain ⟨t, ht⟩ : ∃ t, List.replicate a ch = t := ⟨_, rfl⟩
          obtain ⟨q, hq⟩ : ∃ q, List.replicate b ch = q := ⟨_, rfl⟩
          have htl : t.length = a := by rw [← ht]; simp
          have hql : q.length = b := by rw [← hq]; simp
          have hocc := occ_rep a b ch
          rw [ht, hq] at hocc
          have hm1 := Hm1.out.below hb
          rw [← Hbv.out, ← List.map_replicate, ht] at hm1
          rw [← Hbv.out, ← List.map_replicate, hq] at hm2
          have hb2 := Hb1.out.trans (hb.mono Hb1.out.size)
          have Hm1' := Lib.hid hm1
          have Hm2 := Lib.hid hm2
          have Hb2 := Lib.hid hb2
          have Htl := Lib.hid htl
          have Hql := Lib.hid hql
          have Hocc := Lib.hid hocc
          clear hown hm1 hm2 hb hb2 htl hql hocc ht hq Hm1 Hb1 Hbv hlt hj
          go_wp2_with fail
          have hbA : Below w3.heap.size w3 (w3.alloc (.cells #[.slice A1 a c1] 23)) := (Below.refl _ _).alloc (Nat.le_refl _) _
          have hrd := Rd.made w3 23 1 1 #[.slice A1 a c1] rfl
          have hm1A := Hm1'.out.below hbA
          refine (TxtNew_any 5 _ 1 1 _ [⟨A1, a, c1, t⟩] t (by simp [catS]) _ hrd (fun s hs => by simp at hs; subst hs; exact hm1A.rd) (Nat.le_refl _) (by omega) (by rw [Htl.out]; have := Hal.out; omega) (by omega) (by omega)).mono ?_
          rintro e w4 ⟨gl, rfl, hgl, htx, hb3⟩
          have hb23 := hbA.trans (hb3.mono hbA.size)
          have hbw3 := Hb2.out.trans (hb23.mono Hb2.out.size)
          have hm23 := Hm2.out.below hb23
          have htx3 := htx.mono (B' := w.heap.size) (by have := Hb2.out.size; have := hbA.size; omega)
          have Hm2' := Lib.hid hm23
          have Hb3 := Lib.hid hbw3
          have Ht := Lib.hid htx3
          clear hrd hm1A hb3 hbA hb23 hbw3 hm23 htx3 htx hgl Hb2 Hm1' Hm2 hsz
          obtain ⟨W, hW⟩ : ∃ W, W = w4 := ⟨_, rfl⟩
          subst hW
          go_wp2_with fail
          refine (Told13_any W).mono ?_
          rintro e w5 ⟨rfl, hb5⟩
          have hv5 : VB w.heap.size W w5 := VisK.of_below hb5
          have Hv5 := Lib.hid hv5
          clear hb5 hv5
          have hx1 : IntKind.i64.wrap ((a : Int) - b) = (a : Int) - b := by rw [IntKind.wrap_i64]; have := Hal.out; have := Hbl.out; omega
          have hx2 : IntKind.i64.wrap ((a : Int) - b + 1) = (a : Int) - b + 1 := by rw [IntKind.wrap_i64]; have := Hal.out; have := Hbl.out; omega
          have hx3 : max (0 : Int) ((a : Int) - b + 1) = ((a + 1 - b : Nat) : Int) := by omega
          go_wp2_with fail
          have hbp : Below w5.heap.size w5 (w5.alloc (.cells #[.slice A2 b c2] 23)) := (Below.refl _ _).alloc (Nat.le_refl _) _
          have hrd := Rd.made w5 23 1 1 #[.slice A2 b c2] rfl
          have hv6 := Hv5.out.trans (VisK.of_below hbp)
          have hm2 := hv6.1.made Hm2'.out (by decide) (by decide)
          refine (TxtCount_any w.heap.size gl t _ 1 1 _ [⟨A2, b, c2, q⟩] q (by simp [catS]) _ (Ht.out.vis hv6.1) hrd (fun s hs => by simp at hs; subst hs; exact hm2.rd) (Nat.le_refl _) (by omega) (by rw [Hql.out]; have := Hbl.out; omega)).mono ?_
          rintro e w8 ⟨rfl, hv8⟩
          rw [Hocc.out]
          have hv9 := hv6.trans hv8
          have Hv9 := Lib.hid hv9
          clear hbp hrd hv6 hm2 hv8 hv9
          go_wp2_with fail
          go_ret
          exact ⟨rfl, Hb3.out.trans (VB.to_below Hv9.out Hb3.out.size)⟩
end Go.Proofs.Ytdpknieiigibfaa
