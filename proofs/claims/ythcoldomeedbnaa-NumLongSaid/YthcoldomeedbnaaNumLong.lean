/- The walk of the law NumLong. No conditions. -/
import Derived.Test.YthcoldomeedbnaaNumLaws
import Derived.Test.YthcoldomeedbnaaNumMath
import Derived.OpenShut
namespace Go.Proofs.Ythcoldomeedbnaa
open Go.RowKit
set_option linter.unusedVariables false
theorem getB_128 (l : List UInt8) : getB (128 :: l) 0 = (0, 0, 4) := by
  rw [getB, if_neg (by simp; omega)]
  simp only [Int.toNat_zero, List.drop_zero]
  rw [getGo_cons]
  rfl
theorem rep_snoc (k : Nat) (x : Value) : List.replicate k x ++ [x] = List.replicate (k + 1) x := by
  rw [List.replicate_succ']
set_option maxRecDepth 100000 in
set_option maxHeartbeats 1000000 in
theorem walkNumLong (w : World) (n : Int) (hn : (Lit.int .u64 n).wf = true) (more : Int) (hmore : (Lit.int .i64 more).wf = true) :
    Calls Try.prog 11 #[.int .u64 n, .int .i64 more] w fun e w' => e = .returned (.bool true) ∧ Below w.heap.size w w' := by
  obtain ⟨i0, hi0, hz0, hz1, hz2⟩ := info_parts u8_info
  have hb0 := Below.refl w.heap.size w
  have hbn := bounds_u64 hn
  obtain ⟨x, rfl⟩ := Int.eq_ofNat_of_zero_le hbn.1
  have Hx := Lib.hid (show x < 18446744073709551616 by omega)
  obtain ⟨t, ht, ht3⟩ := umod_ex more 3 (by omega)
  have hx10 := encB_len10 x Hx.out
  generalize hbx : encB x = bx at *
  obtain ⟨n1, h1⟩ : ∃ n1, bx.length = n1 := ⟨_, rfl⟩
  rw [h1] at hx10
  have Hn1 := Lib.hid h1
  have Hbx := Lib.hid hbx
  clear hn hbn hmore h1 hbx
  go_enter Try.func11, Try.ntmps11
  go_wp2_with fail
  refine (Put_is _ _ _ _ [x] _ bx n1 ((encAll_one x).trans Hbx.out) Hn1.out (Rd.made _ _ 1 1 _ rfl) (Nat.le_refl _) (by simp; exact Hx.out) (by omega)).mono ?_
  rintro e w1 ⟨A1, c1, rfl, hm1, hb1⟩
  have hB1 := (hb0.alloc (Nat.le_refl _) _).trans (hb1.mono (by simp))
  have hs1 := hB1.size
  have Hr1 := Lib.hid hm1.rd
  clear hb1 hb0 hm1
  go_wp2_with fail
  go_loopw [6, 7] (fun v i wr => ∃ k : Nat, k ≤ t + 1 ∧ i = .int .i64 k ∧ wr.ownsRow w1.heap.size 5 1 v k (List.replicate k (bv 128)) ∧ Below w1.heap.size w1 wr) (fun _ i _ => t + 1 - (intOf i).toNat)
  case atStart => exact ⟨0, Nat.zero_le _, rfl, World.ownsRow_nil _ _ _ _, Below.refl _ _⟩
  case round =>
    obtain ⟨k, hk, rfl, hown, hb⟩ := hrel
    have hb2 := hb.size
    by_cases hlt : k < t + 1
    · go_wp2_with (at_builtin; refine wpList_push _ rfl (.tmp 30) (.tmp 31) _ rfl w1.heap.size 5 i0 (.int .u8 0) 1 1 Try.underlying33 hi0 hz0 hz1 hz2 rfl (by decide) u6 k _ rfl hown rfl rfl (by simp [Value.oneCell']) (by unfold maxLen; omega) (by omega) hb2 ?_; intro v2 w2 hown2 hg2 hs2 hat2)
      have hb3 := below_grown hb hown hg2 hb2
      go_roundw
      case rel =>
        refine ⟨k + 1, by omega, by go_num, ?_, hb3⟩
        rw [← rep_snoc]
        exact hown2
      case measure => simp [intOf]; omega
    · have hkt : k = t + 1 := by omega
      have hown' : wr.ownsRow w1.heap.size 5 1 u6 (t + 1) ((List.replicate (t + 1) (128 : UInt8)).map bv) := by rw [List.map_replicate]; rw [hkt] at hown; exact hown
      have hB2 := hB1.trans (hb.mono hs1)
      have hge : t + 1 ≤ k := by omega
      have Hr1' := Lib.hid (Hr1.out.below hb)
      have hone := oneCell_bv bx
      have Hone := Lib.hid hone
      clear hkt hown hone
      go_wp2_with (at_builtin; refine wpList_append_rd _ rfl (.tmp 34) (.tmp 35) _ rfl w1.heap.size 5 i0 (.int .u8 0) 1 1 Try.underlying33 hi0 hz0 hz1 hz2 rfl (by decide) u6 (t + 1) _ rfl hown' w1.heap.size A1 n1 c1 (bx.map bv) rfl Hr1'.out Hone.out (by unfold maxLen; omega) (by omega) hb2 ?_; intro v3 w3 hown3 hg3 hat3; have hB3 := below_grown hb hown' hg3 hb2; obtain ⟨A3, c3, rfl, hm3⟩ := made_of_own hown3; clear hown3 hg3 hat3)
      have hB3' := hB1.trans (hB3.mono hs1)
      have hm3' : Made w3 w1.heap.size 5 1 A3 (t + 1 + n1) c3 ((128 :: (List.replicate t (128 : UInt8) ++ bx)).map bv) := by
        have := hm3
        rw [← List.map_append, List.replicate_succ, List.cons_append] at this
        exact this
      have Hr3 := Lib.hid hm3'.rd
      have hc3 := hm3'.cap
      have hc4 := hm3'.max
      have hs3 := hB3'.size
      clear hm3 hm3' hB3 hB2 hown' hb
      refine (Get_is _ _ _ _ _ _ _ 0 0 4 (getB_128 _) Hr3.out hc3 hc4).mono ?_
      rintro e w5 ⟨rfl, rfl⟩
      go_wp2_with fail
      refine (Get_is _ _ _ [130, 128, 128, 128, 128, 128, 128, 128, 128, 0] _ _ _ 0 0 4 (by decide) (Rd.made _ _ 1 10 _ rfl) (by omega) (by decide)).mono ?_
      rintro e w5 ⟨rfl, rfl⟩
      go_wp2_with fail
      refine (Get_is _ _ _ [129, 128, 128, 128, 128, 128, 128, 128, 128, 0] _ _ _ 9223372036854775808 10 0 (by decide) (Rd.made _ _ 1 10 _ rfl) (by omega) (by decide)).mono ?_
      rintro e w5 ⟨rfl, rfl⟩
      go_wp2_with fail
      refine (told16_any _).mono ?_
      rintro e w5 ⟨rfl, hb5⟩
      have hB5 := (hB3'.alloc hs3 _).trans (hb5.mono (by simp; omega))
      clear hb5 hB3'
      go_wp2_with fail
      go_ret
      exact ⟨rfl, hB5⟩
end Go.Proofs.Ythcoldomeedbnaa
