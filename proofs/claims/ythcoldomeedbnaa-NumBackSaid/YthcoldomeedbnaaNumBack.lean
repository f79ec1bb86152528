/- The walk of the law NumBack. No conditions. -/
import Derived.Test.YthcoldomeedbnaaNumLaws
import Derived.Test.YthcoldomeedbnaaNumMath
import Derived.OpenShut
namespace Go.Proofs.Ythcoldomeedbnaa
open Go.RowKit
set_option linter.unusedVariables false
/-- Where the i-th number's bytes begin. -/
def numPos (a : List UInt8) (l : List Nat) (i : Nat) : Nat := a.length + (encAll (l.take i)).length
theorem numPos_succ (a : List UInt8) (l : List Nat) (i n : Nat) (h : l[i]? = some n) : numPos a l (i + 1) = numPos a l i + (encB n).length := by
  unfold numPos
  rw [encAll_snoc l i n h, List.length_append]
  omega
theorem encAll_split (l : List Nat) (i n : Nat) (h : l[i]? = some n) : encAll l = encAll (l.take i) ++ (encB n ++ encAll (l.drop (i + 1))) := by
  have hi : i < l.length := (List.getElem?_eq_some_iff.1 h).1
  have hn : l[i] = n := (List.getElem?_eq_some_iff.1 h).2
  conv => lhs; rw [← List.take_append_drop i l, List.drop_eq_getElem_cons hi, hn]
  simp [encAll]
theorem numPos_get (a : List UInt8) (l : List Nat) (i n : Nat) (h : l[i]? = some n) (hn : n < 18446744073709551616) :
    getB (a ++ encAll l) (numPos a l i : Int) = (n, (numPos a l (i + 1) : Int), 0) := by
  have := getB_at (a ++ encAll (l.take i)) (encAll (l.drop (i + 1))) n hn
  rw [List.append_assoc, ← encAll_split l i n h] at this
  rw [numPos_succ a l i n h]
  simpa [numPos] using this
theorem numPos_all (a : List UInt8) (l : List Nat) : numPos a l l.length = (a ++ encAll l).length := by simp [numPos]
theorem numPos_cut (a : List UInt8) (l : List Nat) (i n : Nat) (h : l[i]? = some n) (hi : l.length = i + 1) :
    getB ((a ++ encAll l).take ((a ++ encAll l).length - 1)) (numPos a l i : Int) = (0, (numPos a l i : Int), 4) := by
  have hp := encB_pos n
  have e : encAll l = encAll (l.take i) ++ encB n := by
    have := encAll_split l i n h
    rw [this, List.drop_eq_nil_of_le (by omega)]
    simp [encAll]
  have := getB_cut (a ++ encAll (l.take i)) n ((encB n).length - 1) (by omega)
  have e2 : (a ++ encAll l).take ((a ++ encAll l).length - 1) = a ++ encAll (l.take i) ++ (encB n).take ((encB n).length - 1) := by
    rw [e, ← List.append_assoc, List.take_append, List.take_of_length_le (by simp; omega)]
    congr 2
    simp
    omega
  rw [e2]
  simpa [numPos] using this
theorem numPos_le (a : List UInt8) (l : List Nat) (i : Nat) (h : i ≤ l.length) : numPos a l i ≤ (a ++ encAll l).length := by
  rw [← numPos_all]
  unfold numPos
  have : encAll l = encAll (l.take i) ++ encAll (l.drop i) := by
    unfold encAll
    rw [← List.flatMap_append, List.take_append_drop]
  have := congrArg List.length this
  rw [List.length_append] at this
  rw [List.take_length]
  omega
set_option maxRecDepth 100000 in
set_option maxHeartbeats 1000000 in
theorem walkNumBack (w : World) (A0 : Option Addr) (m0 c0 : Nat) (l : List Nat) (hr0 : Rd w w.heap.size 1 A0 m0 (l.map uv)) (hl : ∀ n ∈ l, n < 18446744073709551616) (hmc0 : m0 ≤ c0) (hcl0 : c0 ≤ maxLen)
    (A1 : Option Addr) (m1 c1 : Nat) (a : List UInt8) (hr1 : Rd w w.heap.size 1 A1 m1 (a.map bv)) (hmc1 : m1 ≤ c1) (hcl1 : c1 ≤ maxLen) :
    Calls Try.prog 8 #[.slice A0 m0 c0, .slice A1 m1 c1] w fun e w' => e = .returned (.bool true) ∧ Below w.heap.size w w' := by
  obtain ⟨i0, hi0, hz0, hz1, hz2⟩ := info_parts u8_info
  have hb0 := Below.refl w.heap.size w
  have hll : l.length = m0 := by simpa using hr0.1
  have hla : a.length = m1 := by simpa using hr1.1
  have Hll := Lib.hid hll
  have Hla := Lib.hid hla
  have Hl := Lib.hid hl
  have Hr0 := Lib.hid hr0
  have Hr1 := Lib.hid hr1
  clear hll hla hr0 hr1 hl
  by_cases hin : 1 ≤ m0 ∧ m0 ≤ 12 ∧ m1 ≤ 9
  · obtain ⟨h1, h2, h3⟩ := hin
    have hd1 : decide ((m0 : Int) < 1) = false := by simp; omega
    have hd2 : decide ((12 : Int) < (m0 : Int)) = false := by simp; omega
    have hd3 : decide ((9 : Int) < (m1 : Int)) = false := by simp; omega
    go_enter Try.func8, Try.ntmps8
    go_wp2_with (at_builtin; refine wpList_append_rd _ rfl (.tmp 29) (.tmp 30) _ rfl w.heap.size 5 i0 (.int .u8 0) 1 1 Try.underlying33 hi0 hz0 hz1 hz2 rfl (by decide) (.slice (some ⟨w.heap.size, 0, none⟩) 0 0) 0 [] rfl (own_empty w 5 1) w.heap.size A1 m1 c1 (a.map bv) rfl (Hr1.out.alloc (Nat.le_refl _) _) (oneCell_bv a) (by unfold maxLen; omega) (by omega) (by simp) ?_; intro v1 w1 hown1 hg1 hat1)
    have hB1 := below_grown (hb0.alloc (Nat.le_refl _) _) (own_empty w 5 1) hg1 (by simp)
    clear hg1 hat1
    have hsz1 := hB1.size
    obtain ⟨k2, hk2⟩ : ∃ k2, (encAll l).length = k2 := ⟨_, rfl⟩
    have hk2' : k2 ≤ 132 := by rw [← hk2]; have := encAll_len l; have := Hll.out; omega
    have Hk2 := Lib.hid hk2
    refine (Put_is _ _ _ _ l w1 (encAll l) k2 rfl hk2 (Hr0.out.below hB1) hsz1 Hl.out (by omega)).mono ?_
    rintro e w2 ⟨A2, c2, rfl, hm2, hb2⟩
    have hB2 := hB1.trans (hb2.mono hB1.size)
    have hsz2 := hB2.size
    have Hr2 := Lib.hid hm2.rd
    have hown1' := own_below hown1 hb2
    clear hm2 hown1 hb2 hB1 hk2
    have Hone := Lib.hid (oneCell_bv (encAll l))
    go_wp2_with (at_builtin; refine wpList_append_rd _ rfl (.tmp 31) (.tmp 33) _ rfl w.heap.size 5 i0 (.int .u8 0) 1 1 Try.underlying33 hi0 hz0 hz1 hz2 rfl (by decide) v1 (0 + m1) ([] ++ a.map bv) rfl hown1' w2.heap.size A2 k2 c2 ((encAll l).map bv) rfl Hr2.out Hone.out (by unfold maxLen; omega) (by omega) hsz2 ?_; intro v3 w3 hown3 hg3 hat3; have hB3 := below_grown hB2 hown1' hg3 hsz2; obtain ⟨A4, c4, rfl, hm4⟩ := made_of_own hown3; clear hg3 hat3 hown3 hB2)
    have hsz3 := hB3.size
    have hm4' : Made w3 w.heap.size 5 1 A4 (m1 + k2) c4 ((a ++ encAll l).map bv) := by simpa [List.map_append] using hm4
    obtain ⟨N, hN⟩ : ∃ N, N = m1 + k2 := ⟨_, rfl⟩
    have hNl : (a ++ encAll l).length = N := by have := Hla.out; have := Hk2.out; simp; omega
    have HNl := Lib.hid hNl
    have hN1 : N ≤ 141 := by omega
    rw [← hN] at hm4'
    have hc4 := hm4'.cap
    have hc4' := hm4'.max
    have Hr4 := Lib.hid hm4'.rd
    have hp0 : numPos a l 0 = m1 := by have := Hla.out; simp [numPos, encAll]; exact this
    have Hp0 := Lib.hid hp0
    rw [← hN]
    clear hm4 hm4' hN hNl hp0 hk2'
    go_wp2_with fail
    go_loop [6, 7, 8] (fun p q i => ∃ k : Nat, k ≤ m0 ∧ i = .int .i64 k ∧ p = .int .i64 (numPos a l k : Int) ∧ q = .int .i64 (numPos a l (k - 1) : Int)) (fun _ _ i => m0 - (intOf i).toNat)
    case atStart => exact ⟨0, Nat.zero_le _, rfl, by rw [Hp0.out], by rw [Nat.zero_sub, Hp0.out]⟩
    case round =>
      obtain ⟨k, hk, rfl, rfl, rfl⟩ := hrel
      by_cases hlt : k < m0
      · obtain ⟨n, hn⟩ : ∃ n, l[k]? = some n := ⟨l[k]'(by have := Hll.out; omega), List.getElem?_eq_getElem (by have := Hll.out; omega)⟩
        obtain ⟨b, off, u, rfl, hbl, hu, hc⟩ := (Hr0.out.below hB3).get hlt
        rw [List.getElem?_map, hn] at hu
        simp at hu
        subst hu
        unfold uv at hc
        have hg := numPos_get a l k n hn (Hl.out n (List.mem_of_getElem? hn))
        have hs := numPos_succ a l k n hn
        have hpos := encB_pos n
        have hle := numPos_le a l (k + 1) (by have := Hll.out; omega)
        rw [HNl.out] at hle
        have hp1 : numPos a l k < numPos a l (k + 1) := by omega
        have Hg := Lib.hid hg
        clear hn hg hs hpos
        go_wp2_with (go_at_call 26; refine (Get_is _ _ _ _ _ _ _ _ _ _ Hg.out Hr4.out hc4 hc4').mono ?_; rintro e w5 ⟨rfl, rfl⟩)
        go_round
        case rel => exact ⟨k + 1, by omega, by go_num, rfl, rfl⟩
        case measure => simp [intOf]; omega
      · have hkm : k = m0 := by omega
        obtain ⟨j, hj⟩ : ∃ j, m0 = j + 1 := ⟨m0 - 1, by omega⟩
        have hk1 : k - 1 = j := by omega
        have hll := Hll.out
        obtain ⟨n, hn⟩ : ∃ n, l[j]? = some n := ⟨l[j]'(by omega), List.getElem?_eq_getElem (by omega)⟩
        have hcut := numPos_cut a l j n hn (by omega)
        have hall := numPos_all a l
        rw [hll] at hall
        rw [HNl.out] at hcut hall
        have hle := numPos_le a l j (by omega)
        rw [HNl.out] at hle
        obtain ⟨q, hq⟩ : ∃ q : Nat, (N : Int) - 1 = (q : Int) := ⟨N - 1, by have := numPos_succ a l j n hn; have := encB_pos n; rw [← hj, hall] at *; omega⟩
        have hqN : N - 1 = q := by omega
        have hqle : q ≤ N := by omega
        have hslots : (Value.int .i64 (numPos a l k : Int) = Value.int .i64 (N : Int)) ∧ (Value.int .i64 (numPos a l (k - 1) : Int) = Value.int .i64 (numPos a l j : Int)) := by rw [hkm, hall, ← hkm, hk1]; exact ⟨rfl, rfl⟩
        rw [hslots.1, hslots.2]
        rw [hqN] at hcut
        have hcutr := run_cut_hi (P := Try.prog) 33 5 1 Try.underlying33 size_u8 A4 N c4 q (by omega)
        have hr5 := Hr4.out.cut_hi0 (k := q) (cap := c4) hqle
        rw [Nat.mul_one, ← List.map_take] at hr5
        generalize cutA A4 c4 0 1 = A5 at hcutr hr5
        generalize numPos a l j = pj at *
        have Hcut := Lib.hid hcut
        have Hr5 := Lib.hid hr5
        have hqc : q ≤ c4 := by omega
        have hge : m0 ≤ k := by omega
        clear hcut hr5 hslots hall hqN hkm hn hll hk1 hj
        go_wp2_with (first
          | (go_at_call 26; refine (Get_is _ _ _ _ _ _ _ _ _ _ Hcut.out Hr5.out hqc hc4').mono ?_; rintro e w5 ⟨rfl, rfl⟩)
          | (go_at_call 25; refine (told16_any _).mono ?_; rintro e w5 ⟨rfl, hb5⟩; have hB5 := hB3.trans (hb5.mono hsz3)))
        go_ret
        exact ⟨rfl, hB5⟩
  · have hin' : m0 < 1 ∨ (1 ≤ m0 ∧ 12 < m0) ∨ (1 ≤ m0 ∧ m0 ≤ 12 ∧ 9 < m1) := by omega
    clear hin
    rcases hin' with h | ⟨h, h'⟩ | ⟨h, h', h''⟩
    all_goals
      go_enter Try.func8, Try.ntmps8
      go_wp2_with fail
      refine (told16_any _).mono ?_
      rintro e w5 ⟨rfl, hb5⟩
      go_wp2_with fail
      go_ret
      exact ⟨rfl, hb5⟩
end Go.Proofs.Ythcoldomeedbnaa
