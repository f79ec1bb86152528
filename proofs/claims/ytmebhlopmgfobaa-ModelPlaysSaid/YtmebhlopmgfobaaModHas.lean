/- The walks of bytes.Equal, bytes.HasPrefix, slices.Equal of ints, and of the plain text's 'has'. No conditions. -/
import Derived.Test.YtmebhlopmgfobaaModCat
namespace Go.Proofs.Ytmebhlopmgfobaa
open Go.RowKit
set_option linter.unusedVariables false
set_option linter.unusedSimpArgs false
theorem size_u8 : ∀ w, (sizeOf 5).run Try.prog w = .ok 1 w := fun w => by
  obtain ⟨i0, hi0, hz0, hz1, hz2⟩ := info_parts u8_info
  simp [sizeOf, typeInfo, hi0, hz1]
/-- string(b), whatever the capacity. -/
theorem strOf {w : World} {B n : Nat} {A : Option Addr} {l : List UInt8} (hr : Rd w B 1 A n (l.map bv)) : ∀ c, (convert 22 9 (.slice A n c)).run Try.prog w = .ok (.string ⟨l.toArray⟩) w :=
  fun c => run_str_rd (P := Try.prog) 22 9 5 Try.underlying22 Try.underlying5 Try.underlying9 hr
set_option maxRecDepth 100000 in
set_option maxHeartbeats 1000000 in
theorem BEqual_any (A1 A2 : Option Addr) (n1 c1 n2 c2 B1 B2 : Nat) (a b : List UInt8) (w : World) (h1 : Rd w B1 1 A1 n1 (a.map bv)) (h2 : Rd w B2 1 A2 n2 (b.map bv)) :
    Calls Try.prog 23 #[.slice A1 n1 c1, .slice A2 n2 c2] w fun e w' => e = .returned (.bool (decide (a = b))) ∧ w = w' := by
  have s1 := strOf h1
  have s2 := strOf h2
  clear h1 h2
  go_enter Try.func23, Try.ntmps23
  go_wp2
  go_ret
  exact ⟨ret_bool (by rw [Bool.eq_iff_iff]; simp), rfl⟩
set_option maxRecDepth 100000 in
set_option maxHeartbeats 1000000 in
theorem Prefix_any (A1 A2 : Option Addr) (n1 c1 n2 c2 B1 B2 : Nat) (a b : List UInt8) (w : World) (h1 : Rd w B1 1 A1 n1 (a.map bv)) (h2 : Rd w B2 1 A2 n2 (b.map bv)) (hnc : n1 ≤ c1) :
    Calls Try.prog 26 #[.slice A1 n1 c1, .slice A2 n2 c2] w fun e w' => e = .returned (.bool (b.isPrefixOf a)) ∧ w = w' := by
  have l1 : a.length = n1 := by simpa using h1.1
  have l2 : b.length = n2 := by simpa using h2.1
  by_cases hle : n2 ≤ n1
  · have hcut := run_cut_hi (P := Try.prog) 22 5 1 Try.underlying22 size_u8 A1 n1 c1 n2 (by omega)
    have hr := Lib.hid (h1.cut_hi0 (k := n2) (cap := c1) hle)
    have hdec : decide ((n2 : Int) ≤ (n1 : Int)) = true := by simp; omega
    have H2 := Lib.hid h2
    have hfin : decide ((a.take n2) = b) = b.isPrefixOf a := by
      rw [Bool.eq_iff_iff]
      simp only [decide_eq_true_eq, List.isPrefixOf_iff_prefix]
      constructor
      · intro h
        rw [← h]
        exact List.take_prefix _ _
      · intro h
        rw [← l2]
        exact (List.prefix_iff_eq_take.1 h).symm
    have Hfin := Lib.hid hfin
    clear h1 h2 l1 l2 hfin
    go_enter Try.func26, Try.ntmps26
    go_wp2_with fail
    refine (BEqual_any _ _ _ _ _ _ _ _ (a.take n2) b _ (by have := hr.out; rwa [Nat.mul_one, ← List.map_take] at this) H2.out).mono ?_
    rintro e w' ⟨rfl, rfl⟩
    go_wp2
    go_ret
    exact ⟨ret_bool (by rw [← Hfin.out]), rfl⟩
  · have hdec : decide ((n2 : Int) ≤ (n1 : Int)) = false := by simp; omega
    have hfin : b.isPrefixOf a = false := by
      cases h : b.isPrefixOf a with
      | false => rfl
      | true =>
        have := (List.isPrefixOf_iff_prefix.1 h).length_le
        omega
    clear h1 h2 l1 l2
    go_enter Try.func26, Try.ntmps26
    go_wp2
    go_ret
    exact ⟨ret_bool (by simp [hfin]), rfl⟩
/-- Are there so many bytes from a place on? -/
def hasB (n : Nat) (p k : Int) : Bool := decide (0 ≤ p ∧ 0 ≤ k ∧ p ≤ (n : Int) ∧ k ≤ (n : Int) - p)
set_option maxRecDepth 100000 in
set_option maxHeartbeats 1000000 in
theorem has_any (gp : Nat) (A : Option Addr) (n c : Nat) (p k : Int) (w : World) (hc : w.cell? ⟨gp, 0, none⟩ = some (.slice A n c)) (hn : n ≤ 1099511627776) (hp : -9223372036854775808 ≤ p ∧ p ≤ 9223372036854775807) (hk : -9223372036854775808 ≤ k ∧ k ≤ 9223372036854775807) :
    Calls Try.prog 16 #[.pointer (some ⟨gp, 0, none⟩), .int .i64 p, .int .i64 k] w fun e w' => e = .returned (.bool (hasB n p k)) ∧ w = w' := by
  unfold hasB
  by_cases h1 : 0 ≤ p
  · by_cases h2 : 0 ≤ k
    · by_cases h3 : p ≤ (n : Int)
      · have d1 : decide (p ≥ 0) = true := by simp; omega
        have d2 : decide (k ≥ 0) = true := by simp; omega
        have d3 : decide (p ≤ (n : Int)) = true := by simp; omega
        go_enter Try.func16, Try.ntmps16
        go_wp2
        go_ret
        exact ⟨ret_bool (by simp [h1, h2, h3]), rfl⟩
      · have d1 : decide (p ≥ 0) = true := by simp; omega
        have d2 : decide (k ≥ 0) = true := by simp; omega
        have d3 : decide (p ≤ (n : Int)) = false := by simp; omega
        go_enter Try.func16, Try.ntmps16
        go_wp2
        go_ret
        exact ⟨ret_bool (by simp [h3]), rfl⟩
    · have d1 : decide (p ≥ 0) = true := by simp; omega
      have d2 : decide (k ≥ 0) = false := by simp; omega
      go_enter Try.func16, Try.ntmps16
      go_wp2
      go_ret
      exact ⟨ret_bool (by simp [h2]), rfl⟩
  · have d1 : decide (p ≥ 0) = false := by simp; omega
    go_enter Try.func16, Try.ntmps16
    go_wp2
    go_ret
    exact ⟨ret_bool (by simp [h1]), rfl⟩
end Go.Proofs.Ytmebhlopmgfobaa
