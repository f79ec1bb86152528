/- The walks of fib.fours, fib.may, fib.May (where a shape may be), scrimshawlaw23.told and the laws CostGrows and CostHolds. No conditions. -/
import Derived.Test.YthcoldomeedbnaaCostSum
import Derived.OpenShut
namespace Go.Proofs.Ythcoldomeedbnaa
open Go.RowKit
set_option linter.unusedVariables false
set_option maxHeartbeats 400000 in
theorem fours_any (n : Int) (w : World) (h0 : 0 ≤ n) (h1 : n ≤ 1099511627776) :
    Calls Try.prog 49 #[.int .i64 n] w fun e w' => e = .returned (.int .i64 (n / 128 * 4 + n % 128 * 4 / 128)) ∧ w = w' := by
  go_enter Try.func49, Try.ntmps49
  go_wp2
  go_ret
  exact ⟨rfl, rfl⟩
set_option maxHeartbeats 1000000 in
theorem may_true (s : Shp) (w : World) (h1 : 0 < s.len) (h2 : s.len ≤ 1099511627776) (h3 : 0 ≤ s.height) (h4 : s.height ≤ 1000) (h5 : least s.height ≤ s.leaves) (h6 : s.leaves ≤ 1099511627776)
    (h7 : s.leaves - 1 ≤ s.len / 128 * 4 + s.len % 128 * 4 / 128) (h8 : s.nodes = 2 * s.leaves - 1) :
    Calls Try.prog 46 #[.agg #[.int .i64 s.len, .int .i64 s.height, .int .i64 s.leaves, .int .i64 s.nodes]] w fun e w' => e = .returned (.bool true) ∧ Below w.heap.size w w' := by
  have hl0 := (least_bd s.height).1
  obtain ⟨len, height, leaves, nodes⟩ := s
  simp only at *
  have t1 : decide (height ≥ (0 : Int)) = true := by simpa using h3
  have t3 : (nodes == 2 * leaves - 1) = true := by rw [beq_iff_eq]; exact h8
  clear h8
  go_enter Try.func46, Try.ntmps46
  go_wp2_with fail
  go_quiet (first
    | (go_at_call 45; exact quiet_left (Least_any _ _))
    | (go_at_call 49; exact quiet_left (fours_any _ _ (by omega) (by omega))))
  go_wp2
  go_ret
  exact ⟨rfl, below_drewN ((Below.refl _ _).alloc (Nat.le_refl _) _) _⟩
set_option maxHeartbeats 1000000 in
/-- May of one shape that may be. -/
theorem May_one (A : Option Addr) (c B : Nat) (s : Shp) (w : World) (hr : Rd w B 4 A 1 s.cells) (hB : B ≤ w.heap.size) (h1 : 0 < s.len) (h2 : s.len ≤ 1099511627776) (h3 : 0 ≤ s.height) (h4 : s.height ≤ 1000) (h5 : least s.height ≤ s.leaves) (h6 : s.leaves ≤ 1099511627776)
    (h7 : s.leaves - 1 ≤ s.len / 128 * 4 + s.len % 128 * 4 / 128) (h8 : s.nodes = 2 * s.leaves - 1) :
    Calls Try.prog 23 #[.slice A 1 c] w fun e w' => e = .returned (.bool true) ∧ Below w.heap.size w w' := by
  have H8 := Lib.hid h8
  obtain ⟨b, off, rfl, hbl, hc⟩ := hr.2 (by omega)
  have c0 : w.cell? ⟨b, off, none⟩ = some (.int .i64 s.len) := hc 0 _ rfl
  have c1 : w.cell? ⟨b, off + 1, none⟩ = some (.int .i64 s.height) := hc 1 _ rfl
  have c2 : w.cell? ⟨b, off + 2, none⟩ = some (.int .i64 s.leaves) := hc 2 _ rfl
  have c3 : w.cell? ⟨b, off + 3, none⟩ = some (.int .i64 s.nodes) := hc 3 _ rfl
  clear h8 hc hr
  go_enter Try.func23, Try.ntmps23
  go_wp2
  go_loopw [7] (fun i wr => (i = .int .i64 0 ∧ wr = w) ∨ (i = .int .i64 1 ∧ Below w.heap.size w wr)) (fun i _ => 1 - (intOf i).toNat)
  case atStart => exact .inl ⟨rfl, rfl⟩
  case round =>
    rcases hrel with ⟨rfl, rfl⟩ | ⟨rfl, hb⟩
    · go_wp2_with (go_at_call 46; refine (may_true s _ h1 h2 h3 h4 h5 h6 h7 H8.out).mono ?_; rintro e w1 ⟨rfl, hb1⟩)
      have hb2 := ((Below.refl wr.heap.size wr).alloc (Nat.le_refl _) _).trans (hb1.mono (by simp))
      go_roundw
      case rel => exact .inr ⟨rfl, hb2⟩
      case measure => simp [intOf]
    · go_wp2
      go_ret
      exact ⟨rfl, hb⟩

set_option maxRecDepth 100000 in
set_option maxHeartbeats 1000000 in
theorem told23_any (w : World) :
    Calls Try.prog 17 #[] w fun e w' => e = .returned (.bool true) ∧ Below w.heap.size w w' := by
  have hB0 := Below.refl w.heap.size w
  have hl0 : clen 0 = 0 := by decide
  have hl4 : clen (-4) = 0 := by decide
  have hn0 : cnodes 0 = 9216 := by decide
  have hv0 : cvisits 0 = 144 := by decide
  go_enter Try.func17, Try.ntmps17
  go_wp2_with fail
  refine (Sum_is _ _ _ [⟨1, 2, 3, 5⟩, ⟨4, 1, 2, 3⟩] _ _ ⟨5, 2, 5, 8⟩ rfl (Rd.made _ _ 4 2 _ rfl) (Nat.le_refl _) (by simp [Shp.small]) (by omega)).mono ?_
  rintro e w1 ⟨rfl, hb1⟩
  have hB1 := (hB0.alloc (Nat.le_refl _) _).trans (hb1.mono (by simp))
  have hs1 := hB1.size
  clear hb1
  go_wp2_with (first
    | (go_at_call 20; refine (Moves_any _ _).mono ?_; rintro e w2 ⟨rfl, rfl⟩)
    | (go_at_call 18; refine (Nodes_any _ _).mono ?_; rintro e w2 ⟨rfl, rfl⟩)
    | (go_at_call 19; refine (Visits_any _ _).mono ?_; rintro e w2 ⟨rfl, rfl⟩)
    | (go_at_call 21; refine (Sum_is _ _ _ [] 0 _ ⟨0, 0, 0, 0⟩ rfl (Rd.nil _ _ _ _) (Nat.zero_le _) (by simp) (by omega)).mono ?_; rintro e w3 ⟨rfl, hb3⟩))
  go_ret
  exact ⟨rfl, hB1.alloc hs1 _ |>.trans (hb3.mono (by simp; omega))⟩

theorem most_mono (a b : Int) (h : a ≤ b) : most a ≤ most b := by
  have key : ∀ (f : Nat) (x : Int), -1 ≤ x → mostGo f x a ≤ mostGo f x b := by
    intro f
    induction f with
    | zero => intro x _; exact Int.le_refl _
    | succ f ih =>
      intro x hx
      unfold mostGo
      split
      · rw [if_pos (by omega)]
        exact ih _ (by omega)
      · have h1 := mostGo_bd f (x + 1) b
        split <;> omega
  exact key 45 (-1) (by omega)
theorem clen_in (n : Int) (h0 : 0 ≤ n) (h1 : n ≤ 1000000) : clen n = n := by unfold clen; omega
set_option maxRecDepth 100000 in
set_option maxHeartbeats 1000000 in
theorem walkCostGrows (w : World) (a : Int) (ha : (Lit.int .i64 a).wf = true) (b : Int) (hb : (Lit.int .i64 b).wf = true) :
    Calls Try.prog 3 #[.int .i64 a, .int .i64 b] w fun e w' => e = .returned (.bool true) ∧ Below w.heap.size w w' := by
  obtain ⟨x, hx, hx1⟩ := umod_ex a 1000000 (by omega)
  obtain ⟨y, hy, hy1⟩ := umod_ex b 1000000 (by omega)
  have lx := clen_in x (by omega) (by omega)
  have ly := clen_in y (by omega) (by omega)
  have hord : (∀ p q : Int, 0 ≤ p → p ≤ q → q ≤ 1000000 → cnodes p ≤ cnodes q ∧ cvisits p ≤ cvisits q) := by
    intro p q h0 h1 h2
    have e1 := clen_in p h0 (by omega)
    have e2 := clen_in q (by omega) h2
    unfold cnodes cvisits
    rw [e1, e2]
    refine ⟨by omega, ?_⟩
    have := most_mono (4 * (p + 1) / 128 + 1) (4 * (q + 1) / 128 + 1) (by omega)
    omega
  clear ha hb
  by_cases hxy : (y : Int) < (x : Int)
  · obtain ⟨h1, h2⟩ := hord y x (by omega) (by omega) (by omega)
    clear hord
    go_enter Try.func3, Try.ntmps3
    go_wp2_with (first
      | (go_at_call 17; refine (told23_any _).mono ?_; rintro e w1 ⟨rfl, hb1⟩)
      | (go_at_call 20; refine (Moves_any _ _).mono ?_; rintro e w2 ⟨rfl, rfl⟩)
      | (go_at_call 18; refine (Nodes_any _ _).mono ?_; rintro e w2 ⟨rfl, rfl⟩)
      | (go_at_call 19; refine (Visits_any _ _).mono ?_; rintro e w2 ⟨rfl, rfl⟩))
    all_goals (go_ret; exact ⟨ret_bool (by rw [beq_iff_eq]; omega), hb1⟩)
  · obtain ⟨h1, h2⟩ := hord x y (by omega) (by omega) (by omega)
    clear hord
    go_enter Try.func3, Try.ntmps3
    go_wp2_with (first
      | (go_at_call 17; refine (told23_any _).mono ?_; rintro e w1 ⟨rfl, hb1⟩)
      | (go_at_call 20; refine (Moves_any _ _).mono ?_; rintro e w2 ⟨rfl, rfl⟩)
      | (go_at_call 18; refine (Nodes_any _ _).mono ?_; rintro e w2 ⟨rfl, rfl⟩)
      | (go_at_call 19; refine (Visits_any _ _).mono ?_; rintro e w2 ⟨rfl, rfl⟩))
    all_goals (go_ret; exact ⟨ret_bool (by rw [beq_iff_eq]; omega), hb1⟩)
theorem mostGo_least (f : Nat) : ∀ h l : Int, least h ≤ l → least (mostGo f h l) ≤ l := by
  induction f with
  | zero => intro h l hl; exact hl
  | succ f ih =>
    intro h l hl
    unfold mostGo
    split
    · exact ih _ _ (by assumption)
    · exact hl
theorem most_least (l : Int) (h : 1 ≤ l) : least (most l) ≤ l ∧ 0 ≤ most l := by
  refine ⟨mostGo_least 45 (-1) l (by simp [least]; omega), ?_⟩
  unfold most
  rw [mostGo, if_pos (by simp [least, lpair]; omega)]
  have := (mostGo_bd 44 (-1 + 1) l).1
  omega
set_option maxRecDepth 100000 in
set_option maxHeartbeats 1000000 in
theorem walkCostHolds (w : World) (a : Int) (ha : (Lit.int .i64 a).wf = true) :
    Calls Try.prog 5 #[.int .i64 a] w fun e w' => e = .returned (.bool true) ∧ Below w.heap.size w w' := by
  obtain ⟨k, hk, hk1⟩ := umod_ex a 1000000 (by omega)
  have lk := clen_in k (by omega) (by omega)
  have hm := most_least (4 * ((k : Int) + 1) / 128 + 1) (by omega)
  have hm2 := (most_bd (4 * ((k : Int) + 1) / 128 + 1)).2
  have hv : cvisits k = 72 * (most (4 * ((k : Int) + 1) / 128 + 1) + 2) := by unfold cvisits; rw [lk]
  have hn : cnodes k = 9 * (8 * ((k : Int) + 1) / 128 + 1024) := by unfold cnodes; rw [lk]
  have hv2 : cvisits (-(k : Int) - 1) = cvisits 0 := by
    unfold cvisits
    rw [show clen (-(k : Int) - 1) = clen 0 by unfold clen; omega]
  obtain ⟨hm1, hm3⟩ := hm
  generalize hq : 4 * ((k : Int) + 1) / 128 + 1 = q at *
  have hq2 : 4 * ((k : Int) + 1) / 128 = q - 1 := by omega
  have hq3 : 1 ≤ q := by omega
  have hq4 : q ≤ 100000 := by omega
  have hmay : q - 1 ≤ ((k : Int) + 1) / 128 * 4 + ((k : Int) + 1) % 128 * 4 / 128 := by omega
  have hge : 2 * q - 1 ≤ cnodes k := by rw [hn]; omega
  generalize hmq : most q = h at *
  generalize hcn : cnodes (k : Int) = cn at *
  have hcb : cn ≤ 1000000 := by omega
  have ht : ((72 : Int) * (h + 2) == 72 * (h + 2)) = true := by simp
  clear ha hn hq2 lk
  have hB0 := Below.refl w.heap.size w
  go_enter Try.func5, Try.ntmps5
  go_wp2_with (first
    | (go_at_call 17; refine (told23_any _).mono ?_; rintro e w1 ⟨rfl, hb1⟩)
    | (go_at_call 22; refine (Most_any _ _).mono ?_; rintro e w2 ⟨rfl, rfl⟩)
    | (go_at_call 18; refine (Nodes_any _ _).mono ?_; rintro e w2 ⟨rfl, rfl⟩)
    | (go_at_call 19; refine (Visits_any _ _).mono ?_; rintro e w2 ⟨rfl, rfl⟩)
    | (go_at_call 23; refine (May_one _ _ _ ⟨(k : Int) + 1, h, q, 2 * q - 1⟩ _ (Rd.made _ _ 4 1 _ rfl) (Nat.le_refl _) (by simp only; omega) (by simp only; omega) hm3 (by simp only; omega) hm1 (by simp only; omega) hmay rfl).mono ?_; rintro e w3 ⟨rfl, hb3⟩))
  go_ret
  exact ⟨rfl, (hb1.alloc hb1.size _).trans (hb3.mono (by have := hb1.size; simp; omega))⟩
end Go.Proofs.Ythcoldomeedbnaa
