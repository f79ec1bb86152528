/- The walks of the packages fib and cost (without Sum and May): each function returns what the plain function of the same name computes. No conditions. -/
import Derived.Test.YthcoldomeedbnaaBase
namespace Go.Proofs.Ythcoldomeedbnaa
open Go.RowKit

/-- A text's length within its bounds. -/
def clen (n : Int) : Int := min (max n 0) 2147483648
theorem clen_bd (n : Int) : 0 ≤ clen n ∧ clen n ≤ 2147483648 := by unfold clen; omega

set_option maxHeartbeats 400000 in
theorem clength_any (n : Int) (w : World) :
    Calls Try.prog 44 #[.int .i64 n] w fun e w' => e = .returned (.int .i64 (clen n)) ∧ w = w' := by
  go_enter Try.func44, Try.ntmps44
  go_wp2
  all_goals (go_ret; exact ⟨ret_i64 (by unfold clen; omega), rfl⟩)

/-- 9 * (8 * (n + 1) / 128 + 1024), n within its bounds. -/
def cnodes (n : Int) : Int := 9 * (8 * (clen n + 1) / 128 + 1024)
set_option maxHeartbeats 400000 in
theorem Nodes_any (n : Int) (w : World) :
    Calls Try.prog 18 #[.int .i64 n] w fun e w' => e = .returned (.int .i64 (cnodes n)) ∧ w = w' := by
  have h1 := (clen_bd n).1
  have h2 := (clen_bd n).2
  go_enter Try.func18, Try.ntmps18
  go_wp2_with (go_at_call 44; refine (clength_any _ _).mono ?_; rintro e w' ⟨rfl, rfl⟩)
  go_ret
  exact ⟨rfl, rfl⟩

set_option maxHeartbeats 400000 in
theorem Moves_any (n : Int) (w : World) :
    Calls Try.prog 20 #[.int .i64 n] w fun e w' => e = .returned (.int .i64 (clen n + 2)) ∧ w = w' := by
  have h1 := (clen_bd n).1
  have h2 := (clen_bd n).2
  go_enter Try.func20, Try.ntmps20
  go_wp2_with (go_at_call 44; refine (clength_any _ _).mono ?_; rintro e w' ⟨rfl, rfl⟩)
  go_ret
  exact ⟨rfl, rfl⟩

/-- The two numbers of Least's loop behind k rounds. -/
def lpair : Nat → Int × Int
  | 0 => (1, 2)
  | k + 1 => ((lpair k).2, min ((lpair k).1 + (lpair k).2) 2147483648)
theorem lpair_bd (k : Nat) : 1 ≤ (lpair k).1 ∧ (lpair k).1 ≤ (lpair k).2 ∧ (lpair k).2 ≤ 2147483648 := by
  induction k with
  | zero => decide
  | succ k ih => simp only [lpair]; omega
theorem lpair_mono (a b : Nat) (h : a ≤ b) : (lpair a).1 ≤ (lpair b).1 := by
  induction b with
  | zero => have : a = 0 := by omega
            subst this; exact Int.le_refl _
  | succ b ih =>
    by_cases h1 : a = b + 1
    · subst h1; exact Int.le_refl _
    · have := ih (by omega)
      have h2 := lpair_bd b
      simp only [lpair]; omega
/-- How few leaves a tree of a height has. -/
def least (h : Int) : Int := if h < 0 then 0 else (lpair (min h.toNat 45)).1

set_option maxHeartbeats 400000 in
theorem Least_any (h : Int) (w : World) :
    Calls Try.prog 45 #[.int .i64 h] w fun e w' => e = .returned (.int .i64 (least h)) ∧ w = w' := by
  by_cases h0 : h < 0
  · go_enter Try.func45, Try.ntmps45
    go_wp2
    all_goals (go_ret; exact ⟨ret_i64 (by simp [least, h0]), rfl⟩)
  · obtain ⟨n, rfl⟩ := Int.eq_ofNat_of_zero_le (Int.not_lt.1 h0)
    have e0 : least (n : Int) = (lpair (min n 45)).1 := by simp [least, h0]
    have E0 := Lib.hid e0
    clear e0
    go_enter Try.func45, Try.ntmps45
    go_wp2
    all_goals
      rename_i hmin
      go_loop [3, 4, 9] (fun a b i => ∃ k : Nat, k ≤ min n 45 ∧ i = .int .i64 k ∧ a = .int .i64 (lpair k).1 ∧ b = .int .i64 (lpair k).2) (fun _ _ i => 45 - (intOf i).toNat)
      case atStart => exact ⟨0, Nat.zero_le _, rfl, rfl, rfl⟩
      case round =>
        obtain ⟨k, hk, rfl, rfl, rfl⟩ := hrel
        have b1 := (lpair_bd k).1
        have b2 := (lpair_bd k).2.1
        have b3 := (lpair_bd k).2.2
        by_cases hlt : k < min n 45
        · have hlt1 : k < n := by omega
          have hlt2 : k < 45 := by omega
          go_wp2
          all_goals
            go_round
            case rel => exact ⟨k + 1, by omega, by go_num, rfl, i64_eq (by simp only [lpair]; omega)⟩
            case measure => simp [intOf]; omega
        · have hke : k = min n 45 := by omega
          have Hke := Lib.hid hke
          clear hke
          have hge : n ≤ k ∨ 45 ≤ k := by omega
          go_wp2
          all_goals (go_ret; exact ⟨ret_i64 (by rw [E0.out, ← Hke.out]), rfl⟩)

/-- The loop of Most, with f rounds left at the most. -/
def mostGo : Nat → Int → Int → Int
  | 0, h, _ => h
  | f + 1, h, l => if least (h + 1) ≤ l then mostGo f (h + 1) l else h
/-- How high a tree of so many leaves may be. -/
def most (l : Int) : Int := mostGo 45 (-1) l
theorem least_bd (h : Int) : 0 ≤ least h ∧ least h ≤ 2147483648 := by
  unfold least
  have := lpair_bd (min h.toNat 45)
  split <;> omega

set_option maxHeartbeats 400000 in
theorem Most_any (l : Int) (w : World) :
    Calls Try.prog 22 #[.int .i64 l] w fun e w' => e = .returned (.int .i64 (most l)) ∧ w = w' := by
  go_enter Try.func22, Try.ntmps22
  go_wp2
  go_loop [3] (fun h => ∃ f : Nat, f ≤ 45 ∧ h = .int .i64 (44 - (f : Int)) ∧ mostGo f (44 - (f : Int)) l = most l) (fun h => (44 - intOf h).toNat)
  case atStart => exact ⟨45, Nat.le_refl _, rfl, rfl⟩
  case round =>
    obtain ⟨f, hf, rfl, hm⟩ := hrel
    have Hm := Lib.hid hm
    clear hm
    rcases f with _ | f
    · go_wp2
      go_ret
      exact ⟨ret_i64 (by rw [← Hm.out]; rfl), rfl⟩
    · have b := least_bd (44 - ((f + 1 : Nat) : Int) + 1)
      go_wp2_with (go_at_call 45; refine (Least_any _ _).mono ?_; rintro e w' ⟨rfl, rfl⟩)
      · have hl : least (44 - ((f : Int) + 1) + 1) ≤ l := by assumption
        refine ⟨⟨f, by omega, i64_eq (by omega), ?_⟩, by simp [intOf]; omega⟩
        rw [← Hm.out, mostGo, if_pos (by simpa using hl)]
        congr 1; omega
      · have hl : l < least (44 - ((f : Int) + 1) + 1) := by assumption
        go_ret
        refine ⟨ret_i64 ?_, rfl⟩
        have hn : ¬ least (44 - ((f + 1 : Nat) : Int) + 1) ≤ l := Int.not_le.2 hl
        rw [← Hm.out, mostGo, if_neg hn]
        omega
theorem mostGo_bd (f : Nat) : ∀ h l, h ≤ mostGo f h l ∧ mostGo f h l ≤ h + f := by
  induction f with
  | zero => intro h l; simp [mostGo]
  | succ f ih =>
    intro h l
    unfold mostGo
    split
    · have := ih (h + 1) l; omega
    · omega
theorem most_bd (l : Int) : -1 ≤ most l ∧ most l ≤ 44 := by have := mostGo_bd 45 (-1) l; unfold most; omega

/-- 72 * (most (4 * (n + 1) / 128 + 1) + 2), n within its bounds. -/
def cvisits (n : Int) : Int := 72 * (most (4 * (clen n + 1) / 128 + 1) + 2)
set_option maxHeartbeats 400000 in
theorem Visits_any (n : Int) (w : World) :
    Calls Try.prog 19 #[.int .i64 n] w fun e w' => e = .returned (.int .i64 (cvisits n)) ∧ w = w' := by
  have h1 := (clen_bd n).1
  have h2 := (clen_bd n).2
  have h3 := (most_bd (4 * (clen n + 1) / 128 + 1)).1
  have h4 := (most_bd (4 * (clen n + 1) / 128 + 1)).2
  go_enter Try.func19, Try.ntmps19
  go_wp2_with (first
    | (go_at_call 44; refine (clength_any _ _).mono ?_; rintro e w' ⟨rfl, rfl⟩)
    | (go_at_call 22; refine (Most_any _ _).mono ?_; rintro e w' ⟨rfl, rfl⟩))
  go_ret
  exact ⟨rfl, rfl⟩
end Go.Proofs.Ythcoldomeedbnaa
