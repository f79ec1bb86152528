/- The walks of sym's Is, Path, Bit. Conditions: a symbol (below 257). -/
import Derived.Test.YtdpknieiigibfaaFnTree
namespace Go.Proofs.Ytdpknieiigibfaa
open Go.RowKit
set_option linter.unusedVariables false
set_option linter.unusedSimpArgs false
def sv (s : Nat) : Value := .int .i64 (s : Int)
def pathN (s lv : Nat) : Nat := s / 2 ^ (9 - lv)
def bitB (s lv : Nat) : Bool := decide (s / 2 ^ (8 - lv) % 2 = 1)
set_option maxRecDepth 100000 in
theorem SymIs_any (s : Nat) (w : World) (hs : s < 257) :
    Calls Try.prog 42 #[.int .i64 (s : Int)] w fun e w' => e = .returned (.bool true) ∧ Below w.heap.size w w' := by
  have h0 : (0 : Int) ≤ (s : Int) := by omega
  have h1 : (s : Int) < 257 := by omega
  go_enter Try.func42, Try.ntmps42
  go_wp2
  go_ret
  exact ⟨rfl, Below.refl _ _⟩
theorem cast_shr (s k : Nat) : (s : Int) / 2 ^ k = ((s / 2 ^ k : Nat) : Int) := by push_cast; rfl
theorem and1 (q : Nat) (h : q < 257) : bits .and .i64 (q : Int) 1 = ((q % 2 : Nat) : Int) := by
  have h1 := (bits_nat .i64 10 (by decide) (fun n h0 h1 => by rw [IntKind.wrap_i64]; omega) q 1 (by omega) (by omega)).1
  rw [show ((1 : Nat) : Int) = 1 from rfl] at h1
  rw [h1, Nat.and_one_is_mod]
set_option maxRecDepth 100000 in
theorem SymPath_any (s lv : Nat) (w : World) (hs : s < 257) (hl : lv ≤ 9) :
    Calls Try.prog 60 #[.int .i64 (s : Int), .int .i64 (lv : Int)] w fun e w' => e = .returned (.int .i64 ((pathN s lv : Nat) : Int)) ∧ Below w.heap.size w w' := by
  have h0 : ¬ ((lv : Int) < 0) := by omega
  have h1 : ¬ ((lv : Int) > 9) := by omega
  go_enter Try.func60, Try.ntmps60
  go_wp2_with fail
  refine (SymIs_any s _ hs).mono ?_
  rintro e w1 ⟨rfl, hb⟩
  go_wp2_with fail
  go_ret
  exact ⟨ret_i64 (cast_shr _ _), hb⟩
set_option maxRecDepth 100000 in
theorem SymBit_any (s lv : Nat) (w : World) (hs : s < 257) (hl : lv < 9) :
    Calls Try.prog 61 #[.int .i64 (s : Int), .int .i64 (lv : Int)] w fun e w' => e = .returned (.bool (bitB s lv)) ∧ Below w.heap.size w w' := by
  have h0 : ¬ ((lv : Int) < 0) := by omega
  have h1 : ¬ ((lv : Int) ≥ 9) := by omega
  go_enter Try.func61, Try.ntmps61
  go_wp2_with fail
  refine (SymIs_any s _ hs).mono ?_
  rintro e w1 ⟨rfl, hb⟩
  go_wp2_with fail
  go_ret
  refine ⟨ret_bool ?_, hb⟩
  have hq : s / 2 ^ (8 - lv) < 257 := Nat.lt_of_le_of_lt (Nat.div_le_self _ _) hs
  rw [cast_shr, and1 _ hq]
  unfold bitB
  generalize s / 2 ^ (8 - lv) % 2 = r
  by_cases h : r = 1
  · subst h; rfl
  · have h2 : ((r : Int) == 1) = false := by simp; omega
    rw [h2]
    simp [h]
end Go.Proofs.Ytdpknieiigibfaa
