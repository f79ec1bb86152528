/- The walks of perm's at and has (with their closures): where a row's pair stands, where a place's. Conditions: rows and places below 2^40, at most 2^40 pairs. -/
import Derived.Test.YtdpknieiigibfaaFnWalk
namespace Go.Proofs.Ytdpknieiigibfaa
open Go.RowKit Go.Shelf
set_option linter.unusedVariables false
set_option linter.unusedSimpArgs false
def pairV (x : Nat × Nat) : List Value := [.int .i64 (x.1 : Int), .int .i64 (x.2 : Int)]
def pairsL (C : List (Nat × Nat)) : List Value := C.flatMap pairV
def rowK (C : List (Nat × Nat)) (k : Nat) : Nat := (C.getD k (0, 0)).1
def posK (C : List (Nat × Nat)) (k : Nat) : Nat := (C.getD k (0, 0)).2
theorem pairsL_len (C : List (Nat × Nat)) : (pairsL C).length = C.length * 2 := by
  induction C with
  | nil => rfl
  | cons x l ih =>
    have : pairsL (x :: l) = pairV x ++ pairsL l := rfl
    rw [this, List.length_append, ih]
    simp [pairV]
    omega
theorem pairsL_get (C : List (Nat × Nat)) (k : Nat) (h : k < C.length) : (pairsL C)[k * 2]? = some (.int .i64 ((rowK C k : Nat) : Int)) ∧ (pairsL C)[k * 2 + 1]? = some (.int .i64 ((posK C k : Nat) : Int)) := by
  induction C generalizing k with
  | nil => cases h
  | cons x l ih =>
    have e : pairsL (x :: l) = pairV x ++ pairsL l := rfl
    rcases k with _ | k
    · exact ⟨rfl, rfl⟩
    · have := ih k (by simpa using h)
      rw [e, List.getElem?_append_right (by simp [pairV]; omega), List.getElem?_append_right (by simp [pairV]; omega)]
      rw [show (k + 1) * 2 - (pairV x).length = k * 2 by simp [pairV]; omega, show (k + 1) * 2 + 1 - (pairV x).length = k * 2 + 1 by simp [pairV]; omega]
      exact this
/-- What the closures read: the boxed pointer, the pairs. -/
structure PRd (W : World) (gb gp : Nat) (A : Option Addr) (n c : Nat) (C : List (Nat × Nat)) : Prop where
  box : W.cell? ⟨gb, 0, none⟩ = some (.pointer (some ⟨gp, 0, none⟩))
  sl : W.cell? ⟨gp, 1, none⟩ = some (.slice A n c)
  rd : Rd W W.heap.size 2 A n (pairsL C)
theorem PRd.below {W W' : World} {gb gp n c : Nat} {A : Option Addr} {C : List (Nat × Nat)} (h : PRd W gb gp A n c C) (hb : gb < W.heap.size) (hp : gp < W.heap.size) (k : Below W.heap.size W W') : PRd W' gb gp A n c C :=
  ⟨(k.cell hb).trans h.box, (k.cell hp).trans h.sl, (h.rd.below k).mono k.size⟩
theorem PRd.drewN {W : World} {gb gp n c : Nat} {A : Option Addr} {C : List (Nat × Nat)} (h : PRd W gb gp A n c C) (q : Nat) : PRd (W.drewN q) gb gp A n c C := ⟨h.box, h.sl, h.rd⟩
theorem PRd.at {W : World} {gb gp n c : Nat} {A : Option Addr} {C : List (Nat × Nat)} (h : PRd W gb gp A n c C) {k : Nat} (hk : k < C.length) :
    k < n ∧ ∃ b off, A = some ⟨b, off, none⟩ ∧ W.cell? ⟨b, off + k * 2, none⟩ = some (.int .i64 ((rowK C k : Nat) : Int)) ∧ W.cell? ⟨b, off + k * 2 + 1, none⟩ = some (.int .i64 ((posK C k : Nat) : Int)) := by
  have hl := h.rd.1
  rw [pairsL_len] at hl
  have hn : k < n := by omega
  obtain ⟨b, off, e, _, hc⟩ := h.rd.2 (by omega)
  obtain ⟨h1, h2⟩ := pairsL_get C k hk
  exact ⟨hn, b, off, e, hc _ _ h1, by rw [Nat.add_assoc]; exact hc _ _ h2⟩
set_option maxRecDepth 100000 in
theorem PermAt1_any (gb gp : Nat) (A : Option Addr) (n c : Nat) (C : List (Nat × Nat)) (k row : Nat) (W : World) (h : PRd W gb gp A n c C) (hk : k < C.length) :
    Calls Try.prog 50 #[.int .i64 (k : Int), .int .i64 (row : Int), .pointer (some ⟨gb, 0, none⟩)] W fun e w' => e = .returned (.int .i64 (Lib.compareInt (rowK C k : Nat) row)) ∧ W = w' := by
  obtain ⟨hkn, b, off, rfl, h1, h2⟩ := h.at hk
  have c0 := h.box
  have c1 := h.sl
  have hcmp := AnyG.cmp_Compare_int shCmp ((rowK C k : Nat) : Int) (row : Int) W
  change Calls Try.prog 51 _ _ _ at hcmp
  generalize Lib.compareInt (rowK C k : Nat) row = r at hcmp ⊢
  clear h h2
  go_enter Try.func50, Try.ntmps50
  go_wp2_with fail
  refine hcmp.mono ?_
  rintro e w' ⟨rfl, rfl⟩
  go_wp2_with fail
  go_ret
  exact ⟨rfl, rfl⟩
set_option maxRecDepth 100000 in
theorem PermHas1_any (gb gq gp : Nat) (A : Option Addr) (n c : Nat) (C : List (Nat × Nat)) (k pos : Nat) (W : World) (h : PRd W gb gp A n c C) (hq : W.cell? ⟨gq, 0, none⟩ = some (.int .i64 (pos : Int))) (hk : k < C.length) :
    Calls Try.prog 53 #[.int .i64 (k : Int), .pointer (some ⟨gb, 0, none⟩), .pointer (some ⟨gq, 0, none⟩)] W fun e w' => e = .returned (.bool (decide (posK C k = pos))) ∧ ∃ q, w' = W.drewN q := by
  obtain ⟨hkn, b, off, rfl, h1, h2⟩ := h.at hk
  have c0 := h.box
  have c1 := h.sl
  obtain ⟨x, hx⟩ : ∃ x, posK C k = x := ⟨_, rfl⟩
  rw [hx] at h2 ⊢
  clear h h1 hx
  by_cases e : x = pos
  · subst e
    go_enter Try.func53, Try.ntmps53
    go_wp2
    go_quiet (fail)
    go_wp2
    go_ret
    exact ⟨by simp, _, rfl⟩
  · have e1 : ((x : Int) == (pos : Int)) = false := by simp; omega
    go_enter Try.func53, Try.ntmps53
    go_wp2
    go_quiet (fail)
    go_wp2
    go_ret
    exact ⟨by simp [e], _, rfl⟩
end Go.Proofs.Ytdpknieiigibfaa
