/- Plain laws of the wave: paths, bits, ranks; what a wave is (WaveAt). No conditions. -/
import Derived.Test.YtdpknieiigibfaaFnWave1
import Derived.Test.YtdpknieiigibfaaLoose8
namespace Go.Proofs.Ytdpknieiigibfaa
open Go.RowKit
set_option linter.unusedVariables false
set_option linter.unusedSimpArgs false
/-- The bits of the level lv, of the symbols whose path there is p. -/
def bitsOf (L : List Nat) (lv p : Nat) : List Bool := (L.filter fun s => pathN s lv == p).map (bitB · lv)
theorem path_step (s lv : Nat) (h : lv < 9) : pathN s (lv + 1) = 2 * pathN s lv + (if bitB s lv then 1 else 0) := by
  unfold pathN bitB
  have e1 : 9 - (lv + 1) = 8 - lv := by omega
  have e2 : 9 - lv = (8 - lv) + 1 := by omega
  rw [e1, e2, Nat.pow_succ, ← Nat.div_div_eq_div_mul]
  generalize s / 2 ^ (8 - lv) = q
  by_cases hq : q % 2 = 1
  · simp [hq]; omega
  · simp [hq]; omega
theorem path_zero (s : Nat) (h : s < 257) : pathN s 0 = 0 := by
  unfold pathN
  exact Nat.div_eq_of_lt (by omega)
theorem path_nine (s : Nat) : pathN s 9 = s := by
  unfold pathN
  simp
theorem path_lt (s lv : Nat) (h : s < 257) (hl : lv ≤ 9) : pathN s lv < 2 ^ lv := by
  unfold pathN
  rw [Nat.div_lt_iff_lt_mul (Nat.pos_of_ne_zero (by simp)), ← Nat.pow_add, show lv + (9 - lv) = 9 by omega]
  omega
theorem bits_count (L : List Nat) (lv s0 : Nat) (h : lv < 9) : (bitsOf L lv (pathN s0 lv)).count (bitB s0 lv) = L.countP (fun s => pathN s (lv + 1) == pathN s0 (lv + 1)) := by
  induction L with
  | nil => rfl
  | cons x l ih =>
    have h1 := path_step x lv h
    have h2 := path_step s0 lv h
    unfold bitsOf at ih ⊢
    rw [List.countP_cons, ← ih, List.filter_cons]
    by_cases hp : pathN x lv = pathN s0 lv
    · rw [if_pos (by simp [hp]), List.map_cons, List.count_cons]
      by_cases hb : bitB x lv = bitB s0 lv
      · have : pathN x (lv + 1) = pathN s0 (lv + 1) := by rw [h1, h2, hp, hb]
        simp [hb, this]
      · have : pathN x (lv + 1) ≠ pathN s0 (lv + 1) := by
          rw [h1, h2, hp]
          cases hx : bitB x lv <;> cases hy : bitB s0 lv <;> simp_all
        simp [hb, this]
    · rw [if_neg (by simp [hp])]
      have : pathN x (lv + 1) ≠ pathN s0 (lv + 1) := by
        rw [h1, h2]
        cases bitB x lv <;> cases bitB s0 lv <;> simp <;> omega
      simp [this]
theorem bits_take (L : List Nat) (lv p k : Nat) : (bitsOf L lv p).take ((L.take k).countP fun s => pathN s lv == p) = bitsOf (L.take k) lv p := by
  induction L generalizing k with
  | nil => simp [bitsOf]
  | cons x l ih =>
    rcases k with _ | k
    · simp [bitsOf]
    · have := ih k
      unfold bitsOf at this ⊢
      rw [List.take_succ_cons, List.countP_cons, List.filter_cons, List.filter_cons]
      by_cases hp : pathN x lv = p
      · simp only [hp, beq_self_eq_true, if_true, List.map_cons, List.take_succ_cons, this]
      · have h0 : (pathN x lv == p) = false := by simp [hp]
        simp only [h0, Bool.false_eq_true, if_false, Nat.add_zero, this]
theorem bits_len (L : List Nat) (lv p : Nat) : (bitsOf L lv p).length = L.countP fun s => pathN s lv == p := by
  unfold bitsOf
  rw [List.length_map, List.countP_eq_length_filter]
/-- How many of the first k symbols have s0's path at the level lv. -/
def atLv (L : List Nat) (k s0 lv : Nat) : Nat := (L.take k).countP fun s => pathN s lv == pathN s0 lv
theorem atLv_zero (L : List Nat) (k s0 : Nat) (hk : k ≤ L.length) (hL : ∀ s ∈ L, s < 257) (hs : s0 < 257) : atLv L k s0 0 = k := by
  unfold atLv
  rw [List.countP_eq_length.2 (fun s hs' => by
    have := hL s (List.mem_of_mem_take hs')
    simp [path_zero _ this, path_zero _ hs]), List.length_take]
  omega
theorem atLv_step (L : List Nat) (k s0 lv : Nat) (h : lv < 9) : ((bitsOf L lv (pathN s0 lv)).take (atLv L k s0 lv)).count (bitB s0 lv) = atLv L k s0 (lv + 1) := by
  unfold atLv
  rw [bits_take, bits_count _ _ _ h]
theorem atLv_le (L : List Nat) (k s0 lv : Nat) : atLv L k s0 lv ≤ (bitsOf L lv (pathN s0 lv)).length := by
  unfold atLv
  rw [bits_len]
  exact (List.take_sublist k L).countP_le
theorem atLv_nine (L : List Nat) (k s0 : Nat) : atLv L k s0 9 = (L.take k).count s0 := by
  unfold atLv
  rw [List.count_eq_countP]
  congr 1
  funext s
  rw [path_nine, path_nine]
theorem atLv_len (L : List Nat) (k s0 lv : Nat) : atLv L k s0 lv ≤ L.length := by
  unfold atLv
  exact Nat.le_trans List.countP_le_length (by rw [List.length_take]; omega)
/-- A row of m shelves, of the trees G, at the level lv. -/
def shelfL (G : Nat → Nat) (lv m : Nat) : List Value := (List.range m).flatMap fun p => [.pointer (some ⟨G p, 0, none⟩), .int .i64 (lv : Int), .int .i64 (p : Int)]
theorem shelfL_succ (G : Nat → Nat) (lv m : Nat) : shelfL G lv (m + 1) = shelfL G lv m ++ [.pointer (some ⟨G m, 0, none⟩), .int .i64 (lv : Int), .int .i64 (m : Int)] := by
  unfold shelfL
  rw [List.range_succ, List.flatMap_append]
  simp
theorem shelfL_len (G : Nat → Nat) (lv m : Nat) : (shelfL G lv m).length = m * 3 := by
  induction m with
  | zero => rfl
  | succ m ih => rw [shelfL_succ, List.length_append, ih]; simp; omega
theorem shelfL_get (G : Nat → Nat) (lv m p : Nat) (h : p < m) : (shelfL G lv m)[p * 3]? = some (.pointer (some ⟨G p, 0, none⟩)) ∧ (shelfL G lv m)[p * 3 + 1]? = some (.int .i64 (lv : Int)) ∧ (shelfL G lv m)[p * 3 + 2]? = some (.int .i64 (p : Int)) := by
  induction m with
  | zero => omega
  | succ m ih =>
    rw [shelfL_succ]
    by_cases e : p = m
    · subst e
      have hl := shelfL_len G lv p
      refine ⟨?_, ?_, ?_⟩
      · rw [List.getElem?_append_right (by omega), hl, Nat.sub_self]; rfl
      · rw [List.getElem?_append_right (by omega), hl, show p * 3 + 1 - p * 3 = 1 by omega]; rfl
      · rw [List.getElem?_append_right (by omega), hl, show p * 3 + 2 - p * 3 = 2 by omega]; rfl
    · have hl := shelfL_len G lv m
      obtain ⟨h1, h2, h3⟩ := ih (by omega)
      refine ⟨?_, ?_, ?_⟩
      · rw [List.getElem?_append_left (by omega)]; exact h1
      · rw [List.getElem?_append_left (by omega)]; exact h2
      · rw [List.getElem?_append_left (by omega)]; exact h3
theorem shelfL_congr (G G' : Nat → Nat) (lv m : Nat) (h : ∀ p, p < m → G p = G' p) : shelfL G lv m = shelfL G' lv m := by
  induction m with
  | zero => rfl
  | succ m ih => rw [shelfL_succ, shelfL_succ, ih (fun p hp => h p (by omega)), h m (by omega)]
/-- The value v is a row of m shelves at the level lv, the first m paths' trees of L. -/
def ShelfRow (w : World) (B : Nat) (v : Value) (L : List Nat) (lv m : Nat) : Prop :=
  ∃ (G : Nat → Nat), w.ownsRow B 102 3 v m (shelfL G lv m) ∧ ∀ p, p < m → B ≤ G p ∧ TreeAt w (G p) (bitsOf L lv p)
theorem ShelfRow.vis {w w' : World} {B : Nat} {v : Value} {L : List Nat} {lv m : Nat} (h : ShelfRow w B v L lv m) (k : Vis w w') : ShelfRow w' B v L lv m := by
  obtain ⟨G, h1, h2⟩ := h
  exact ⟨G, k.own h1 (by decide) (by decide), fun p hp => ⟨(h2 p hp).1, (h2 p hp).2.vis k⟩⟩
theorem ShelfRow.below {w w' : World} {B : Nat} {v : Value} {L : List Nat} {lv m : Nat} (h : ShelfRow w B v L lv m) (k : Below w.heap.size w w') : ShelfRow w' B v L lv m := h.vis (Vis.of_below k)
/-- gv is a wave of the symbols L; it and its trees were made since B. -/
def WaveAt (w : World) (B gv : Nat) (L : List Nat) : Prop :=
  B ≤ gv ∧ ∃ (S : Nat → Value) (v : Int), Bk w gv 98 (wcells S (L.length : Int) v) ∧ ∀ lv, lv < 9 → ShelfRow w B (S lv) L lv (2 ^ lv)
theorem WaveAt.vis {w w' : World} {B gv : Nat} {L : List Nat} (h : WaveAt w B gv L) (k : Vis w w') : WaveAt w' B gv L := by
  obtain ⟨h0, S, v, h1, h2⟩ := h
  obtain ⟨v', h3⟩ := k.waveC h1
  exact ⟨h0, S, v', h3, fun lv hl => (h2 lv hl).vis k⟩
theorem WaveAt.below {w w' : World} {B gv : Nat} {L : List Nat} (h : WaveAt w B gv L) (k : Below w.heap.size w w') : WaveAt w' B gv L := h.vis (Vis.of_below k)
/-- What a lookup leaves alone, where all that it writes was made since B. -/
abbrev VB (B : Nat) : World → World → Prop := VisK (fun b => B ≤ b)
theorem VB.to_below {B : Nat} {w w' : World} (h : VB B w w') (hB : B ≤ w.heap.size) : Below B w w' := h.2.to_below hB (fun b hb f => by have := f; omega)
theorem VB.set_wave {w : World} {B g : Nat} {cs : Array Value} (h : Bk w g 98 cs) (hB : B ≤ g) (v : Int) : VB B w (w.setCell ⟨g, 10, none⟩ (.int .i64 v)) := ⟨Vis.set_wave h v, Keep.setCell (F := fun b => B ≤ b) (Keep.refl _ _) (p := ⟨g, 10, none⟩) (.inl hB) _⟩
end Go.Proofs.Ytdpknieiigibfaa
