/- The walk of perm's has: where in the order the pair of a place stands. No conditions beyond how a Perm lies in memory. -/
import Derived.Test.YtdpknieiigibfaaFnPerm2
namespace Go.Proofs.Ytdpknieiigibfaa
open Go.RowKit Go.Shelf
open Go.Sort (Holds)
set_option linter.unusedVariables false
set_option linter.unusedSimpArgs false
/-- The first i at which p holds; -1: nowhere. -/
def firstI (p : Nat → Bool) : List Nat → Nat → Int
  | [], _ => -1
  | k :: l, i => if p k then (i : Int) else firstI p l (i + 1)
theorem firstI_none {p : Nat → Bool} {l : List Nat} (h : ∀ k ∈ l, p k = false) (i : Nat) : firstI p l i = -1 := by
  induction l generalizing i with
  | nil => rfl
  | cons k l ih =>
    unfold firstI
    rw [if_neg (by rw [h k (by simp)]; simp)]
    exact ih (fun k hk => h k (by simp [hk])) _
theorem firstI_some {p : Nat → Bool} {l : List Nat} (h : ∃ k ∈ l, p k = true) (i : Nat) : ∃ (j k : Nat), firstI p l i = ((i + j : Nat) : Int) ∧ l[j]? = some k ∧ p k = true := by
  induction l generalizing i with
  | nil => obtain ⟨k, hk, _⟩ := h; cases hk
  | cons x l ih =>
    unfold firstI
    by_cases hx : p x = true
    · rw [if_pos hx]
      exact ⟨0, x, rfl, rfl, hx⟩
    · rw [if_neg hx]
      obtain ⟨k, hk, hp⟩ := h
      have hk' : k ∈ l := by
        rcases List.mem_cons.1 hk with rfl | h
        · exact absurd hp hx
        · exact h
      obtain ⟨j, k', h1, h2, h3⟩ := ih ⟨k, hk', hp⟩ (i + 1)
      exact ⟨j + 1, k', by rw [h1]; congr 1; omega, by simpa using h2, h3⟩
theorem idx_first {c : Nat} {ks : List Nat} (h : ∀ k ∈ ks, k < c + 1) (p : Nat → Bool) (d : Fin (c + 1)) (i : Nat) : Lib.idxByFrom (fun (_ y : Fin (c + 1)) => p y.val) d ((ks.map fun k => (⟨k % (c + 1), Nat.mod_lt _ (Nat.succ_pos c)⟩ : Fin (c + 1)))) i = firstI p ks i := by
  induction ks generalizing i with
  | nil => rfl
  | cons k l ih =>
    rw [List.map_cons]
    unfold Lib.idxByFrom firstI
    simp only [Nat.mod_eq_of_lt (h k (by simp))]
    rw [ih (fun k hk => h k (by simp [hk]))]
set_option maxRecDepth 100000 in
set_option maxHeartbeats 1000000 in
theorem PermHas_any (B gp ga : Nat) (vl vo vt vf : Value) (R P : Nat) (ks : List Nat) (C : List (Nat × Nat)) (tk : List Bool) (fr : List Nat) (pos : Nat) (w : World) (h : PermAt w B gp ga vl vo vt vf R P ks C tk fr) (hk : ks.length ≤ 1099511627776) :
    Calls Try.prog 37 #[.pointer (some ⟨gp, 0, none⟩), .int .i64 (pos : Int)] w fun e w' => e = .returned (.int .i64 (firstI (fun k => decide (posK C k = pos)) ks 0)) ∧ Below w.heap.size w w' := by
  have hgp := h.blk.lt
  have c2 : w.cell? ⟨gp, 2, none⟩ = some vo := (h.blk.cell 2).trans rfl
  obtain ⟨W, hW⟩ : ∃ W, W = (w.alloc (.cells #[.pointer (some ⟨gp, 0, none⟩)] 43)).alloc (.cells #[.int .i64 (pos : Int)] 3) := ⟨_, rfl⟩
  have hbx : Below w.heap.size w W := hW ▸ ((Below.refl _ _).alloc (Nat.le_refl _) _).alloc (by simp) _
  have hbk1 : Bk W w.heap.size 43 #[.pointer (some ⟨gp, 0, none⟩)] := hW ▸ (Bk.new _ _ _).alloc _
  have hbk2 : Bk W (w.heap.size + 1) 3 #[.int .i64 (pos : Int)] := by
    have := Bk.new (w.alloc (.cells #[.pointer (some ⟨gp, 0, none⟩)] 43)) 3 #[.int .i64 (pos : Int)]
    rw [← hW] at this
    simpa using this
  have hcall : ∀ A n c, vo = .slice A n c → Calls Try.prog 52 #[.slice A n c, .func (.func 53) #[] #[.pointer (some ⟨w.heap.size, 0, none⟩), .pointer (some ⟨w.heap.size + 1, 0, none⟩)]] W fun e w' => e = .returned (.int .i64 (firstI (fun k => decide (posK C k = pos)) ks 0)) ∧ Below w.heap.size w w' := by
    intro A n c ev
    rcases Nat.eq_zero_or_pos ks.length with h0 | h0
    · have hke : ks = [] := List.eq_nil_of_length_eq_zero h0
      obtain ⟨A9, c9, e9, _⟩ := own_shape h.orow
      rw [ev] at e9
      injection e9 with _ e9 _
      rw [h0] at e9
      subst e9
      subst hke
      refine (AnyE.slices_IndexFunc_empty shIdx A c (.func (.func 53) #[] #[.pointer (some ⟨w.heap.size, 0, none⟩), .pointer (some ⟨w.heap.size + 1, 0, none⟩)]) _).mono ?_
      rintro e w' ⟨rfl, rfl⟩
      exact ⟨rfl, hbx⟩
    · rcases h.orow.2 with ⟨_, e⟩ | ⟨g, cap, cs, e, hBg, hg, hn, hm, hz, ht⟩
      · omega
      · rw [ev] at e
        injection e with e1 e2 e3
        subst e1 e2 e3
        rw [Nat.mul_one] at ht
        obtain ⟨k0, hk0⟩ : ∃ k, k ∈ ks := by
          obtain ⟨x, hx⟩ := List.exists_mem_of_length_pos h0
          exact ⟨x, hx⟩
        obtain ⟨cc, hcc⟩ : ∃ cc, C.length = cc + 1 := ⟨C.length - 1, by have := h.lt k0 hk0; omega⟩
        have hlt' : ∀ k ∈ ks, k < cc + 1 := fun k hk => by rw [← hcc]; exact h.lt k hk
        have hgb : Bk w g 3 cs := hg
        have hgA := hgb.below hbx hgb.lt
        have hH := ordA_holds hgA hlt' ht
        have hp : PredAt Try.prog 53 #[.pointer (some ⟨w.heap.size, 0, none⟩), .pointer (some ⟨w.heap.size + 1, 0, none⟩)] (encF cc) (fun x => decide (posK C x.val = pos)) W := by
          intro W' x hb'
          have hb1 := hbk1.below hb' hbk1.lt
          have hb2 := hbk2.below hb' hbk2.lt
          obtain ⟨A, n, c, e, hp⟩ := h.prd (w' := W') (hb1.cell 0) (hbx.trans (hb'.mono hbx.size))
          exact PermHas1_any w.heap.size (w.heap.size + 1) gp A n c C x.val pos W' hp (hb2.cell 0) (by rw [hcc]; exact x.isLt)
        have hz9 : ks.length = (ks.map fun k => (⟨k % (cc + 1), Nat.mod_lt _ (Nat.succ_pos cc)⟩ : Fin (cc + 1))).length := by simp
        have hI := AnyE.slices_IndexFunc shIdx (encF cc) (fun x => decide (posK C x.val = pos)) 53 #[.pointer (some ⟨w.heap.size, 0, none⟩), .pointer (some ⟨w.heap.size + 1, 0, none⟩)] (enters_of Try.func53 (by kernel_rfl) rfl) g 0 ks.length c (ks.map fun k => (⟨k % (cc + 1), Nat.mod_lt _ (Nat.succ_pos cc)⟩ : Fin (cc + 1))) W hp (by simp) (by omega) (fun j hj => by
          have h1 := (hH j (by simpa [ordA] using hj)).1
          simpa [ordA] using h1)
        rw [List.take_of_length_le (by simp), Lib.idxBy, idx_first hlt' (fun k => decide (posK C k = pos))] at hI
        refine hI.mono ?_
        rintro e w' ⟨rfl, q, rfl⟩
        exact ⟨rfl, hbx.os, hbx.tape, hbx.output, hbx.size, hbx.block⟩
  obtain ⟨A, c, e, _⟩ := own_shape h.orow
  have hc := hcall _ _ _ e
  rw [e] at c2
  obtain ⟨i, hi⟩ : ∃ i, firstI (fun k => decide (posK C k = pos)) ks 0 = i := ⟨_, rfl⟩
  rw [hi] at hc
  rw [hi]
  subst hW
  clear hcall h hi hbx e hbk1 hbk2
  go_enter Try.func37, Try.ntmps37
  go_wp2_with fail
  refine hc.mono ?_
  rintro e w' ⟨rfl, hb⟩
  go_wp2_with fail
  go_ret
  exact ⟨rfl, hb⟩
end Go.Proofs.Ytdpknieiigibfaa
