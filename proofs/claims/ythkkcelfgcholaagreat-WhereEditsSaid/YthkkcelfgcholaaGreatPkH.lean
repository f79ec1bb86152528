/- The walks of perm's at and has (with their closures): where a row's pair stands, where a place's. Conditions: rows and places below 2^40, at most 2^40 pairs. The walks of perm's at and has. Conditions: the pairs are sorted by their rows (PermAt says how a Perm lies in memory). The walk of perm's has: where in the order the pair of a place stands. No conditions beyond how a Perm lies in memory. The walks of arena's Live and Take (no number is free), of slices.Insert at the end, of perm's New and Add (a row behind all others). Conditions: at most 2^20 numbers. The walk of perm's Add (a row behind all others, a place that has none yet). Conditions: at most 2^20 pairs; no number is free. -/
import Derived.Test.YthkkcelfgcholaaGreatQFnWalk
import Derived.Shelf.SlCmpFuncs.None
namespace Go.Proofs.YthkkcelfgcholaaGreat
open Go.RowKit Go.Shelf
set_option linter.unusedVariables false
set_option linter.unusedSimpArgs false
def pairV (x : Nat × Nat) : List Value := [.int .i64 (x.1 : Int), .int .i64 (x.2 : Int)]
def pairsL (C : List (Nat × Nat)) : List Value := C.flatMap pairV
def rowK (C : List (Nat × Nat)) (k : Nat) : Nat := (C.getD k (0, 0)).1
def posK (C : List (Nat × Nat)) (k : Nat) : Nat := (C.getD k (0, 0)).2
theorem pairsL_len (C : List (Nat × Nat)) : (pairsL C).length = C.length * 2 := by
  induction C with
  | nil => rfl
  | cons x l ih =>
    have : pairsL (x :: l) = pairV x ++ pairsL l := rfl
    rw [this, List.length_append, ih]
    simp [pairV]
    omega
theorem pairsL_get (C : List (Nat × Nat)) (k : Nat) (h : k < C.length) : (pairsL C)[k * 2]? = some (.int .i64 ((rowK C k : Nat) : Int)) ∧ (pairsL C)[k * 2 + 1]? = some (.int .i64 ((posK C k : Nat) : Int)) := by
  induction C generalizing k with
  | nil => cases h
  | cons x l ih =>
    have e : pairsL (x :: l) = pairV x ++ pairsL l := rfl
    rcases k with _ | k
    · exact ⟨rfl, rfl⟩
    · have := ih k (by simpa using h)
      rw [e, List.getElem?_append_right (by simp [pairV]; omega), List.getElem?_append_right (by simp [pairV]; omega)]
      rw [show (k + 1) * 2 - (pairV x).length = k * 2 by simp [pairV]; omega, show (k + 1) * 2 + 1 - (pairV x).length = k * 2 + 1 by simp [pairV]; omega]
      exact this
/-- What the closures read: the boxed pointer, the pairs. -/
structure PRd (W : World) (gb gp : Nat) (A : Option Addr) (n c : Nat) (C : List (Nat × Nat)) : Prop where
  box : W.cell? ⟨gb, 0, none⟩ = some (.pointer (some ⟨gp, 0, none⟩))
  sl : W.cell? ⟨gp, 1, none⟩ = some (.slice A n c)
  rd : Rd W W.heap.size 2 A n (pairsL C)
theorem PRd.below {W W' : World} {gb gp n c : Nat} {A : Option Addr} {C : List (Nat × Nat)} (h : PRd W gb gp A n c C) (hb : gb < W.heap.size) (hp : gp < W.heap.size) (k : Below W.heap.size W W') : PRd W' gb gp A n c C :=
  ⟨(k.cell hb).trans h.box, (k.cell hp).trans h.sl, (h.rd.below k).mono k.size⟩
theorem PRd.drewN {W : World} {gb gp n c : Nat} {A : Option Addr} {C : List (Nat × Nat)} (h : PRd W gb gp A n c C) (q : Nat) : PRd (W.drewN q) gb gp A n c C := ⟨h.box, h.sl, h.rd⟩
theorem PRd.at {W : World} {gb gp n c : Nat} {A : Option Addr} {C : List (Nat × Nat)} (h : PRd W gb gp A n c C) {k : Nat} (hk : k < C.length) :
    k < n ∧ ∃ b off, A = some ⟨b, off, none⟩ ∧ W.cell? ⟨b, off + k * 2, none⟩ = some (.int .i64 ((rowK C k : Nat) : Int)) ∧ W.cell? ⟨b, off + k * 2 + 1, none⟩ = some (.int .i64 ((posK C k : Nat) : Int)) := by
  have hl := h.rd.1
  rw [pairsL_len] at hl
  have hn : k < n := by omega
  obtain ⟨b, off, e, _, hc⟩ := h.rd.2 (by omega)
  obtain ⟨h1, h2⟩ := pairsL_get C k hk
  exact ⟨hn, b, off, e, hc _ _ h1, by rw [Nat.add_assoc]; exact hc _ _ h2⟩
set_option maxRecDepth 100000 in
theorem PermAt1_any (gb gp : Nat) (A : Option Addr) (n c : Nat) (C : List (Nat × Nat)) (k row : Nat) (W : World) (h : PRd W gb gp A n c C) (hk : k < C.length) :
    Calls Tryz.prog 78 #[.int .i64 (k : Int), .int .i64 (row : Int), .pointer (some ⟨gb, 0, none⟩)] W fun e w' => e = .returned (.int .i64 (Lib.compareInt (rowK C k : Nat) row)) ∧ W = w' := by
  obtain ⟨hkn, b, off, rfl, h1, h2⟩ := h.at hk
  have c0 := h.box
  have c1 := h.sl
  have hcmp := AnyG.cmp_Compare_int shCmp ((rowK C k : Nat) : Int) (row : Int) W
  change Calls Tryz.prog 79 _ _ _ at hcmp
  generalize Lib.compareInt (rowK C k : Nat) row = r at hcmp ⊢
  clear h h2
  go_enter Tryz.func78, Tryz.ntmps78
  go_wp2_with fail
  refine hcmp.mono ?_
  rintro e w' ⟨rfl, rfl⟩
  go_wp2_with fail
  go_ret
  exact ⟨rfl, rfl⟩
set_option maxRecDepth 100000 in
theorem PermHas1_any (gb gq gp : Nat) (A : Option Addr) (n c : Nat) (C : List (Nat × Nat)) (k pos : Nat) (W : World) (h : PRd W gb gp A n c C) (hq : W.cell? ⟨gq, 0, none⟩ = some (.int .i64 (pos : Int))) (hk : k < C.length) :
    Calls Tryz.prog 81 #[.int .i64 (k : Int), .pointer (some ⟨gb, 0, none⟩), .pointer (some ⟨gq, 0, none⟩)] W fun e w' => e = .returned (.bool (decide (posK C k = pos))) ∧ ∃ q, w' = W.drewN q := by
  obtain ⟨hkn, b, off, rfl, h1, h2⟩ := h.at hk
  have c0 := h.box
  have c1 := h.sl
  obtain ⟨x, hx⟩ : ∃ x, posK C k = x := ⟨_, rfl⟩
  rw [hx] at h2 ⊢
  clear h h1 hx
  by_cases e : x = pos
  · subst e
    go_enter Tryz.func81, Tryz.ntmps81
    go_wp2
    go_quiet (fail)
    go_wp2
    go_ret
    exact ⟨by simp, _, rfl⟩
  · have e1 : ((x : Int) == (pos : Int)) = false := by simp; omega
    go_enter Tryz.func81, Tryz.ntmps81
    go_wp2
    go_quiet (fail)
    go_wp2
    go_ret
    exact ⟨by simp [e], _, rfl⟩
end Go.Proofs.YthkkcelfgcholaaGreat
namespace Go.Proofs.YthkkcelfgcholaaGreat
open Go.RowKit Go.Shelf
open Go.Sort (Holds)
set_option linter.unusedVariables false
set_option linter.unusedSimpArgs false
/-- How a Perm lies in memory: its order ks, its pairs C by numbers, which numbers are taken (tk), which are free (fr). -/
structure PermAt (w : World) (B gp ga : Nat) (vl vo vt vf : Value) (R P : Nat) (ks : List Nat) (C : List (Nat × Nat)) (tk : List Bool) (fr : List Nat) : Prop where
  blk : Bk w gp 69 #[.pointer (some ⟨ga, 0, none⟩), vl, vo, .int .i64 (R : Int), .int .i64 (P : Int)]
  lrow : w.ownsRow B 71 2 vl C.length (pairsL C)
  orow : w.ownsRow B 3 1 vo ks.length (ks.map sv)
  ar : Bk w ga 108 #[vt, vf, .int .i64 268435456]
  trow : w.ownsRow B 4 1 vt tk.length (tk.map Value.bool)
  frow : w.ownsRow B 3 1 vf fr.length (fr.map sv)
  apart : vo.ownBlock = none ∨ vo.ownBlock ≠ vf.ownBlock
  lt : ∀ k ∈ ks, k < C.length
  lo : B ≤ gp ∧ B ≤ ga
theorem cnt_lt {l : List Nat} {f : Nat → Nat} (h : l.Pairwise (fun a b => f a < f b)) (r : Nat) : ∀ (j x : Nat), l[j]? = some x → (f x < r ↔ j < l.countP fun k => decide (f k < r)) := by
  induction l with
  | nil => intro j x h; cases h
  | cons y l ih =>
    obtain ⟨h1, h2⟩ := List.pairwise_cons.1 h
    intro j x hj
    rw [List.countP_cons]
    by_cases hy : f y < r
    · rcases j with _ | j
      · simp at hj
        subst hj
        simp [hy]
      · have := ih h2 j x (by simpa using hj)
        simp only [hy, decide_true, if_true]
        omega
    · have h0 : (l.countP fun k => decide (f k < r)) = 0 := by
        rw [List.countP_eq_zero]
        intro a ha
        have := h1 a ha
        simp
        omega
      rcases j with _ | j
      · simp at hj
        subst hj
        simp [hy, h0]
      · have hx := h1 x (List.mem_of_getElem? (by simpa using hj))
        simp only [h0, hy, decide_false]
        simp
        omega
theorem cnt_found {l : List Nat} {f : Nat → Nat} (h : l.Pairwise (fun a b => f a < f b)) (r : Nat) : (∃ x, l[l.countP fun k => decide (f k < r)]? = some x ∧ f x = r) ↔ ∃ k ∈ l, f k = r := by
  constructor
  · rintro ⟨x, h1, h2⟩
    exact ⟨x, List.mem_of_getElem? h1, h2⟩
  · rintro ⟨k, hk, rfl⟩
    obtain ⟨j, hj, rfl⟩ := List.getElem_of_mem hk
    have e1 := List.getElem?_eq_getElem hj
    have h1 := cnt_lt h (f l[j]) j _ e1
    have hle : ¬ j < l.countP fun k => decide (f k < f l[j]) := fun e => by have := h1.2 e; omega
    rcases Nat.lt_or_ge (l.countP fun k => decide (f k < f l[j])) j with h2 | h2
    · have hlt : (l.countP fun k => decide (f k < f l[j])) < l.length := by omega
      have e2 := List.getElem?_eq_getElem hlt
      have h3 := cnt_lt h (f l[j]) _ _ e2
      have h4 : ¬ f l[l.countP fun k => decide (f k < f l[j])] < f l[j] := fun e => by have := h3.1 e; omega
      have h5 := List.pairwise_iff_getElem.1 h _ _ hlt hj h2
      omega
    · have e : (l.countP fun k => decide (f k < f l[j])) = j := by omega
      rw [e]
      exact ⟨_, e1, rfl⟩
/-- The order's numbers as the shelf takes them. -/
def ordA (c : Nat) (ks : List Nat) : Array (Fin (c + 1)) := (ks.map fun k => (⟨k % (c + 1), Nat.mod_lt _ (Nat.succ_pos c)⟩ : Fin (c + 1))).toArray
theorem ordA_get {c : Nat} {ks : List Nat} (h : ∀ k ∈ ks, k < c + 1) {j k : Nat} (hj : ks[j]? = some k) : ((ordA c ks)[j]!).val = k := by
  have hl : j < ks.length := (List.getElem?_eq_some_iff.1 hj).1
  have hk := h k (List.mem_of_getElem? hj)
  have e : ks[j] = k := by rw [List.getElem?_eq_getElem hl] at hj; injection hj
  rw [getB _ _ (by simpa [ordA] using hl)]
  simp [ordA, e, Nat.mod_eq_of_lt hk]
theorem ordA_count {c : Nat} {ks : List Nat} (h : ∀ k ∈ ks, k < c + 1) (p : Nat → Bool) : (ordA c ks).toList.countP (fun x => p x.val) = ks.countP p := by
  unfold ordA
  rw [List.countP_map]
  refine List.countP_congr fun k hk => ?_
  simp [Nat.mod_eq_of_lt (h k hk)]
theorem ordA_holds {w : World} {c g : Nat} {ks : List Nat} {cs : Array Value} (hb : Bk w g 3 cs) (h : ∀ k ∈ ks, k < c + 1) (ht : cs.toList.take ks.length = ks.map sv) : Holds (encF c) w g 0 (ordA c ks) := by
  intro j hj
  have hl : j < ks.length := by simpa [ordA] using hj
  rw [Nat.zero_add]
  refine ⟨?_, hb.frozen j⟩
  have e : (cs.toList.take ks.length)[j]? = (ks.map sv)[j]? := by rw [ht]
  rw [List.getElem?_take, if_pos hl, List.getElem?_map, List.getElem?_eq_getElem hl, Array.getElem?_toList] at e
  rw [hb.cell, e]
  have := ordA_get h (List.getElem?_eq_getElem hl)
  simp [encF, this, sv]
theorem sw_below {w w' : World} {c g : Nat} {d : Array (Fin (c + 1))} (hH : Holds (encF c) w g 0 d) (h : SW (encF c) w g 0 d w') : Below w.heap.size w w' := by
  obtain ⟨n, os, rfl⟩ := h
  unfold sortWorld
  have e : Go.Sort.putRow (encF c) (Go.Sort.ahead w n) g 0 d = Go.Sort.ahead w n := Go.Sort.putRow_self (encF c) _ g 0 d hH
  rw [e]
  exact ⟨rfl, rfl, rfl, by show w.heap.size ≤ (w.heap ++ os).size; simp, fun k hk => Go.Sort.heap_grow_old _ _ hk⟩
theorem cmp_neg (x y : Int) : Lib.compareInt x y < 0 ↔ x < y := by
  unfold Lib.compareInt
  split
  · simp [*]
  · split <;> simp [*]
theorem cmp_zero (x y : Int) : Lib.compareInt x y = 0 ↔ x = y := by
  unfold Lib.compareInt
  split
  · simp; omega
  · split
    · simp; omega
    · simp; omega
section
variable {w : World} {B gp ga : Nat} {vl vo vt vf : Value} {R P : Nat} {ks : List Nat} {C : List (Nat × Nat)} {tk : List Bool} {fr : List Nat}
theorem PermAt.prd (h : PermAt w B gp ga vl vo vt vf R P ks C tk fr) {gb : Nat} {w' : World} (hb : w'.cell? ⟨gb, 0, none⟩ = some (.pointer (some ⟨gp, 0, none⟩))) (k : Below w.heap.size w w') : ∃ A n c, vl = .slice A n c ∧ PRd w' gb gp A n c C := by
  obtain ⟨A, c, e, _⟩ := own_shape h.lrow
  refine ⟨A, C.length, c, e, hb, ?_, ?_⟩
  · have := (h.blk.below k h.blk.lt).cell 1
    rw [e] at this
    exact this
  · have h1 := own_below h.lrow k
    rw [e] at h1
    exact Rd.of_own h1
end
theorem at_fin {ks : List Nat} {C : List (Nat × Nat)} {c row : Nat} (hc : C.length = c + 1) (hlt : ∀ k ∈ ks, k < C.length) (hs : ks.Pairwise (fun a b => rowK C a < rowK C b)) :
    ((ordA c ks).toList.countP (fun x => decide (Lib.compareInt (rowK C x.val : Nat) row < 0))) = ks.countP (fun k => decide (rowK C k < row)) ∧
    (decide (((ordA c ks).toList.countP (fun x => decide (Lib.compareInt (rowK C x.val : Nat) row < 0))) < (ordA c ks).size) && decide (Lib.compareInt (rowK C ((ordA c ks)[((ordA c ks).toList.countP (fun x => decide (Lib.compareInt (rowK C x.val : Nat) row < 0)))]!).val : Nat) row = 0)) = decide (∃ k ∈ ks, rowK C k = row) := by
  have hlt' : ∀ k ∈ ks, k < c + 1 := fun k hk => by rw [← hc]; exact hlt k hk
  have e1 : (ordA c ks).toList.countP (fun x => decide (Lib.compareInt (rowK C x.val : Nat) row < 0)) = ks.countP (fun k => decide (rowK C k < row)) := by
    rw [← ordA_count hlt' (fun k => decide (rowK C k < row))]
    congr 1
    funext x
    rw [decide_eq_decide, cmp_neg]
    omega
  refine ⟨e1, ?_⟩
  rw [e1, Bool.eq_iff_iff]
  simp only [Bool.and_eq_true, decide_eq_true_eq, cmp_zero]
  rw [← cnt_found (f := rowK C) hs row]
  constructor
  · rintro ⟨h1, h2⟩
    have hl : (ks.countP fun k => decide (rowK C k < row)) < ks.length := by simpa [ordA] using h1
    refine ⟨_, List.getElem?_eq_getElem hl, ?_⟩
    rw [ordA_get hlt' (List.getElem?_eq_getElem hl)] at h2
    omega
  · rintro ⟨x, h1, h2⟩
    have hl := (List.getElem?_eq_some_iff.1 h1).1
    refine ⟨by simpa [ordA] using hl, ?_⟩
    rw [ordA_get hlt' h1]
    omega
set_option maxRecDepth 100000 in
set_option maxHeartbeats 1000000 in
theorem PermAt_any (B gp ga : Nat) (vl vo vt vf : Value) (R P : Nat) (ks : List Nat) (C : List (Nat × Nat)) (tk : List Bool) (fr : List Nat) (row : Nat) (w : World) (h : PermAt w B gp ga vl vo vt vf R P ks C tk fr) (hs : ks.Pairwise (fun a b => rowK C a < rowK C b)) (hk : ks.length ≤ 1099511627776) :
    Calls Tryz.prog 46 #[.pointer (some ⟨gp, 0, none⟩), .int .i64 (row : Int)] w fun e w' => e = .returned (.tuple #[.int .i64 ((ks.countP (fun k => decide (rowK C k < row)) : Nat) : Int), .bool (decide (∃ k ∈ ks, rowK C k = row))]) ∧ Below w.heap.size w w' := by
  have hgp := h.blk.lt
  have hbx : Below w.heap.size w (w.alloc (.cells #[.pointer (some ⟨gp, 0, none⟩)] 41)) := (Below.refl _ _).alloc (Nat.le_refl _) _
  have c2 : w.cell? ⟨gp, 2, none⟩ = some vo := (h.blk.cell 2).trans rfl
  have hcall : ∀ A n c, vo = .slice A n c → Calls Tryz.prog 77 #[.slice A n c, .int .i64 (row : Int), .func (.func 78) #[] #[.pointer (some ⟨w.heap.size, 0, none⟩)]] (w.alloc (.cells #[.pointer (some ⟨gp, 0, none⟩)] 41)) fun e w' => e = .returned (.tuple #[.int .i64 ((ks.countP (fun k => decide (rowK C k < row)) : Nat) : Int), .bool (decide (∃ k ∈ ks, rowK C k = row))]) ∧ Below w.heap.size w w' := by
    intro A n c ev
    rcases Nat.eq_zero_or_pos ks.length with h0 | h0
    · have hke : ks = [] := List.eq_nil_of_length_eq_zero h0
      obtain ⟨A9, c9, e9, _⟩ := own_shape h.orow
      rw [ev] at e9
      injection e9 with _ e9 _
      rw [h0] at e9
      subst e9
      subst hke
      refine (Any.slices_BinarySearchFunc_none shBin A c (.int .i64 (row : Int)) (.func (.func 78) #[] #[.pointer (some ⟨w.heap.size, 0, none⟩)]) _).mono ?_
      rintro e w' ⟨rfl, rfl⟩
      exact ⟨by simp, hbx⟩
    · rcases h.orow.2 with ⟨_, e⟩ | ⟨g, cap, cs, e, hBg, hg, hn, hm, hz, ht⟩
      · omega
      · rw [ev] at e
        injection e with e1 e2 e3
        subst e1 e2 e3
        rw [Nat.mul_one] at ht
        obtain ⟨k0, hk0⟩ : ∃ k, k ∈ ks := by
          obtain ⟨x, hx⟩ := List.exists_mem_of_length_pos h0
          exact ⟨x, hx⟩
        obtain ⟨cc, hcc⟩ : ∃ cc, C.length = cc + 1 := ⟨C.length - 1, by have := h.lt k0 hk0; omega⟩
        have hlt' : ∀ k ∈ ks, k < cc + 1 := fun k hk => by rw [← hcc]; exact h.lt k hk
        have hgb : Bk w g 3 cs := hg
        have hgA := hgb.below hbx hgb.lt
        have hH := ordA_holds hgA hlt' ht
        have hbox : (w.alloc (.cells #[.pointer (some ⟨gp, 0, none⟩)] 41)).cell? ⟨w.heap.size, 0, none⟩ = some (.pointer (some ⟨gp, 0, none⟩)) := (Bk.new w 41 #[.pointer (some ⟨gp, 0, none⟩)]).cell 0
        have hcmp : CmpLaysT Tryz.prog 78 #[.pointer (some ⟨w.heap.size, 0, none⟩)] (encF cc) (.int .i64 (row : Int)) (fun x => Lib.compareInt (rowK C x.val : Nat) row) g 0 (ordA cc ks).size (w.alloc (.cells #[.pointer (some ⟨gp, 0, none⟩)] 41)) := by
          intro q os dk hdk x
          have hk9 := sort_keep (enc := encF cc) hgA.lt 0 q dk os
          obtain ⟨A, n, c, e, hp⟩ := h.prd hbox hbx
          have hp9 : PRd (sortWorld (encF cc) (w.alloc (.cells #[.pointer (some ⟨gp, 0, none⟩)] 41)) g 0 q dk os) w.heap.size gp A n c C := by
            refine ⟨?_, ?_, ?_⟩
            · exact (hk9.cell (p := ⟨w.heap.size, 0, none⟩) (by simp) (fun e => by have := hgb.lt; have e' : w.heap.size = g := e; omega)).trans hp.box
            · exact (hk9.cell (p := ⟨gp, 1, none⟩) (by simp; omega) (Bk.ne h.blk hgb (by decide))).trans hp.sl
            · have hl1 := own_below h.lrow hbx
              have hl2 := own_same (w' := sortWorld (encF cc) (w.alloc (.cells #[.pointer (some ⟨gp, 0, none⟩)] 41)) g 0 q dk os) hl1 fun b cs' _ hb' => hk9.bk hb' (Bk.ne hb' hgA (by decide))
              obtain ⟨A9, c9, e9, _⟩ := own_shape h.lrow
              rw [e] at e9 hl2
              injection e9 with e91 e92 e93
              subst e92
              exact Rd.of_own hl2
          exact (PermAt1_any w.heap.size gp A n c C x.val row _ hp9 (by rw [hcc]; exact x.isLt)).mono fun _ _ ⟨h1, h2⟩ => ⟨h1, 0, #[], by rw [← h2, Go.Sort.grow_empty]; rfl⟩
        have hmono : ∀ a b, a ≤ b → b < (ordA cc ks).size → Lib.compareInt (rowK C ((ordA cc ks)[b]!).val : Nat) row < 0 → Lib.compareInt (rowK C ((ordA cc ks)[a]!).val : Nat) row < 0 := by
          intro a b hab hb hlt
          have hb' : b < ks.length := by simpa [ordA] using hb
          rw [ordA_get hlt' (List.getElem?_eq_getElem hb'), cmp_neg] at hlt
          rw [ordA_get hlt' (List.getElem?_eq_getElem (show a < ks.length by omega)), cmp_neg]
          rcases Nat.eq_or_lt_of_le hab with rfl | hab
          · exact hlt
          · have := List.pairwise_iff_getElem.1 hs a b (by omega) hb' hab
            omega
        have hz9 : (ordA cc ks).size = ks.length := by simp [ordA]
        have hB := Any.slices_BinarySearchFunc shBin (encF cc) (oneCell_encF cc) (.int .i64 (row : Int)) (fun x => Lib.compareInt (rowK C x.val : Nat) row) 78 #[.pointer (some ⟨w.heap.size, 0, none⟩)] g 0 c (ordA cc ks) (w.alloc (.cells #[.pointer (some ⟨gp, 0, none⟩)] 41)) (enters_of Tryz.func78 (by kernel_rfl) rfl) hcmp hH hgA.lt (by rw [hz9]; omega) hmono
        obtain ⟨f1, f2⟩ := at_fin (row := row) hcc h.lt hs
        rw [f1] at f2
        rw [f1, f2] at hB
        rw [hz9] at hB
        refine hB.mono ?_
        rintro e w' ⟨rfl, hsw⟩
        exact ⟨rfl, hbx.trans ((sw_below hH hsw).mono (by simp))⟩
  obtain ⟨A, c, e, _⟩ := own_shape h.orow
  have hc := hcall _ _ _ e
  rw [e] at c2
  obtain ⟨i, hi⟩ : ∃ i, ks.countP (fun k => decide (rowK C k < row)) = i := ⟨_, rfl⟩
  obtain ⟨fd, hfd⟩ : ∃ b, decide (∃ k ∈ ks, rowK C k = row) = b := ⟨_, rfl⟩
  rw [hi, hfd] at hc
  rw [hi, hfd]
  clear hcall h hs hi hfd hbx e
  go_enter Tryz.func46, Tryz.ntmps46
  go_wp2_with fail
  refine hc.mono ?_
  rintro e w' ⟨rfl, hb⟩
  go_wp2_with fail
  go_ret2
  exact ⟨rfl, hb⟩
end Go.Proofs.YthkkcelfgcholaaGreat
namespace Go.Proofs.YthkkcelfgcholaaGreat
open Go.RowKit Go.Shelf
open Go.Sort (Holds)
set_option linter.unusedVariables false
set_option linter.unusedSimpArgs false
/-- The first i at which p holds; -1: nowhere. -/
def firstI (p : Nat → Bool) : List Nat → Nat → Int
  | [], _ => -1
  | k :: l, i => if p k then (i : Int) else firstI p l (i + 1)
theorem firstI_none {p : Nat → Bool} {l : List Nat} (h : ∀ k ∈ l, p k = false) (i : Nat) : firstI p l i = -1 := by
  induction l generalizing i with
  | nil => rfl
  | cons k l ih =>
    unfold firstI
    rw [if_neg (by rw [h k (by simp)]; simp)]
    exact ih (fun k hk => h k (by simp [hk])) _
theorem firstI_some {p : Nat → Bool} {l : List Nat} (h : ∃ k ∈ l, p k = true) (i : Nat) : ∃ (j k : Nat), firstI p l i = ((i + j : Nat) : Int) ∧ l[j]? = some k ∧ p k = true := by
  induction l generalizing i with
  | nil => obtain ⟨k, hk, _⟩ := h; cases hk
  | cons x l ih =>
    unfold firstI
    by_cases hx : p x = true
    · rw [if_pos hx]
      exact ⟨0, x, rfl, rfl, hx⟩
    · rw [if_neg hx]
      obtain ⟨k, hk, hp⟩ := h
      have hk' : k ∈ l := by
        rcases List.mem_cons.1 hk with rfl | h
        · exact absurd hp hx
        · exact h
      obtain ⟨j, k', h1, h2, h3⟩ := ih ⟨k, hk', hp⟩ (i + 1)
      exact ⟨j + 1, k', by rw [h1]; congr 1; omega, by simpa using h2, h3⟩
theorem idx_first {c : Nat} {ks : List Nat} (h : ∀ k ∈ ks, k < c + 1) (p : Nat → Bool) (d : Fin (c + 1)) (i : Nat) : Lib.idxByFrom (fun (_ y : Fin (c + 1)) => p y.val) d ((ks.map fun k => (⟨k % (c + 1), Nat.mod_lt _ (Nat.succ_pos c)⟩ : Fin (c + 1)))) i = firstI p ks i := by
  induction ks generalizing i with
  | nil => rfl
  | cons k l ih =>
    rw [List.map_cons]
    unfold Lib.idxByFrom firstI
    simp only [Nat.mod_eq_of_lt (h k (by simp))]
    rw [ih (fun k hk => h k (by simp [hk]))]
set_option maxRecDepth 100000 in
set_option maxHeartbeats 1000000 in
theorem PermHas_any (B gp ga : Nat) (vl vo vt vf : Value) (R P : Nat) (ks : List Nat) (C : List (Nat × Nat)) (tk : List Bool) (fr : List Nat) (pos : Nat) (w : World) (h : PermAt w B gp ga vl vo vt vf R P ks C tk fr) (hk : ks.length ≤ 1099511627776) :
    Calls Tryz.prog 47 #[.pointer (some ⟨gp, 0, none⟩), .int .i64 (pos : Int)] w fun e w' => e = .returned (.int .i64 (firstI (fun k => decide (posK C k = pos)) ks 0)) ∧ Below w.heap.size w w' := by
  have hgp := h.blk.lt
  have c2 : w.cell? ⟨gp, 2, none⟩ = some vo := (h.blk.cell 2).trans rfl
  obtain ⟨W, hW⟩ : ∃ W, W = (w.alloc (.cells #[.pointer (some ⟨gp, 0, none⟩)] 41)).alloc (.cells #[.int .i64 (pos : Int)] 3) := ⟨_, rfl⟩
  have hbx : Below w.heap.size w W := hW ▸ ((Below.refl _ _).alloc (Nat.le_refl _) _).alloc (by simp) _
  have hbk1 : Bk W w.heap.size 41 #[.pointer (some ⟨gp, 0, none⟩)] := hW ▸ (Bk.new _ _ _).alloc _
  have hbk2 : Bk W (w.heap.size + 1) 3 #[.int .i64 (pos : Int)] := by
    have := Bk.new (w.alloc (.cells #[.pointer (some ⟨gp, 0, none⟩)] 41)) 3 #[.int .i64 (pos : Int)]
    rw [← hW] at this
    simpa using this
  have hcall : ∀ A n c, vo = .slice A n c → Calls Tryz.prog 80 #[.slice A n c, .func (.func 81) #[] #[.pointer (some ⟨w.heap.size, 0, none⟩), .pointer (some ⟨w.heap.size + 1, 0, none⟩)]] W fun e w' => e = .returned (.int .i64 (firstI (fun k => decide (posK C k = pos)) ks 0)) ∧ Below w.heap.size w w' := by
    intro A n c ev
    rcases Nat.eq_zero_or_pos ks.length with h0 | h0
    · have hke : ks = [] := List.eq_nil_of_length_eq_zero h0
      obtain ⟨A9, c9, e9, _⟩ := own_shape h.orow
      rw [ev] at e9
      injection e9 with _ e9 _
      rw [h0] at e9
      subst e9
      subst hke
      refine (AnyE.slices_IndexFunc_empty shIdx A c (.func (.func 81) #[] #[.pointer (some ⟨w.heap.size, 0, none⟩), .pointer (some ⟨w.heap.size + 1, 0, none⟩)]) _).mono ?_
      rintro e w' ⟨rfl, rfl⟩
      exact ⟨rfl, hbx⟩
    · rcases h.orow.2 with ⟨_, e⟩ | ⟨g, cap, cs, e, hBg, hg, hn, hm, hz, ht⟩
      · omega
      · rw [ev] at e
        injection e with e1 e2 e3
        subst e1 e2 e3
        rw [Nat.mul_one] at ht
        obtain ⟨k0, hk0⟩ : ∃ k, k ∈ ks := by
          obtain ⟨x, hx⟩ := List.exists_mem_of_length_pos h0
          exact ⟨x, hx⟩
        obtain ⟨cc, hcc⟩ : ∃ cc, C.length = cc + 1 := ⟨C.length - 1, by have := h.lt k0 hk0; omega⟩
        have hlt' : ∀ k ∈ ks, k < cc + 1 := fun k hk => by rw [← hcc]; exact h.lt k hk
        have hgb : Bk w g 3 cs := hg
        have hgA := hgb.below hbx hgb.lt
        have hH := ordA_holds hgA hlt' ht
        have hp : PredAt Tryz.prog 81 #[.pointer (some ⟨w.heap.size, 0, none⟩), .pointer (some ⟨w.heap.size + 1, 0, none⟩)] (encF cc) (fun x => decide (posK C x.val = pos)) W := by
          intro W' x hb'
          have hb1 := hbk1.below hb' hbk1.lt
          have hb2 := hbk2.below hb' hbk2.lt
          obtain ⟨A, n, c, e, hp⟩ := h.prd (w' := W') (hb1.cell 0) (hbx.trans (hb'.mono hbx.size))
          exact PermHas1_any w.heap.size (w.heap.size + 1) gp A n c C x.val pos W' hp (hb2.cell 0) (by rw [hcc]; exact x.isLt)
        have hz9 : ks.length = (ks.map fun k => (⟨k % (cc + 1), Nat.mod_lt _ (Nat.succ_pos cc)⟩ : Fin (cc + 1))).length := by simp
        have hI := AnyE.slices_IndexFunc shIdx (encF cc) (fun x => decide (posK C x.val = pos)) 81 #[.pointer (some ⟨w.heap.size, 0, none⟩), .pointer (some ⟨w.heap.size + 1, 0, none⟩)] (enters_of Tryz.func81 (by kernel_rfl) rfl) g 0 ks.length c (ks.map fun k => (⟨k % (cc + 1), Nat.mod_lt _ (Nat.succ_pos cc)⟩ : Fin (cc + 1))) W hp (by simp) (by omega) (fun j hj => by
          have h1 := (hH j (by simpa [ordA] using hj)).1
          simpa [ordA] using h1)
        rw [List.take_of_length_le (by simp), Lib.idxBy, idx_first hlt' (fun k => decide (posK C k = pos))] at hI
        refine hI.mono ?_
        rintro e w' ⟨rfl, q, rfl⟩
        exact ⟨rfl, hbx.os, hbx.tape, hbx.output, hbx.size, hbx.block⟩
  obtain ⟨A, c, e, _⟩ := own_shape h.orow
  have hc := hcall _ _ _ e
  rw [e] at c2
  obtain ⟨i, hi⟩ : ∃ i, firstI (fun k => decide (posK C k = pos)) ks 0 = i := ⟨_, rfl⟩
  rw [hi] at hc
  rw [hi]
  subst hW
  clear hcall h hi hbx e hbk1 hbk2
  go_enter Tryz.func47, Tryz.ntmps47
  go_wp2_with fail
  refine hc.mono ?_
  rintro e w' ⟨rfl, hb⟩
  go_wp2_with fail
  go_ret
  exact ⟨rfl, hb⟩
end Go.Proofs.YthkkcelfgcholaaGreat
namespace Go.Proofs.YthkkcelfgcholaaGreat
open Go.RowKit
set_option linter.unusedVariables false
set_option linter.unusedSimpArgs false
set_option maxRecDepth 100000 in
set_option maxHeartbeats 1000000 in
theorem ArenaLive_any (ga : Nat) (A : Option Addr) (c : Nat) (Af : Option Addr) (cf N M : Nat) (w : World) (hb : Bk w ga 108 #[.slice A N c, .slice Af M cf, .int .i64 268435456]) (hN : N ≤ 1048576) (hM : M ≤ N) :
    Calls Tryz.prog 82 #[.pointer (some ⟨ga, 0, none⟩)] w fun e w' => e = .returned (.int .i64 ((N - M : Nat) : Int)) ∧ Below w.heap.size w w' := by
  have c0 : w.cell? ⟨ga, 0, none⟩ = some (.slice A N c) := (hb.cell 0).trans rfl
  have c1 : w.cell? ⟨ga, 1, none⟩ = some (.slice Af M cf) := (hb.cell 1).trans rfl
  have h64 : IntKind.i64.wrap ((N : Int) - (M : Int)) = ((N - M : Nat) : Int) := by rw [IntKind.wrap_i64]; omega
  clear hb
  go_enter Tryz.func82, Tryz.ntmps82
  go_wp2
  go_quiet (fail)
  go_wp2
  go_ret
  exact ⟨ret_i64 (by omega), below_drewN (Below.refl _ _) _⟩
set_option maxRecDepth 100000 in
set_option maxHeartbeats 2000000 in
theorem TakeMore_any (B ga : Nat) (A : Option Addr) (c : Nat) (Af : Option Addr) (cf N : Nat) (tk : List Bool) (w : World) (hb : Bk w ga 108 #[.slice A N c, .slice Af 0 cf, .int .i64 268435456]) (hown : w.ownsRow B 4 1 (.slice A N c) N (tk.map Value.bool)) (hB : B ≤ w.heap.size) (hN : N ≤ 1000000) :
    Calls Tryz.prog 48 #[.pointer (some ⟨ga, 0, none⟩)] w fun e w' => e = .returned (.tuple #[.int .i64 (N : Int), .int .i64 0]) ∧ Keep (fun b => b = ga ∨ (Value.slice A N c).ownBlock = some b) w w' ∧ ∃ vt, Bk w' ga 108 #[vt, .slice Af 0 cf, .int .i64 268435456] ∧ w'.ownsRow B 4 1 vt (N + 1) ((tk ++ [true]).map Value.bool) ∧ (vt.ownBlock = (Value.slice A N c).ownBlock ∨ ∃ g, vt.ownBlock = some g ∧ w.heap.size ≤ g) := by
  obtain ⟨i0, hi0, hz0, hz1, hz2⟩ := info_parts bool_info
  have hgl := hb.lt
  have Hb := Lib.hid hb
  have Hown := Lib.hid hown
  have Hne := Lib.hid (own_bk_ne hown hb (by decide))
  clear hb hown
  go_enter Tryz.func48, Tryz.ntmps48
  go_wp2
  refine wp_region_any (by kernel_rfl) ?_
  refine wpAny_loose2 [10, 11, 12, 13, 14, 15, 16, 9] (Grow) (Vs [is (.pointer (some ⟨ga, 0, none⟩)), is (.int .i64 (N : Int)), is (.pointer (some ⟨ga, 0, none⟩)), is (.pointer (some ⟨ga, 0, none⟩)), is (.pointer (some ⟨ga, 2, none⟩)), is (.int .i64 268435456), is (.bool false), is (.bool false)]) _ _ rfl (by kernel_rfl) (Below.refl _ _) (fun _ _ => Grow.trans) (stbs_all (by repeat' (first | exact stbs_is _ _ | exact stbs_any _ | (refine List.forall_mem_cons.2 ⟨?_, ?_⟩) | (intro p hp; cases hp)))) ?_ ?_
  · refine steps_of ?_
    refine steps_cons ?_ ?_
    · refine step_on rfl rfl ?_
      intro ev w5 hS hc hf hold hval a K ha hK
      have e0 : ev (.tmp 0) = .pointer (some ⟨ga, 0, none⟩) := hold 0 (by kernel_rfl)
      replace hS : (Grow) w w5 := ⟨hS.os, hS.tape, hS.output, hS.size, hS.block⟩
      go_simp
      exact hK _ _ ((Below.refl _ _)) rfl
    refine steps_cons ?_ ?_
    · refine step_on rfl rfl ?_
      intro ev w5 hS hc hf hold hval a K ha hK
      have e10 : ev (.tmp 10) = .pointer (some ⟨ga, 0, none⟩) := hval 0 10 (by kernel_rfl) rfl
      replace hS : (Grow) w w5 := ⟨hS.os, hS.tape, hS.output, hS.size, hS.block⟩
      go_simp
      refine (ArenaLive_any ga A c Af cf N 0 w5 (Hb.out.below hS Hb.out.lt) (by omega) (by omega)).mono ?_
      rintro e w8 ⟨rfl, hb8⟩
      exact hK _ _ hb8 rfl
    refine steps_cons ?_ ?_
    · refine step_on rfl rfl ?_
      intro ev w5 hS hc hf hold hval a K ha hK
      have e0 : ev (.tmp 0) = .pointer (some ⟨ga, 0, none⟩) := hold 0 (by kernel_rfl)
      replace hS : (Grow) w w5 := ⟨hS.os, hS.tape, hS.output, hS.size, hS.block⟩
      go_simp
      exact hK _ _ ((Below.refl _ _)) rfl
    refine steps_cons ?_ ?_
    · refine step_on rfl rfl ?_
      intro ev w5 hS hc hf hold hval a K ha hK
      have e12 : ev (.tmp 12) = .pointer (some ⟨ga, 0, none⟩) := hval 2 12 (by kernel_rfl) rfl
      replace hS : (Grow) w w5 := ⟨hS.os, hS.tape, hS.output, hS.size, hS.block⟩
      go_simp
      exact hK _ _ ((Below.refl _ _)) rfl
    refine steps_cons ?_ ?_
    · refine step_on rfl rfl ?_
      intro ev w5 hS hc hf hold hval a K ha hK
      have e13 : ev (.tmp 13) = .pointer (some ⟨ga, 0, none⟩) := hval 3 13 (by kernel_rfl) rfl
      replace hS : (Grow) w w5 := ⟨hS.os, hS.tape, hS.output, hS.size, hS.block⟩
      go_simp
      exact hK _ _ ((Below.refl _ _)) rfl
    refine steps_cons ?_ ?_
    · refine step_on rfl rfl ?_
      intro ev w5 hS hc hf hold hval a K ha hK
      have e14 : ev (.tmp 14) = .pointer (some ⟨ga, 2, none⟩) := hval 4 14 (by kernel_rfl) rfl
      replace hS : (Grow) w w5 := ⟨hS.os, hS.tape, hS.output, hS.size, hS.block⟩
      have c15 : w5.cell? ⟨ga, 2, none⟩ = some (.int .i64 268435456) := ((Hb.out.below hS Hb.out.lt).cell 2).trans rfl
      go_simp
      exact hK _ _ ((Below.refl _ _)) rfl
    refine steps_cons ?_ ?_
    · refine step_on rfl rfl ?_
      intro ev w5 hS hc hf hold hval a K ha hK
      have e11 : ev (.tmp 11) = .int .i64 (N : Int) := hval 1 11 (by kernel_rfl) rfl
      have e15 : ev (.tmp 15) = .int .i64 268435456 := hval 5 15 (by kernel_rfl) rfl
      replace hS : (Grow) w w5 := ⟨hS.os, hS.tape, hS.output, hS.size, hS.block⟩
      have hne : ((N : Int) == 268435456) = false := by simp; omega
      go_simp
      exact hK _ _ (Below.refl _ _) (by first | rfl | simp [is] | (simp [is]; omega))
    refine steps_cons ?_ ?_
    · refine step_on rfl rfl ?_
      intro ev w5 hS hc hf hold hval a K ha hK
      have e16 : ev (.tmp 16) = .bool false := hval 6 16 (by kernel_rfl) rfl
      replace hS : (Grow) w w5 := ⟨hS.os, hS.tape, hS.output, hS.size, hS.block⟩
      go_simp
      exact hK _ _ ((Below.refl _ _)) rfl
    exact steps_nil
  · intro ev w6 hS hval
    replace hS : (Grow) w w6 := ⟨hS.os, hS.tape, hS.output, hS.size, hS.block⟩
    have e9 : ev (.tmp 9) = .bool false := hval 7 9 rfl
    simp only [putsOf, List.foldl_cons, List.foldl_nil, Act.put, List.setIfInBounds_toArray, List.set_cons_zero, List.set_cons_succ]
    rw [e9]
    clear hval
    have hb2 := Hb.out.below hS Hb.out.lt
    have hsz2 := Below.size hS
    have hown2 := own_below Hown.out hS
    have c1 : w6.cell? ⟨ga, 1, none⟩ = some (.slice Af 0 cf) := (hb2.cell 1).trans rfl
    have c0 : w6.cell? ⟨ga, 0, none⟩ = some (.slice A N c) := (hb2.cell 0).trans rfl
    have f0 := hb2.frozen 0
    have hga6 : ga < w6.heap.size := by omega
    have HS2 := Lib.hid hS
    have Hb2 := Lib.hid hb2
    have Hown2 := Lib.hid hown2
    clear hS hb2 hown2
    generalize w6 = W2 at Hb2 hsz2 c0 c1 f0 HS2 hga6 Hown2 ⊢
    have a0 := (World.cell?_alloc_lt W2 (Obj.cells #[.bool true] 4) ⟨ga, 0, none⟩ hga6).trans c0
    go_wp2_with (at_builtin; refine wpList_push _ rfl (.tmp 53) (.tmp 54) _ rfl B 4 i0 (.bool false) 1 1 Tryz.underlying106 hi0 hz0 hz1 hz2 rfl (by decide) (.slice A N c) N _ rfl Hown2.out rfl rfl (by simp [Value.oneCell']) (by unfold maxLen; omega) (by omega) (by omega) ?_; intro v5 w5 hown5 hg5 hs5 hat5; have hbk5 := Hb2.out.grown hg5 Hne.out; have Hown5 := Lib.hid hown5; have Hg5 := Lib.hid hg5; have Hat5 := Lib.hid hat5; have Hbk5 := Lib.hid hbk5; have d0 : w5.cell? ⟨ga, 0, none⟩ = some (.slice A N c) := (hbk5.cell 0).trans rfl; have g0 := hbk5.frozen 0; obtain ⟨A9, c9, rfl, hm9⟩ := made_of_own hown5; clear hown5 hg5 hat5 hbk5 hm9)
    go_ret2
    have hset := Keep.setCell (F := fun b => b = ga ∨ (Value.slice A N c).ownBlock = some b) (Keep.refl _ w5) (p := ⟨ga, 0, none⟩) (.inl (.inl rfl)) (.slice A9 (N + 1) c9)
    have hk2 : Keep (fun b => b = ga ∨ (Value.slice A N c).ownBlock = some b) w W2 := Keep.of_below HS2.out
    have hk5 := hk2.grown Hg5.out (fun k hk => .inl (.inr hk))
    refine ⟨rfl, hk5.trans' hset (fun b _ h => h), _, Hbk5.out.set 0 _, ?_, ?_⟩
    · have := own_same (w' := w5.setCell ⟨ga, 0, none⟩ (.slice A9 (N + 1) c9)) Hown5.out fun b cs _ hb' => hb'.far (Bk.ne hb' Hbk5.out (by decide)) _
      simpa using this
    · rcases Hat5.out with h | h
      · exact .inl h
      · exact .inr ⟨_, h, by have := HS2.out.size; omega⟩
set_option maxRecDepth 100000 in
set_option maxHeartbeats 1000000 in
theorem InsertEnd_any (B : Nat) (A : Option Addr) (n c : Nat) (xs : List Value) (Av : Option Addr) (cv k : Nat) (w : World) (hown : w.ownsRow B 3 1 (.slice A n c) n xs) (hr : Rd w w.heap.size 1 Av 1 [sv k]) (hB : B ≤ w.heap.size) (hn : n ≤ 1000000) :
    Calls Tryz.prog 49 #[.slice A n c, .int .i64 (n : Int), .slice Av 1 cv] w fun e w' => ∃ v, e = .returned v ∧ w'.ownsRow B 3 1 v (n + 1) (xs ++ [sv k]) ∧ w.grownBy w' (Value.slice A n c).ownBlock ∧ (v.ownBlock = (Value.slice A n c).ownBlock ∨ v.ownBlock = some w.heap.size) := by
  obtain ⟨i0, hi0, hz0, hz1, hz2⟩ := info_parts int_info
  have kc := run_cut_lo (P := Tryz.prog) 22 3 1 Tryz.underlying22 Tryz.sizeOf3 A n c n (Nat.le_refl _)
  have Hown := Lib.hid hown
  have Hr := Lib.hid hr
  clear hown hr
  go_enter Tryz.func49, Tryz.ntmps49
  go_wp2_with (at_builtin; refine wpList_append_rd _ rfl (.tmp 23) (.tmp 24) _ rfl B 3 i0 (.int .i64 0) 1 8 Tryz.underlying22 hi0 hz0 hz1 hz2 rfl (by decide) (.slice A n c) n _ rfl Hown.out w.heap.size Av 1 cv _ rfl Hr.out (by simp [Value.oneCell', sv]) (by unfold maxLen; omega) (by omega) hB ?_; intro v5 w5 hown5 hg5 hat5)
  go_ret
  exact ⟨v5, rfl, hown5, hg5, hat5⟩
end Go.Proofs.YthkkcelfgcholaaGreat
namespace Go.Proofs.YthkkcelfgcholaaGreat
open Go.RowKit
set_option linter.unusedVariables false
set_option linter.unusedSimpArgs false
theorem pair_info : (Tryz.prog.info? 71).map (fun i => (i.zero, i.size, i.bytes)) = some (some (.agg #[.int .i64 0, .int .i64 0]), 2, 16) := by kernel_rfl
/-- The blocks that Add may write. -/
def PF (gp ga : Nat) (vl vo vt : Value) (b : Nat) : Prop := b = gp ∨ b = ga ∨ vl.ownBlock = some b ∨ vo.ownBlock = some b ∨ vt.ownBlock = some b
theorem pairsL_snoc (C : List (Nat × Nat)) (x : Nat × Nat) : pairsL (C ++ [x]) = pairsL C ++ pairV x := by simp [pairsL]
theorem PermAt.below {w w' : World} {B gp ga : Nat} {vl vo vt vf : Value} {R P : Nat} {ks : List Nat} {C : List (Nat × Nat)} {tk : List Bool} {fr : List Nat} (h : PermAt w B gp ga vl vo vt vf R P ks C tk fr) (k : Below w.heap.size w w') : PermAt w' B gp ga vl vo vt vf R P ks C tk fr :=
  ⟨h.blk.below k h.blk.lt, own_below h.lrow k, own_below h.orow k, h.ar.below k h.ar.lt, own_below h.trow k, own_below h.frow k, h.apart, h.lt, h.lo⟩
/-- A row stays, if the blocks of its type do. -/
theorem own_keepT {F : Nat → Prop} {w w' : World} {B : Nat} {e : TypeId} {sz n : Nat} {v : Value} {xs : List Value} (h : w.ownsRow B e sz v n xs) (k : Keep F w w') (hf : ∀ b cs, F b → Bk w b e cs → False) : w'.ownsRow B e sz v n xs :=
  own_same h fun b cs _ hb => k.bk hb (fun f => hf b cs f hb)
/-- The last pair of a row is written. -/
theorem own_pair {w : World} {B g cap : Nat} {C : List (Nat × Nat)} {y : Nat × Nat} (h : w.ownsRow B 71 2 (.slice (some ⟨g, 0, none⟩) (C.length + 1) cap) (C.length + 1) (pairsL (C ++ [y]))) (x : Nat × Nat) :
    ((w.setCell ⟨g, C.length * 2, none⟩ (.int .i64 (x.1 : Int))).setCell ⟨g, C.length * 2 + 1, none⟩ (.int .i64 (x.2 : Int))).ownsRow B 71 2 (.slice (some ⟨g, 0, none⟩) (C.length + 1) cap) (C.length + 1) (pairsL (C ++ [x])) := by
  rcases h.2 with ⟨h1, _⟩ | ⟨g', cap', cur, h1, h2, h3, h4, h5, h6, h7⟩
  · cases h1
  · injection h1 with h8 h9 h10
    injection h8 with h8
    injection h8 with h8 _
    subst h8 h10
    have hb : Bk w g 71 cur := h3
    have hb2 := (hb.set (C.length * 2) (.int .i64 (x.1 : Int))).set (C.length * 2 + 1) (.int .i64 (x.2 : Int))
    refine ⟨by rw [pairsL_len]; simp, .inr ⟨g, cap, _, rfl, h2, hb2, h4, h5, by simpa using h6, ?_⟩⟩
    rw [pairsL_snoc] at h7 ⊢
    have hl := pairsL_len C
    apply List.ext_getElem?
    intro i
    have hi := congrArg (fun l => l[i]?) h7
    simp only [List.getElem?_take, Array.getElem?_toList] at hi
    rw [List.getElem?_take, Array.getElem?_toList, Array.getElem?_setIfInBounds, Array.getElem?_setIfInBounds]
    by_cases c1 : i < C.length * 2
    · rw [if_pos (by omega)] at hi ⊢
      rw [if_neg (by omega), if_neg (by omega), hi, List.getElem?_append_left (by omega), List.getElem?_append_left (by omega)]
    · by_cases c2 : i = C.length * 2
      · subst c2
        rw [if_pos (by omega), if_neg (by omega), if_pos rfl, if_pos (by omega), List.getElem?_append_right (by omega), hl, Nat.sub_self]
        rfl
      · by_cases c3 : i = C.length * 2 + 1
        · subst c3
          rw [if_pos (by omega), if_pos rfl, if_pos (by simp; omega), List.getElem?_append_right (by omega), hl, show C.length * 2 + 1 - C.length * 2 = 1 by omega]
          rfl
        · rw [if_neg (by omega), List.getElem?_eq_none (by simp [pairV]; omega)]
set_option maxRecDepth 100000 in
set_option maxHeartbeats 4000000 in
theorem PermAdd_any (B gp ga : Nat) (vl vo vt : Value) (R P : Nat) (ks : List Nat) (C : List (Nat × Nat)) (tk : List Bool) (row pos : Nat) (w : World) (h : PermAt w B gp ga vl vo vt (.slice none 0 0) R P ks C tk []) (hs : ks.Pairwise (fun a b => rowK C a < rowK C b))
    (hr : ∀ k ∈ ks, rowK C k < row) (hp : ∀ k ∈ ks, posK C k ≠ pos) (hR : row < R) (hP : pos < P) (ht : tk.length = C.length) (hC : C.length ≤ 900000) (hk : ks.length ≤ 900000) (hB : B ≤ w.heap.size) :
    Calls Tryz.prog 17 #[.pointer (some ⟨gp, 0, none⟩), .int .i64 (row : Int), .int .i64 (pos : Int)] w fun e w' => e = .returned (.int .i64 0) ∧ Keep (PF gp ga vl vo vt) w w' ∧ ∃ vl' vo' vt', PermAt w' B gp ga vl' vo' vt' (.slice none 0 0) R P (ks ++ [C.length]) (C ++ [(row, pos)]) (tk ++ [true]) [] ∧ (vo'.ownBlock = vo.ownBlock ∨ ∃ g, vo'.ownBlock = some g ∧ w.heap.size ≤ g) ∧ (vl'.ownBlock = vl.ownBlock ∨ ∃ g, vl'.ownBlock = some g ∧ w.heap.size ≤ g) ∧ (vt'.ownBlock = vt.ownBlock ∨ ∃ g, vt'.ownBlock = some g ∧ w.heap.size ≤ g) := by
  obtain ⟨i0, hi0, hz0, hz1, hz2⟩ := info_parts pair_info
  have hcnt : ks.countP (fun k => decide (rowK C k < row)) = ks.length := List.countP_eq_length.2 fun k hk => by simpa using hr k hk
  have hfnd : decide (∃ k ∈ ks, rowK C k = row) = false := by
    rw [decide_eq_false_iff_not]
    rintro ⟨k, hk, e⟩
    have := hr k hk
    omega
  have hhas : firstI (fun k => decide (posK C k = pos)) ks 0 = -1 := firstI_none (fun k hk => by simpa using hp k hk) 0
  have c3 : w.cell? ⟨gp, 3, none⟩ = some (.int .i64 (R : Int)) := (h.blk.cell 3).trans rfl
  have c4 : w.cell? ⟨gp, 4, none⟩ = some (.int .i64 (P : Int)) := (h.blk.cell 4).trans rfl
  have hat := PermAt_any B gp ga vl vo vt (.slice none 0 0) R P ks C tk [] row w h hs (by omega)
  rw [hcnt, hfnd] at hat
  have hhs := fun W hW => PermHas_any B gp ga vl vo vt (.slice none 0 0) R P ks C tk [] pos W hW (by omega)
  simp only [hhas] at hhs
  obtain ⟨n, hn⟩ : ∃ n, ks.length = n := ⟨_, rfl⟩
  obtain ⟨N, hN⟩ : ∃ n, C.length = n := ⟨_, rfl⟩
  rw [hn] at hat
  have Hhs := Lib.hid hhs
  have H := Lib.hid h
  have Hn := Lib.hid hn
  have HN := Lib.hid hN
  have Ht := Lib.hid ht
  have hN9 : N ≤ 900000 := by omega
  have hn9 : n ≤ 900000 := by omega
  have HB := Lib.hid hB
  clear hcnt hfnd hhas hhs hs hr hp h hn hN ht hC hk hB
  go_enter Tryz.func17, Tryz.ntmps17
  go_wp2_with fail
  refine hat.mono ?_
  clear hat
  rintro e w1 ⟨rfl, hb1⟩
  have h1 := H.out.below hb1
  have H1 := Lib.hid h1
  have Hb1 := Lib.hid hb1
  clear h1 hb1 c3 c4
  go_wp2_with fail
  refine (Hhs.out w1 H1.out).mono ?_
  rintro e w2 ⟨rfl, hb2⟩
  have h2 := H1.out.below hb2
  have hb12 := Hb1.out.trans (hb2.mono Hb1.out.size)
  have c0 : w2.cell? ⟨gp, 0, none⟩ = some (.pointer (some ⟨ga, 0, none⟩)) := (h2.blk.cell 0).trans rfl
  have H2 := Lib.hid h2
  have Hb2 := Lib.hid hb12
  clear h2 hb12 hb2 H1 Hb1 Hhs
  go_wp2_with fail
  obtain ⟨At, ct, hvt, _⟩ := own_shape H2.out.trow
  have htk : tk.length = N := by rw [Ht.out, HN.out]
  have hT := TakeMore_any B ga At ct none 0 N tk w2 (by have := H2.out.ar; rw [hvt, htk] at this; exact this) (by have := H2.out.trow; rw [hvt, htk] at this; exact this) (by have := HB.out; have := Hb2.out.size; omega) (by omega)
  have hvt' : vt = .slice At N ct := by rw [hvt, htk]
  rw [← hvt'] at hT
  refine hT.mono ?_
  clear hT hvt hvt' htk
  rintro e w3 ⟨rfl, hk3, vt', hbk3, hown3, hfr3⟩
  have hgp3 := hk3.bk H2.out.blk (fun f => by
    rcases f with f | f
    · exact Bk.ne H2.out.blk H2.out.ar (by decide) f
    · exact own_bk_ne H2.out.trow H2.out.blk (by decide) f.symm)
  have hvl3 := own_keepT H2.out.lrow hk3 (fun b cs f hb => by
    rcases f with f | f
    · subst f; exact Bk.ne hb H2.out.ar (by decide) rfl
    · exact own_bk_ne H2.out.trow hb (by decide) f.symm)
  have hvo3 := own_keepT H2.out.orow hk3 (fun b cs f hb => by
    rcases f with f | f
    · subst f; exact Bk.ne hb H2.out.ar (by decide) rfl
    · exact own_bk_ne H2.out.trow hb (by decide) f.symm)
  obtain ⟨Al, cl, hvl, _⟩ := own_shape hvl3
  have hvl' : vl = .slice Al N cl := by rw [hvl, HN.out]
  have d1 : w3.cell? ⟨gp, 1, none⟩ = some vl := (hgp3.cell 1).trans rfl
  have fp := hgp3.frozen 1
  rw [hvl'] at d1
  have hgp3l := hgp3.lt
  rw [HN.out] at hvl3
  have hB3 : B ≤ w3.heap.size := by have := hk3.size; have := HB.out; have := Hb2.out.size; omega
  have Hk3 := Lib.hid hk3
  have Hbk3 := Lib.hid hbk3
  have Hown3 := Lib.hid hown3
  have Hfr3 := Lib.hid hfr3
  have Hgp3 := Lib.hid hgp3
  have Hvl3 := Lib.hid hvl3
  have Hvo3 := Lib.hid hvo3
  have Hvl := Lib.hid hvl'
  have e1 := (World.cell?_alloc_lt w3 (Obj.cells #[.int .i64 0, .int .i64 0] 71) ⟨gp, 1, none⟩ hgp3l).trans d1
  clear hk3 hbk3 hown3 hfr3 hgp3 hvl3 hvo3 hvl hvl' c0
  go_wp2_with fail
  refine wp_loop_rounds 2 ?_
  rw [rounds_succ]
  go_wp2_with (at_builtin; refine wpList_push _ rfl (.tmp 72) (.tmp 74) _ rfl B 71 i0 (.agg #[.int .i64 0, .int .i64 0]) 2 16 Tryz.underlying65 hi0 hz0 hz1 hz2 rfl (by decide) vl N _ Hvl.out.symm Hvl3.out rfl rfl (by simp [Value.oneCell']) (by unfold maxLen; omega) (by omega) hB3 ?_; intro v5 w5 hown5 hg5 hs5 hat5; have hbk5 := Hgp3.out.grown hg5 (own_bk_ne Hvl3.out Hgp3.out (by decide)); have d5 : w5.cell? ⟨gp, 1, none⟩ = some vl := (hbk5.cell 1).trans rfl; have f5 := hbk5.frozen 1; rw [Hvl.out] at d5; obtain ⟨A9, c9, rfl, hm9⟩ := made_of_own hown5; have Hbk5 := Lib.hid hbk5; have Hown5 := Lib.hid hown5; have Hg5 := Lib.hid hg5; have Hat5 := Lib.hid hat5; clear hm9 hown5 hg5 hat5 hbk5)
  obtain ⟨g9, cur9, rfl, hg9, hb9, hcz9⟩ : ∃ g9, ∃ cur : Array Value, A9 = some ⟨g9, 0, none⟩ ∧ B ≤ g9 ∧ Bk w5 g9 71 cur ∧ N * 2 + 1 < cur.size := by
    rcases Hown5.out.2 with ⟨h1, h2⟩ | ⟨g, cap, cur, h1, h2, h3, h4, h5, h6, h7⟩
    · omega
    · injection h1 with h1 _ _
      exact ⟨g, cur, h1, h2, h3, by omega⟩
  have hgpn : gp ≠ g9 := Bk.ne Hbk5.out hb9 (by decide)
  have hgp6 := Hbk5.out.set 1 (.slice (some ⟨g9, 0, none⟩) (N + 1) c9)
  have hb96 := hb9.far (p := ⟨gp, 1, none⟩) (fun e => hgpn e.symm) (.slice (some ⟨g9, 0, none⟩) (N + 1) c9)
  have hk6 : Keep (PF gp ga vl vo vt) w2 (w5.setCell ⟨gp, 1, none⟩ (.slice (some ⟨g9, 0, none⟩) (N + 1) c9)) :=
    ((Hk3.out.mono (G := PF gp ga vl vo vt) (fun b _ f => by rcases f with f | f; exact .inr (.inl f); exact .inr (.inr (.inr (.inr f))))).grown Hg5.out (fun k hk => .inl (.inr (.inr (.inl hk))))).setCell (.inl (.inl rfl)) _
  have hvl6 := own_same (w' := w5.setCell ⟨gp, 1, none⟩ (.slice (some ⟨g9, 0, none⟩) (N + 1) c9)) Hown5.out fun b cs _ hb => hb.far (p := ⟨gp, 1, none⟩) (Bk.ne hb Hbk5.out (by decide)) _
  have hvo5 := own_same (w' := w5) Hvo3.out fun b cs _ hb => hb.grown Hg5.out (own_bk_ne Hvl3.out hb (by decide))
  have hvo6 := own_same (w' := w5.setCell ⟨gp, 1, none⟩ (.slice (some ⟨g9, 0, none⟩) (N + 1) c9)) hvo5 fun b cs _ hb => hb.far (p := ⟨gp, 1, none⟩) (Bk.ne hb Hbk5.out (by decide)) _
  have hga5 := Hbk3.out.grown Hg5.out (own_bk_ne Hvl3.out Hbk3.out (by decide))
  have hga6 := hga5.far (p := ⟨gp, 1, none⟩) (Bk.ne hga5 Hbk5.out (by decide)) (.slice (some ⟨g9, 0, none⟩) (N + 1) c9)
  have hvt5 := own_same (w' := w5) Hown3.out fun b cs _ hb => hb.grown Hg5.out (own_bk_ne Hvl3.out hb (by decide))
  have hvt6 := own_same (w' := w5.setCell ⟨gp, 1, none⟩ (.slice (some ⟨g9, 0, none⟩) (N + 1) c9)) hvt5 fun b cs _ hb => hb.far (p := ⟨gp, 1, none⟩) (Bk.ne hb Hbk5.out (by decide)) _
  have hfr6 : (Value.slice (some ⟨g9, 0, none⟩) (N + 1) c9).ownBlock = vl.ownBlock ∨ ∃ g, (Value.slice (some ⟨g9, 0, none⟩) (N + 1) c9).ownBlock = some g ∧ w2.heap.size ≤ g := by
    rcases Hat5.out with f | f
    · exact .inl f
    · exact .inr ⟨_, f, by have := Hk3.out.size; omega⟩
  clear Hk3 Hbk3 Hown3 Hgp3 Hvl3 Hvo3 Hbk5 Hown5 Hg5 Hat5 d1 fp e1 f5 d5 hvo5 hga5 hvt5
  generalize w5.setCell ⟨gp, 1, none⟩ (.slice (some ⟨g9, 0, none⟩) (N + 1) c9) = w6 at hgp6 hb96 hk6 hvl6 hvo6 hga6 hvt6 ⊢
  have d1 : w6.cell? ⟨gp, 1, none⟩ = some (.slice (some ⟨g9, 0, none⟩) (N + 1) c9) := (hgp6.cell 1).trans rfl
  have x0 := hb96.cell (N * 2)
  have x1 := hb96.cell (N * 2 + 1)
  rw [Array.getElem?_eq_getElem (by omega)] at x0 x1
  have y0 := hb96.frozen (N * 2)
  have y1 := hb96.frozen (N * 2 + 1)
  generalize cur9[N * 2]'(by omega) = u0 at x0
  generalize cur9[N * 2 + 1]'(by omega) = u1 at x1
  have Hgp6 := Lib.hid hgp6
  have Hb96 := Lib.hid hb96
  have Hk6 := Lib.hid hk6
  have Hvl6 := Lib.hid hvl6
  have Hvo6 := Lib.hid hvo6
  have Hga6 := Lib.hid hga6
  have Hvt6 := Lib.hid hvt6
  have Hfr6 := Lib.hid hfr6
  have hlt1 : decide (N + 1 ≤ N) = false := by simp
  have hlt2 : decide ((N : Int) + 1 ≤ (N : Int)) = false := by simp; omega
  have d2 : w6.cell? ⟨gp, 2, none⟩ = some vo := (hgp6.cell 2).trans rfl
  obtain ⟨Ao, co, hvo, _⟩ := own_shape hvo6
  have hvo' : vo = .slice Ao n co := by rw [hvo, Hn.out]
  have Hvo := Lib.hid hvo'
  rw [hvo'] at d2
  clear hgp6 hb96 hk6 hvl6 hvo6 hga6 hvt6 hfr6 hvo hvo' hb9 hcz9
  rw [rounds_succ]
  go_wp2_with fail
  have hvl7 := own_pair (C := C) (y := (0, 0)) (g := g9) (cap := c9) (w := w6) (B := B) (by
    rw [HN.out, pairsL_snoc]
    exact Hvl6.out) (row, pos)
  rw [HN.out] at hvl7
  have hkk : Keep (fun b => b = g9) w6 ((w6.setCell ⟨g9, N * 2, none⟩ (.int .i64 (row : Int))).setCell ⟨g9, N * 2 + 1, none⟩ (.int .i64 (pos : Int))) := ((Keep.refl (fun b => b = g9) w6).setCell (p := ⟨g9, N * 2, none⟩) (.inl rfl) _).setCell (p := ⟨g9, N * 2 + 1, none⟩) (.inl rfl) _
  have hsz7 : ((w6.setCell ⟨g9, N * 2, none⟩ (.int .i64 (row : Int))).setCell ⟨g9, N * 2 + 1, none⟩ (.int .i64 (pos : Int))).heap.size = w6.heap.size := by simp [World.setCell]
  rw [← hsz7]
  clear x0 x1 y0 y1 d1 d2 hlt1 hlt2
  generalize (w6.setCell ⟨g9, N * 2, none⟩ (.int .i64 (row : Int))).setCell ⟨g9, N * 2 + 1, none⟩ (.int .i64 (pos : Int)) = w7 at hvl7 hkk hsz7 ⊢
  have hgp7 := hkk.bk Hgp6.out (fun f => hgpn f)
  have hga7 := hkk.bk Hga6.out (fun f => by subst f; exact Bk.ne Hga6.out Hb96.out (by decide) rfl)
  have hvo7 := own_keepT Hvo6.out hkk (fun b cs f hb => by subst f; exact Bk.ne hb Hb96.out (by decide) rfl)
  have hvt7 := own_keepT Hvt6.out hkk (fun b cs f hb => by subst f; exact Bk.ne hb Hb96.out (by decide) rfl)
  have hB2 : B ≤ w2.heap.size := by have := HB.out; have := Hb2.out.size; omega
  have hB6 := Hk6.out.size
  have hB7 : B ≤ (w7.alloc (.cells #[.int .i64 (N : Int)] 3)).heap.size := by simp; omega
  have hz8 : w7.heap.size < (w7.alloc (.cells #[.int .i64 (N : Int)] 3)).heap.size := by simp
  have hrd8 : Rd (w7.alloc (.cells #[.int .i64 (N : Int)] 3)) (w7.alloc (.cells #[.int .i64 (N : Int)] 3)).heap.size 1 (some ⟨w7.heap.size, 0, none⟩) 1 [sv N] := (Rd.new_ w7 3 1 #[.int .i64 (N : Int)] rfl).mono (by simp)
  have hvo8 := hvo7.alloc (.cells #[.int .i64 (N : Int)] 3)
  have hvl8 := hvl7.alloc (.cells #[.int .i64 (N : Int)] 3)
  have hvt8 := hvt7.alloc (.cells #[.int .i64 (N : Int)] 3)
  have hgp8 := hgp7.alloc (.cells #[.int .i64 (N : Int)] 3)
  have hga8 := hga7.alloc (.cells #[.int .i64 (N : Int)] 3)
  have hb78 : Below w7.heap.size w7 (w7.alloc (.cells #[.int .i64 (N : Int)] 3)) := (Below.refl _ _).alloc (Nat.le_refl _) _
  obtain ⟨g7, hg7⟩ : ∃ g, w7.heap.size = g := ⟨_, rfl⟩
  rw [hg7] at hrd8 hz8
  rw [hg7]
  generalize w7.alloc (.cells #[.int .i64 (N : Int)] 3) = w8 at hB7 hrd8 hvo8 hvl8 hvt8 hgp8 hga8 hb78 hz8 ⊢
  have hk8 : Keep (PF gp ga vl vo vt) w2 w8 := (Hk6.out.trans' (hkk.trans' (Keep.of_below hb78) (fun _ _ f => f)) (fun b hb f => by
    rcases Hfr6.out with h | ⟨g, h, h'⟩
    · exact .inr (.inr (.inl (by rw [← h, f]; rfl)))
    · exfalso
      have : g9 = g := by simpa [Value.ownBlock] using h
      omega))
  rw [Hn.out, Hvo.out] at hvo8
  have hins := InsertEnd_any B Ao n co (ks.map sv) (some ⟨g7, 0, none⟩) 1 N w8 hvo8 hrd8 hB7 (by omega)
  refine hins.mono ?_
  clear hins
  rintro e w9 ⟨v9, rfl, hown9, hg9', hat9⟩
  rw [← Hvo.out] at hg9' hat9 hvo8
  have hgp9 := hgp8.grown hg9' (own_bk_ne hvo8 hgp8 (by decide))
  have hga9 := hga8.grown hg9' (own_bk_ne hvo8 hga8 (by decide))
  have hvl9 := own_same (w' := w9) hvl8 fun b cs _ hb => hb.grown hg9' (own_bk_ne hvo8 hb (by decide))
  have hvt9 := own_same (w' := w9) hvt8 fun b cs _ hb => hb.grown hg9' (own_bk_ne hvo8 hb (by decide))
  have hk9 := hk8.grown hg9' (fun k hk => .inl (.inr (.inr (.inr (.inl hk)))))
  have hfr9 : v9.ownBlock = vo.ownBlock ∨ ∃ g, v9.ownBlock = some g ∧ w2.heap.size ≤ g := by
    rcases hat9 with f | f
    · exact .inl f
    · exact .inr ⟨_, f, hk8.size⟩
  have d2 : w9.cell? ⟨gp, 2, none⟩ = some vo := (hgp9.cell 2).trans rfl
  rw [Hvo.out] at d2
  have f2 := hgp9.frozen 2
  obtain ⟨A', c', hv9, _⟩ := own_shape hown9
  have Hv9 := Lib.hid hv9
  have Hgp9 := Lib.hid hgp9
  have Hga9 := Lib.hid hga9
  have Hvl9 := Lib.hid hvl9
  have Hvt9 := Lib.hid hvt9
  have Hown9 := Lib.hid hown9
  have Hk9 := Lib.hid hk9
  have Hfr9 := Lib.hid hfr9
  clear hvl7 hkk hsz7 hgp7 hga7 hvo7 hvt7 hB7 hz8 hrd8 hvo8 hvl8 hvt8 hgp8 hga8 hb78 hg7 hk8 hg9' hat9 hgp9 hga9 hvl9 hvt9 hown9 hk9 hfr9
  subst hv9
  go_wp2_with fail
  go_ret
  have hne : ∀ b t cs, Bk w9 b t cs → t ≠ 69 → Bk (w9.setCell ⟨gp, 2, none⟩ (.slice A' (n + 1) c')) b t cs := fun b t cs hb ht => hb.far (p := ⟨gp, 2, none⟩) (Bk.ne hb Hgp9.out ht) _
  refine ⟨rfl, (Keep.of_below Hb2.out).trans' (Hk9.out.setCell (.inl (.inl rfl)) _) (fun _ _ f => f), .slice (some ⟨g9, 0, none⟩) (N + 1) c9, .slice A' (n + 1) c', vt', ⟨Hgp9.out.set 2 _, ?_, ?_, hne _ _ _ Hga9.out (by decide), ?_, ?_, ?_, ?_, H.out.lo⟩, ?_, ?_, ?_⟩
  · have := own_same (w' := w9.setCell ⟨gp, 2, none⟩ (.slice A' (n + 1) c')) Hvl9.out fun b cs _ hb => hne _ _ _ hb (by decide)
    simpa [HN.out] using this
  · have := own_same (w' := w9.setCell ⟨gp, 2, none⟩ (.slice A' (n + 1) c')) Hown9.out fun b cs _ hb => hne _ _ _ hb (by decide)
    simpa [Hn.out, HN.out] using this
  · have := own_same (w' := w9.setCell ⟨gp, 2, none⟩ (.slice A' (n + 1) c')) Hvt9.out fun b cs _ hb => hne _ _ _ hb (by decide)
    simpa [Ht.out, HN.out] using this
  · exact World.ownsRow_nil _ _ _ _
  · rcases (Value.slice A' (n + 1) c').ownBlock with _ | g
    · exact .inl rfl
    · exact .inr (by simp [Value.ownBlock])
  · intro k hk
    rcases List.mem_append.1 hk with h | h
    · have := H.out.lt k h
      simp
      omega
    · simp at h
      simp
      omega
  · rcases Hfr9.out with f | ⟨g, f, f'⟩
    · exact .inl f
    · exact .inr ⟨g, f, by have := Hb2.out.size; omega⟩
  · rcases Hfr6.out with f | ⟨g, f, f'⟩
    · exact .inl f
    · exact .inr ⟨g, f, by have := Hb2.out.size; omega⟩
  · rcases Hfr3.out with f | ⟨g, f, f'⟩
    · exact .inl f
    · exact .inr ⟨g, f, by have := Hb2.out.size; omega⟩
end Go.Proofs.YthkkcelfgcholaaGreat
