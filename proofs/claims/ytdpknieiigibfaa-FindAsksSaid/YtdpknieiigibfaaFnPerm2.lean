/- The walks of perm's at and has. Conditions: the pairs are sorted by their rows (PermAt says how a Perm lies in memory). -/
import Derived.Test.YtdpknieiigibfaaFnPerm1
import Derived.Shelf.SlCmpFuncs.None
namespace Go.Proofs.Ytdpknieiigibfaa
open Go.RowKit Go.Shelf
open Go.Sort (Holds)
set_option linter.unusedVariables false
set_option linter.unusedSimpArgs false
/-- How a Perm lies in memory: its order ks, its pairs C by numbers, which numbers are taken (tk), which are free (fr). -/
structure PermAt (w : World) (B gp ga : Nat) (vl vo vt vf : Value) (R P : Nat) (ks : List Nat) (C : List (Nat × Nat)) (tk : List Bool) (fr : List Nat) : Prop where
  blk : Bk w gp 65 #[.pointer (some ⟨ga, 0, none⟩), vl, vo, .int .i64 (R : Int), .int .i64 (P : Int)]
  lrow : w.ownsRow B 67 2 vl C.length (pairsL C)
  orow : w.ownsRow B 3 1 vo ks.length (ks.map sv)
  ar : Bk w ga 88 #[vt, vf, .int .i64 268435456]
  trow : w.ownsRow B 4 1 vt tk.length (tk.map Value.bool)
  frow : w.ownsRow B 3 1 vf fr.length (fr.map sv)
  apart : vo.ownBlock = none ∨ vo.ownBlock ≠ vf.ownBlock
  lt : ∀ k ∈ ks, k < C.length
  lo : B ≤ gp ∧ B ≤ ga
theorem cnt_lt {l : List Nat} {f : Nat → Nat} (h : l.Pairwise (fun a b => f a < f b)) (r : Nat) : ∀ (j x : Nat), l[j]? = some x → (f x < r ↔ j < l.countP fun k => decide (f k < r)) := by
  induction l with
  | nil => intro j x h; cases h
  | cons y l ih =>
    obtain ⟨h1, h2⟩ := List.pairwise_cons.1 h
    intro j x hj
    rw [List.countP_cons]
    by_cases hy : f y < r
    · rcases j with _ | j
      · simp at hj
        subst hj
        simp [hy]
      · have := ih h2 j x (by simpa using hj)
        simp only [hy, decide_true, if_true]
        omega
    · have h0 : (l.countP fun k => decide (f k < r)) = 0 := by
        rw [List.countP_eq_zero]
        intro a ha
        have := h1 a ha
        simp
        omega
      rcases j with _ | j
      · simp at hj
        subst hj
        simp [hy, h0]
      · have hx := h1 x (List.mem_of_getElem? (by simpa using hj))
        simp only [h0, hy, decide_false]
        simp
        omega
theorem cnt_found {l : List Nat} {f : Nat → Nat} (h : l.Pairwise (fun a b => f a < f b)) (r : Nat) : (∃ x, l[l.countP fun k => decide (f k < r)]? = some x ∧ f x = r) ↔ ∃ k ∈ l, f k = r := by
  constructor
  · rintro ⟨x, h1, h2⟩
    exact ⟨x, List.mem_of_getElem? h1, h2⟩
  · rintro ⟨k, hk, rfl⟩
    obtain ⟨j, hj, rfl⟩ := List.getElem_of_mem hk
    have e1 := List.getElem?_eq_getElem hj
    have h1 := cnt_lt h (f l[j]) j _ e1
    have hle : ¬ j < l.countP fun k => decide (f k < f l[j]) := fun e => by have := h1.2 e; omega
    rcases Nat.lt_or_ge (l.countP fun k => decide (f k < f l[j])) j with h2 | h2
    · have hlt : (l.countP fun k => decide (f k < f l[j])) < l.length := by omega
      have e2 := List.getElem?_eq_getElem hlt
      have h3 := cnt_lt h (f l[j]) _ _ e2
      have h4 : ¬ f l[l.countP fun k => decide (f k < f l[j])] < f l[j] := fun e => by have := h3.1 e; omega
      have h5 := List.pairwise_iff_getElem.1 h _ _ hlt hj h2
      omega
    · have e : (l.countP fun k => decide (f k < f l[j])) = j := by omega
      rw [e]
      exact ⟨_, e1, rfl⟩
/-- The order's numbers as the shelf takes them. -/
def ordA (c : Nat) (ks : List Nat) : Array (Fin (c + 1)) := (ks.map fun k => (⟨k % (c + 1), Nat.mod_lt _ (Nat.succ_pos c)⟩ : Fin (c + 1))).toArray
theorem ordA_get {c : Nat} {ks : List Nat} (h : ∀ k ∈ ks, k < c + 1) {j k : Nat} (hj : ks[j]? = some k) : ((ordA c ks)[j]!).val = k := by
  have hl : j < ks.length := (List.getElem?_eq_some_iff.1 hj).1
  have hk := h k (List.mem_of_getElem? hj)
  have e : ks[j] = k := by rw [List.getElem?_eq_getElem hl] at hj; injection hj
  rw [getB _ _ (by simpa [ordA] using hl)]
  simp [ordA, e, Nat.mod_eq_of_lt hk]
theorem ordA_count {c : Nat} {ks : List Nat} (h : ∀ k ∈ ks, k < c + 1) (p : Nat → Bool) : (ordA c ks).toList.countP (fun x => p x.val) = ks.countP p := by
  unfold ordA
  rw [List.countP_map]
  refine List.countP_congr fun k hk => ?_
  simp [Nat.mod_eq_of_lt (h k hk)]
theorem ordA_holds {w : World} {c g : Nat} {ks : List Nat} {cs : Array Value} (hb : Bk w g 3 cs) (h : ∀ k ∈ ks, k < c + 1) (ht : cs.toList.take ks.length = ks.map sv) : Holds (encF c) w g 0 (ordA c ks) := by
  intro j hj
  have hl : j < ks.length := by simpa [ordA] using hj
  rw [Nat.zero_add]
  refine ⟨?_, hb.frozen j⟩
  have e : (cs.toList.take ks.length)[j]? = (ks.map sv)[j]? := by rw [ht]
  rw [List.getElem?_take, if_pos hl, List.getElem?_map, List.getElem?_eq_getElem hl, Array.getElem?_toList] at e
  rw [hb.cell, e]
  have := ordA_get h (List.getElem?_eq_getElem hl)
  simp [encF, this, sv]
theorem sw_below {w w' : World} {c g : Nat} {d : Array (Fin (c + 1))} (hH : Holds (encF c) w g 0 d) (h : SW (encF c) w g 0 d w') : Below w.heap.size w w' := by
  obtain ⟨n, os, rfl⟩ := h
  unfold sortWorld
  have e : Go.Sort.putRow (encF c) (Go.Sort.ahead w n) g 0 d = Go.Sort.ahead w n := Go.Sort.putRow_self (encF c) _ g 0 d hH
  rw [e]
  exact ⟨rfl, rfl, rfl, by show w.heap.size ≤ (w.heap ++ os).size; simp, fun k hk => Go.Sort.heap_grow_old _ _ hk⟩
theorem cmp_neg (x y : Int) : Lib.compareInt x y < 0 ↔ x < y := by
  unfold Lib.compareInt
  split
  · simp [*]
  · split <;> simp [*]
theorem cmp_zero (x y : Int) : Lib.compareInt x y = 0 ↔ x = y := by
  unfold Lib.compareInt
  split
  · simp; omega
  · split
    · simp; omega
    · simp; omega
section
variable {w : World} {B gp ga : Nat} {vl vo vt vf : Value} {R P : Nat} {ks : List Nat} {C : List (Nat × Nat)} {tk : List Bool} {fr : List Nat}
theorem PermAt.prd (h : PermAt w B gp ga vl vo vt vf R P ks C tk fr) {gb : Nat} {w' : World} (hb : w'.cell? ⟨gb, 0, none⟩ = some (.pointer (some ⟨gp, 0, none⟩))) (k : Below w.heap.size w w') : ∃ A n c, vl = .slice A n c ∧ PRd w' gb gp A n c C := by
  obtain ⟨A, c, e, _⟩ := own_shape h.lrow
  refine ⟨A, C.length, c, e, hb, ?_, ?_⟩
  · have := (h.blk.below k h.blk.lt).cell 1
    rw [e] at this
    exact this
  · have h1 := own_below h.lrow k
    rw [e] at h1
    exact Rd.of_own h1
end
theorem at_fin {ks : List Nat} {C : List (Nat × Nat)} {c row : Nat} (hc : C.length = c + 1) (hlt : ∀ k ∈ ks, k < C.length) (hs : ks.Pairwise (fun a b => rowK C a < rowK C b)) :
    ((ordA c ks).toList.countP (fun x => decide (Lib.compareInt (rowK C x.val : Nat) row < 0))) = ks.countP (fun k => decide (rowK C k < row)) ∧
    (decide (((ordA c ks).toList.countP (fun x => decide (Lib.compareInt (rowK C x.val : Nat) row < 0))) < (ordA c ks).size) && decide (Lib.compareInt (rowK C ((ordA c ks)[((ordA c ks).toList.countP (fun x => decide (Lib.compareInt (rowK C x.val : Nat) row < 0)))]!).val : Nat) row = 0)) = decide (∃ k ∈ ks, rowK C k = row) := by
  have hlt' : ∀ k ∈ ks, k < c + 1 := fun k hk => by rw [← hc]; exact hlt k hk
  have e1 : (ordA c ks).toList.countP (fun x => decide (Lib.compareInt (rowK C x.val : Nat) row < 0)) = ks.countP (fun k => decide (rowK C k < row)) := by
    rw [← ordA_count hlt' (fun k => decide (rowK C k < row))]
    congr 1
    funext x
    rw [decide_eq_decide, cmp_neg]
    omega
  refine ⟨e1, ?_⟩
  rw [e1, Bool.eq_iff_iff]
  simp only [Bool.and_eq_true, decide_eq_true_eq, cmp_zero]
  rw [← cnt_found (f := rowK C) hs row]
  constructor
  · rintro ⟨h1, h2⟩
    have hl : (ks.countP fun k => decide (rowK C k < row)) < ks.length := by simpa [ordA] using h1
    refine ⟨_, List.getElem?_eq_getElem hl, ?_⟩
    rw [ordA_get hlt' (List.getElem?_eq_getElem hl)] at h2
    omega
  · rintro ⟨x, h1, h2⟩
    have hl := (List.getElem?_eq_some_iff.1 h1).1
    refine ⟨by simpa [ordA] using hl, ?_⟩
    rw [ordA_get hlt' h1]
    omega
set_option maxRecDepth 100000 in
set_option maxHeartbeats 1000000 in
theorem PermAt_any (B gp ga : Nat) (vl vo vt vf : Value) (R P : Nat) (ks : List Nat) (C : List (Nat × Nat)) (tk : List Bool) (fr : List Nat) (row : Nat) (w : World) (h : PermAt w B gp ga vl vo vt vf R P ks C tk fr) (hs : ks.Pairwise (fun a b => rowK C a < rowK C b)) (hk : ks.length ≤ 1099511627776) :
    Calls Try.prog 36 #[.pointer (some ⟨gp, 0, none⟩), .int .i64 (row : Int)] w fun e w' => e = .returned (.tuple #[.int .i64 ((ks.countP (fun k => decide (rowK C k < row)) : Nat) : Int), .bool (decide (∃ k ∈ ks, rowK C k = row))]) ∧ Below w.heap.size w w' := by
  have hgp := h.blk.lt
  have hbx : Below w.heap.size w (w.alloc (.cells #[.pointer (some ⟨gp, 0, none⟩)] 43)) := (Below.refl _ _).alloc (Nat.le_refl _) _
  have c2 : w.cell? ⟨gp, 2, none⟩ = some vo := (h.blk.cell 2).trans rfl
  have hcall : ∀ A n c, vo = .slice A n c → Calls Try.prog 49 #[.slice A n c, .int .i64 (row : Int), .func (.func 50) #[] #[.pointer (some ⟨w.heap.size, 0, none⟩)]] (w.alloc (.cells #[.pointer (some ⟨gp, 0, none⟩)] 43)) fun e w' => e = .returned (.tuple #[.int .i64 ((ks.countP (fun k => decide (rowK C k < row)) : Nat) : Int), .bool (decide (∃ k ∈ ks, rowK C k = row))]) ∧ Below w.heap.size w w' := by
    intro A n c ev
    rcases Nat.eq_zero_or_pos ks.length with h0 | h0
    · have hke : ks = [] := List.eq_nil_of_length_eq_zero h0
      obtain ⟨A9, c9, e9, _⟩ := own_shape h.orow
      rw [ev] at e9
      injection e9 with _ e9 _
      rw [h0] at e9
      subst e9
      subst hke
      refine (Any.slices_BinarySearchFunc_none shBin A c (.int .i64 (row : Int)) (.func (.func 50) #[] #[.pointer (some ⟨w.heap.size, 0, none⟩)]) _).mono ?_
      rintro e w' ⟨rfl, rfl⟩
      exact ⟨by simp, hbx⟩
    · rcases h.orow.2 with ⟨_, e⟩ | ⟨g, cap, cs, e, hBg, hg, hn, hm, hz, ht⟩
      · omega
      · rw [ev] at e
        injection e with e1 e2 e3
        subst e1 e2 e3
        rw [Nat.mul_one] at ht
        obtain ⟨k0, hk0⟩ : ∃ k, k ∈ ks := by
          obtain ⟨x, hx⟩ := List.exists_mem_of_length_pos h0
          exact ⟨x, hx⟩
        obtain ⟨cc, hcc⟩ : ∃ cc, C.length = cc + 1 := ⟨C.length - 1, by have := h.lt k0 hk0; omega⟩
        have hlt' : ∀ k ∈ ks, k < cc + 1 := fun k hk => by rw [← hcc]; exact h.lt k hk
        have hgb : Bk w g 3 cs := hg
        have hgA := hgb.below hbx hgb.lt
        have hH := ordA_holds hgA hlt' ht
        have hbox : (w.alloc (.cells #[.pointer (some ⟨gp, 0, none⟩)] 43)).cell? ⟨w.heap.size, 0, none⟩ = some (.pointer (some ⟨gp, 0, none⟩)) := (Bk.new w 43 #[.pointer (some ⟨gp, 0, none⟩)]).cell 0
        have hcmp : CmpLaysT Try.prog 50 #[.pointer (some ⟨w.heap.size, 0, none⟩)] (encF cc) (.int .i64 (row : Int)) (fun x => Lib.compareInt (rowK C x.val : Nat) row) g 0 (ordA cc ks).size (w.alloc (.cells #[.pointer (some ⟨gp, 0, none⟩)] 43)) := by
          intro q os dk hdk x
          have hk9 := sort_keep (enc := encF cc) hgA.lt 0 q dk os
          obtain ⟨A, n, c, e, hp⟩ := h.prd hbox hbx
          have hp9 : PRd (sortWorld (encF cc) (w.alloc (.cells #[.pointer (some ⟨gp, 0, none⟩)] 43)) g 0 q dk os) w.heap.size gp A n c C := by
            refine ⟨?_, ?_, ?_⟩
            · exact (hk9.cell (p := ⟨w.heap.size, 0, none⟩) (by simp) (fun e => by have := hgb.lt; have e' : w.heap.size = g := e; omega)).trans hp.box
            · exact (hk9.cell (p := ⟨gp, 1, none⟩) (by simp; omega) (Bk.ne h.blk hgb (by decide))).trans hp.sl
            · have hl1 := own_below h.lrow hbx
              have hl2 := own_same (w' := sortWorld (encF cc) (w.alloc (.cells #[.pointer (some ⟨gp, 0, none⟩)] 43)) g 0 q dk os) hl1 fun b cs' _ hb' => hk9.bk hb' (Bk.ne hb' hgA (by decide))
              obtain ⟨A9, c9, e9, _⟩ := own_shape h.lrow
              rw [e] at e9 hl2
              injection e9 with e91 e92 e93
              subst e92
              exact Rd.of_own hl2
          exact (PermAt1_any w.heap.size gp A n c C x.val row _ hp9 (by rw [hcc]; exact x.isLt)).mono fun _ _ ⟨h1, h2⟩ => ⟨h1, 0, #[], by rw [← h2, Go.Sort.grow_empty]; rfl⟩
        have hmono : ∀ a b, a ≤ b → b < (ordA cc ks).size → Lib.compareInt (rowK C ((ordA cc ks)[b]!).val : Nat) row < 0 → Lib.compareInt (rowK C ((ordA cc ks)[a]!).val : Nat) row < 0 := by
          intro a b hab hb hlt
          have hb' : b < ks.length := by simpa [ordA] using hb
          rw [ordA_get hlt' (List.getElem?_eq_getElem hb'), cmp_neg] at hlt
          rw [ordA_get hlt' (List.getElem?_eq_getElem (show a < ks.length by omega)), cmp_neg]
          rcases Nat.eq_or_lt_of_le hab with rfl | hab
          · exact hlt
          · have := List.pairwise_iff_getElem.1 hs a b (by omega) hb' hab
            omega
        have hz9 : (ordA cc ks).size = ks.length := by simp [ordA]
        have hB := Any.slices_BinarySearchFunc shBin (encF cc) (oneCell_encF cc) (.int .i64 (row : Int)) (fun x => Lib.compareInt (rowK C x.val : Nat) row) 50 #[.pointer (some ⟨w.heap.size, 0, none⟩)] g 0 c (ordA cc ks) (w.alloc (.cells #[.pointer (some ⟨gp, 0, none⟩)] 43)) (enters_of Try.func50 (by kernel_rfl) rfl) hcmp hH hgA.lt (by rw [hz9]; omega) hmono
        obtain ⟨f1, f2⟩ := at_fin (row := row) hcc h.lt hs
        rw [f1] at f2
        rw [f1, f2] at hB
        rw [hz9] at hB
        refine hB.mono ?_
        rintro e w' ⟨rfl, hsw⟩
        exact ⟨rfl, hbx.trans ((sw_below hH hsw).mono (by simp))⟩
  obtain ⟨A, c, e, _⟩ := own_shape h.orow
  have hc := hcall _ _ _ e
  rw [e] at c2
  obtain ⟨i, hi⟩ : ∃ i, ks.countP (fun k => decide (rowK C k < row)) = i := ⟨_, rfl⟩
  obtain ⟨fd, hfd⟩ : ∃ b, decide (∃ k ∈ ks, rowK C k = row) = b := ⟨_, rfl⟩
  rw [hi, hfd] at hc
  rw [hi, hfd]
  clear hcall h hs hi hfd hbx e
  go_enter Try.func36, Try.ntmps36
  go_wp2_with fail
  refine hc.mono ?_
  rintro e w' ⟨rfl, hb⟩
  go_wp2_with fail
  go_ret2
  exact ⟨rfl, hb⟩
end Go.Proofs.Ytdpknieiigibfaa
