/- Plain laws for sorted.Back: where a transform's rows lead. No conditions. slices.Equal, sorted.Same and bytes.Equal of lists that are alike. No conditions. The walk of sorted.Back of a text's own transform. Conditions: at most 127 bytes. -/
import Derived.Test.YtnileogagoipiaaGreatDoorPkO
import Derived.Test.YtnileogagoipiaaGreatDoorPkP
import Derived.Test.YtnileogagoipiaaGreatDoorPkK
import Derived.BigQuiet
import Derived.Test.YtnileogagoipiaaGreatDoorPkS
import Derived.Test.YtnileogagoipiaaGreatDoorQFnLast
namespace Go.Proofs.YtnileogagoipiaaGreatDoor
set_option linter.unusedVariables false
set_option linter.unusedSimpArgs false
theorem last_zero {t : List UInt8} {rs : List Nat} (h : IsSuf (symL t) rs) {r : Nat} (hr : rs[r]? = some 0) : (lastL (symL t) rs)[r]? = some 0 := by
  unfold lastL
  rw [List.getElem?_map, hr]
  obtain ⟨e1, e2, e3⟩ := symL_end t
  show some (prevL (symL t) 0) = some 0
  rw [prevL_zero (by omega), e1]
  have : t.length + 1 - 1 = t.length := by omega
  rw [this, e2]
theorem count_zero {t : List UInt8} {rs : List Nat} (h : IsSuf (symL t) rs) : (lastL (symL t) rs).count 0 = 1 := by
  obtain ⟨e1, e2, e3⟩ := symL_end t
  unfold lastL
  rw [List.count_eq_countP, List.countP_map, h.count, e1, count_prev (m := t.length) _ (fun p => (symL t).getD p 0 == 0)]
  · rw [List.range_succ, List.countP_append]
    have h0 : (List.range t.length).countP (fun p => (symL t).getD p 0 == 0) = 0 := List.countP_eq_zero.2 fun p hp hz => by
      have := e3 p (List.mem_range.1 hp)
      rw [beq_iff_eq] at hz
      omega
    rw [h0]
    simp only [List.countP_singleton, e2]
    rfl
  · simp only [Function.comp]
    rw [prevL_zero (by omega), e1]
    congr 2
  · intro p hp
    simp only [Function.comp]
    rw [prevL_succ (by omega)]
/-- How often the symbols below s, and s itself among the first k rows, stand ahead of rows. -/
theorem narL_step {L : List Nat} {k x : Nat} (hx : L[k]? = some x) (s : Nat) : narL L s (k + 1) = if s = x then narL L s k + 1 else narL L s k := by
  unfold narL
  rw [List.take_add_one, hx, List.count_append]
  by_cases e : s = x
  · subst e
    rw [if_pos rfl]
    simp
    omega
  · rw [if_neg e]
    have : ([x] : List Nat).count s = 0 := by
      rw [List.count_eq_zero]
      intro h
      simp at h
      exact e h
    show _ + ((L.take k).count s + [x].count s) = _
    rw [this, Nat.add_zero]
end Go.Proofs.YtnileogagoipiaaGreatDoor
namespace Go.Proofs.YtnileogagoipiaaGreatDoor
open Go.RowKit
set_option linter.unusedVariables false
set_option linter.unusedSimpArgs false
set_option maxRecDepth 100000 in
theorem EqInts_any (A A2 : Option Addr) (n c c2 B : Nat) (L : List Nat) (w : World) (hr : Rd w B 1 A n (L.map sv)) (hr2 : Rd w B 1 A2 n (L.map sv)) (hB : B ≤ w.heap.size) (hn : n ≤ 1099511627776) :
    Calls Tryz.prog 21 #[.slice A n c, .slice A2 n c2] w fun e w' => e = .returned (.bool true) ∧ Below w.heap.size w w' := by
  have hbl : L.length = n := by have := hr.1; simpa using this
  have H := Lib.hid hr
  have H2 := Lib.hid hr2
  clear hr hr2
  go_enter Tryz.func21, Tryz.ntmps21
  go_wp2_with fail
  go_loopw [13] (fun i wr => ∃ k : Nat, k ≤ n ∧ i = .int .i64 (k : Int) ∧ Below w.heap.size w wr) (fun i _ => n - (intOf i).toNat)
  case atStart => exact ⟨0, by omega, rfl, Below.refl _ _⟩
  case round =>
    obtain ⟨k, hk, rfl, hb⟩ := hrel
    by_cases hlt : k < n
    · obtain ⟨b1, o1, u, rfl, hb1, hu, hc1⟩ := (H.out.below (hb.mono hB)).get hlt
      obtain ⟨b2, o2, u2, rfl, hb2, hu2, hc2⟩ := (H2.out.below (hb.mono hB)).get hlt
      obtain ⟨x, hx⟩ : ∃ x, L[k]? = some x := ⟨_, List.getElem?_eq_getElem (by omega)⟩
      rw [List.getElem?_map, hx] at hu hu2
      injection hu with hu
      injection hu2 with hu2
      subst hu hu2
      unfold sv at hc1 hc2
      go_wp2_with fail
      go_quiet (fail)
      go_wp2_with fail
      go_roundw
      case rel => exact ⟨k + 1, by omega, by go_num, ⟨hb.os, hb.tape, hb.output, hb.size, hb.block⟩⟩
      case measure => simp [intOf]; omega
    · have hks : k = n := by omega
      subst hks
      go_wp2_with fail
      go_ret
      exact ⟨rfl, hb⟩
theorem SortedSame_any (A A2 : Option Addr) (n c c2 B : Nat) (L : List Nat) (w : World) (hr : Rd w B 1 A n (L.map sv)) (hr2 : Rd w B 1 A2 n (L.map sv)) (hB : B ≤ w.heap.size) (hn : n ≤ 1099511627776) :
    Calls Tryz.prog 183 #[.slice A n c, .slice A2 n c2] w fun e w' => e = .returned (.bool true) ∧ Below w.heap.size w w' := by
  have he := EqInts_any A A2 n c c2 B L w hr hr2 hB hn
  clear hr hr2
  go_enter Tryz.func183, Tryz.ntmps183
  go_wp2_with fail
  refine he.mono ?_
  rintro e w1 ⟨rfl, hb⟩
  go_wp2_with fail
  go_ret
  exact ⟨rfl, hb⟩
theorem BytesEqual_any (A A2 : Option Addr) (n n2 c c2 B : Nat) (l l2 : List UInt8) (w : World) (hr : Rd w B 1 A n (l.map bv)) (hr2 : Rd w B 1 A2 n2 (l2.map bv)) :
    Calls Tryz.prog 20 #[.slice A n c, .slice A2 n2 c2] w fun e w' => e = .returned (.bool (l == l2)) ∧ Below w.heap.size w w' := by
  have s1 : (convert 22 9 (.slice A n c)).run Tryz.prog w = .ok (.string ⟨l.toArray⟩) w := run_str_rd (P := Tryz.prog) 22 9 5 Tryz.underlying22 Tryz.underlying5 Tryz.underlying9 hr
  have s2 : (convert 22 9 (.slice A2 n2 c2)).run Tryz.prog w = .ok (.string ⟨l2.toArray⟩) w := run_str_rd (P := Tryz.prog) 22 9 5 Tryz.underlying22 Tryz.underlying5 Tryz.underlying9 hr2
  obtain ⟨x1, hx1⟩ : ∃ x : ByteArray, ⟨l.toArray⟩ = x := ⟨_, rfl⟩
  obtain ⟨x2, hx2⟩ : ∃ x : ByteArray, ⟨l2.toArray⟩ = x := ⟨_, rfl⟩
  rw [hx1] at s1
  rw [hx2] at s2
  have e1 : x1.toList = l := by rw [← hx1, ByteArray.toList_eq]
  have e2 : x2.toList = l2 := by rw [← hx2, ByteArray.toList_eq]
  clear hx1 hx2 hr hr2
  go_enter Tryz.func20, Tryz.ntmps20
  go_wp2_with fail
  go_ret
  refine ⟨?_, Below.refl _ _⟩
  rw [← e1, ← e2]
  rfl
end Go.Proofs.YtnileogagoipiaaGreatDoor
namespace Go.Proofs.YtnileogagoipiaaGreatDoor
open Go.RowKit
set_option linter.unusedVariables false
set_option linter.unusedSimpArgs false
@[irreducible] def zerC (n : Nat) : Array Value := arrK .i64 n fun _ => 0
@[irreducible] def filC (L : List Nat) (k : Nat) : Array Value := arrK .i64 257 fun s => if s < k then narL L s 0 else 0
@[irreducible] def firC (L : List Nat) (k : Nat) : Array Value := arrK .i64 257 fun s => narL L s k
@[irreducible] def toC (L : List Nat) (n k : Nat) : Array Value := arrK .i64 n fun i => if i < k then narL L (L.getD i 0) i else 0
@[irreducible] def seenC (rs : List Nat) (n j : Nat) : Array Value := arrK .i64 n fun i => if j < rs.getD i 0 then 1 else 0
@[irreducible] def txtC (t : List UInt8) (j : Nat) : Array Value := arrK .u8 t.length fun p => if p < j then 0 else (t.getD p 0).toNat
theorem zerC_eq (n : Nat) : Array.replicate n (Value.int .i64 0) = zerC n := by unfold zerC; exact arrK_zero _ _
theorem filC_zero (L : List Nat) : Array.replicate 257 (Value.int .i64 0) = filC L 0 := by
  unfold filC
  rw [arrK_zero]
  exact arrK_congr fun i hi => by rw [if_neg (by omega)]
theorem filC_set {L : List Nat} {k : Nat} (h : k < 257) : (filC L k).setIfInBounds k (.int .i64 ((L.countP (fun x => decide (x < k)) : Nat) : Int)) = filC L (k + 1) := by
  unfold filC
  rw [arrK_set h]
  refine arrK_congr fun i hi => ?_
  by_cases e : i = k
  · subst e
    rw [if_pos rfl, if_pos (by omega)]
    unfold narL
    simp
  · rw [if_neg e]
    by_cases e2 : i < k
    · rw [if_pos e2, if_pos (by omega)]
    · rw [if_neg e2, if_neg (by omega)]
theorem filC_end (L : List Nat) : filC L 257 = firC L 0 := by
  unfold filC firC
  exact arrK_congr fun i hi => by rw [if_pos hi]
theorem filC_get {L : List Nat} {k s : Nat} (h : s < 257) : ∃ v, (filC L k)[s]? = some v := by
  unfold filC
  exact ⟨_, arrK_get h⟩
theorem firC_get {L : List Nat} {k s : Nat} (h : s < 257) : (firC L k)[s]? = some (.int .i64 ((narL L s k : Nat) : Int)) := by
  unfold firC
  exact arrK_get h
theorem firC_set {L : List Nat} {k x : Nat} (hx : L[k]? = some x) (h : x < 257) : (firC L k).setIfInBounds x (.int .i64 ((narL L x k + 1 : Nat) : Int)) = firC L (k + 1) := by
  unfold firC
  rw [arrK_set h]
  refine arrK_congr fun i hi => ?_
  rw [narL_step hx]
  by_cases e : i = x
  · subst e
    simp
  · rw [if_neg e, if_neg e]
theorem toC_zero (L : List Nat) (n : Nat) : zerC n = toC L n 0 := by
  unfold zerC toC
  exact arrK_congr fun i hi => by rw [if_neg (by omega)]
theorem toC_get {L : List Nat} {n k i : Nat} (h : i < n) : (toC L n k)[i]? = some (.int .i64 (((if i < k then narL L (L.getD i 0) i else 0 : Nat)) : Int)) := by
  unfold toC
  exact arrK_get h
theorem toC_set {L : List Nat} {n k x : Nat} (hx : L[k]? = some x) (h : k < n) : (toC L n k).setIfInBounds k (.int .i64 ((narL L x k : Nat) : Int)) = toC L n (k + 1) := by
  unfold toC
  rw [arrK_set h]
  refine arrK_congr fun i hi => ?_
  by_cases e : i = k
  · subst e
    rw [if_pos rfl, if_pos (by omega), List.getD_eq_getElem?_getD, hx]
    rfl
  · rw [if_neg e]
    by_cases e2 : i < k
    · rw [if_pos e2, if_pos (by omega)]
    · rw [if_neg e2, if_neg (by omega)]
theorem seenC_zero {rs : List Nat} {n j : Nat} (h : ∀ p ∈ rs, p ≤ j) : zerC n = seenC rs n j := by
  unfold zerC seenC
  refine arrK_congr fun i hi => ?_
  rw [if_neg]
  rw [List.getD_eq_getElem?_getD]
  cases e : rs[i]? with
  | none => simp
  | some p => simpa using h p (List.mem_of_getElem? e)
theorem seenC_get {rs : List Nat} {n j i : Nat} (h : i < n) (hi : rs[i]? = some j) : (seenC rs n j)[i]? = some (.int .i64 0) := by
  unfold seenC
  rw [arrK_get h, List.getD_eq_getElem?_getD, hi]
  simp
theorem seenC_set {rs : List Nat} {n q i : Nat} {l : List Nat} (hs : IsSuf l rs) (hn : rs.length = n) (h : i < n) (hi : rs[i]? = some (q + 1)) : (seenC rs n (q + 1)).setIfInBounds i (.int .i64 ((1 : Nat) : Int)) = seenC rs n q := by
  unfold seenC
  rw [arrK_set h]
  refine arrK_congr fun k hk => ?_
  by_cases e : k = i
  · subst e
    rw [if_pos rfl, List.getD_eq_getElem?_getD, hi, if_pos (by simp)]
  · rw [if_neg e]
    obtain ⟨p, hp⟩ : ∃ p, rs[k]? = some p := ⟨_, List.getElem?_eq_getElem (by omega)⟩
    have hne : p ≠ q + 1 := fun e2 => e (row_inj hs (by rw [hp, e2]) hi)
    rw [List.getD_eq_getElem?_getD, hp]
    simp only [Option.getD_some]
    by_cases e3 : q + 1 < p
    · rw [if_pos e3, if_pos (by omega)]
    · rw [if_neg e3, if_neg (by omega)]
theorem txtC_zero (t : List UInt8) : Array.replicate t.length (Value.int .u8 0) = txtC t t.length := by
  unfold txtC
  rw [arrK_zero]
  exact arrK_congr fun i hi => by rw [if_pos hi]
theorem txtC_set {t : List UInt8} {q : Nat} {c : UInt8} (hc : t[q]? = some c) : (txtC t (q + 1)).setIfInBounds q (bv c) = txtC t q := by
  have hq := (List.getElem?_eq_some_iff.1 hc).1
  unfold txtC bv
  rw [arrK_set hq]
  refine arrK_congr fun i hi => ?_
  by_cases e : i = q
  · subst e
    rw [if_pos rfl, if_neg (by omega), List.getD_eq_getElem?_getD, hc]
    rfl
  · rw [if_neg e]
    by_cases e2 : i < q
    · rw [if_pos e2, if_pos (by omega)]
    · rw [if_neg e2, if_neg (by omega)]
theorem txtC_get {t : List UInt8} {j q : Nat} (h : q < t.length) : ∃ v, (txtC t j)[q]? = some v := by
  unfold txtC
  exact ⟨_, arrK_get h⟩
theorem txtC_end (t : List UInt8) : (txtC t 0).toList = t.map bv := by
  unfold txtC
  rw [arrK_list]
  apply List.ext_getElem?
  intro i
  rw [List.getElem?_map, List.getElem?_map]
  by_cases h : i < t.length
  · rw [List.getElem?_range h, List.getElem?_eq_getElem h]
    simp [bv, h]
  · rw [List.getElem?_eq_none (by simpa using h), List.getElem?_eq_none (by simpa using h)]
    rfl
theorem txtC_size (t : List UInt8) (j : Nat) : (txtC t j).size = t.length := by unfold txtC; exact arrK_size _ _ _
theorem run_bytes (n : Nat) (hn : n ≤ 1000000) (w : World) : (Instr.makeSlice 22 (.int .i64 (n : Int)) (.int .i64 (n : Int))).run Tryz.prog w = .ok (.slice (some ⟨w.heap.size, 0, none⟩) n n) (w.alloc (.cells (Array.replicate n (.int .u8 0)) 5)) := by
  obtain ⟨i0, hi0, hz0, hz1, hz2⟩ := info_parts u8_info
  have := run_make (P := Tryz.prog) w 22 5 i0 (.int .u8 0) Tryz.underlying22 hi0 hz0 .i64 .i64 n n (by omega) (Int.le_refl _) (by rw [hz2]; omega) (by omega)
  rw [this, hz1]
  have e : madeCells #[.int .u8 0] n = Array.replicate n (.int .u8 0) := by
    apply Array.ext'
    rw [toList_madeCells_one]
    simp
  simp only [Value.cells, Int.toNat_natCast, Nat.mul_one]
  rw [e]
set_option maxRecDepth 100000 in
set_option maxHeartbeats 4000000 in
theorem SortedBack_any (A : Option Addr) (c B : Nat) (t : List UInt8) (rs : List Nat) (w : World) (hs : IsSuf (symL t) rs) (hr : Rd w B 1 A (t.length + 1) ((lastL (symL t) rs).map sv)) (hB : B ≤ w.heap.size) (hm : t.length ≤ 127) :
    Calls Tryz.prog 128 #[.slice A (t.length + 1) c] w fun e w' => ∃ A' c', e = .returned (.tuple #[.slice A' t.length c', .bool true]) ∧ Made w' w.heap.size 5 1 A' t.length c' (t.map bv) ∧ Below w.heap.size w w' := by
  obtain ⟨L, hL⟩ : ∃ L, lastL (symL t) rs = L := ⟨_, rfl⟩
  have hlt := lastL_lt (rs := rs) (symL_lt t)
  have hc0 := count_zero hs
  have hlen : L.length = t.length + 1 := by rw [← hL, lastL_len, hs.len, symL_len]
  rw [hL] at hr hlt hc0
  obtain ⟨N, hN⟩ : ∃ N, t.length = N := ⟨_, rfl⟩
  obtain ⟨n, hn⟩ : ∃ n, N + 1 = n := ⟨_, rfl⟩
  rw [hN, hn] at hr hlen
  rw [hN] at hm
  have hnew := TallyNew_any A n c B L w hr hB (by omega) hlt
  obtain ⟨bA, oA, rfl, hbA, hcA⟩ := hr.2 (by omega)
  have hcell : ∀ wr, Below w.heap.size w wr → ∀ (k x : Nat), L[k]? = some x → wr.cell? ⟨bA, oA + k, none⟩ = some (.int .i64 (x : Int)) := fun wr hb k x hx => (hb.cell (p := ⟨bA, oA + k, none⟩) (Nat.lt_of_lt_of_le hbA hB)).trans (hcA k _ (by rw [List.getElem?_map, hx]; rfl))
  have Hr := Lib.hid hr
  have Hcell := Lib.hid hcell
  have Hlt := Lib.hid hlt
  have Hlen := Lib.hid hlen
  have HL := Lib.hid hL
  have HN := Lib.hid hN
  have Hc0 := Lib.hid hc0
  rw [hN, hn]
  clear hr hcA hcell hlt hlen hL hN hc0
  go_enter Tryz.func128, Tryz.ntmps128
  go_wp2_with fail
  refine hnew.mono ?_
  clear hnew
  rintro e w1 ⟨gt, rfl, hgt, hbt, hb1⟩
  have Hbt := Lib.hid hbt
  have Hb1 := Lib.hid hb1
  clear hbt hb1
  go_wp2_with fail
  have hof := TallyOf_any gt L 0 w1 Hbt.out (by omega)
  rw [Hc0.out] at hof
  refine hof.mono ?_
  clear hof
  rintro e W0 ⟨rfl, hb2⟩
  have Hbt0 := Lib.hid (Hbt.out.below hb2 Hbt.out.lt)
  have Hb0 := Lib.hid (Hb1.out.trans (hb2.mono Hb1.out.size))
  clear hb2 Hbt Hb1
  go_wp2_with fail
  have hn128 : n ≤ 128 := by omega
  refine wp_region_any (by kernel_rfl) ?_
  refine wpAny_link [29, 30, 31, 32, 33, 34, 6, 7] [31, 34] 8 (Grow) (Below W0.heap.size W0) [k0 (is (.slice (some ⟨bA, oA, none⟩) n c)), k0 (is (.int .i64 (n : Int))), k0 (fun v w2 => ∃ g, v = .slice (some ⟨g, 0, none⟩) n n ∧ W0.heap.size ≤ g ∧ Bk w2 g 3 (zerC n)), k0 (is (.slice (some ⟨bA, oA, none⟩) n c)), k0 (is (.int .i64 (n : Int))), k0 (fun v w2 => ∃ g, v = .slice (some ⟨g, 0, none⟩) n n ∧ W0.heap.size ≤ g ∧ Bk w2 g 3 (zerC n)), kEq 31, kEq 34] _ _ rfl (by kernel_rfl) (by kernel_rfl) ((Below.refl _ _).drew) (apart_none rfl) (fun w w' h k => k.elim (fun k => h.trans (k.mono h.size)) (fun k => h.trans (k.mono h.size))) (by repeat' (first | exact dep_k0 _ | exact dep_kEq _ | (refine List.forall_mem_cons.2 ⟨?_, ?_⟩) | (intro p hp; cases hp))) (by repeat' (first | exact stbq_is _ _ | exact stbq_kEq _ _ | exact stbq_k0 (fun _ _ _ ⟨g, h1, h2, h3⟩ k => ⟨g, h1, h2, h3.below k h3.lt⟩) | (refine List.forall_mem_cons.2 ⟨?_, ?_⟩) | (intro p hp; cases hp))) (by simp only [List.eraseIdx_cons_zero, List.eraseIdx_cons_succ, List.eraseIdx_nil]; repeat' (first | exact stbq_is _ _ | exact stbq_kEq _ _ | exact stbq_k0 (fun _ _ _ ⟨g, h1, h2, h3⟩ k => ⟨g, h1, h2, h3.below k h3.lt⟩) | (refine List.forall_mem_cons.2 ⟨?_, ?_⟩) | (intro p hp; cases hp))) ?_ ?_
  · refine steps_of ?_
    refine steps_cons ?_ ?_
    · refine step_onF rfl rfl ?_
      intro ev w5 hCA _ hc hf hold hval a K ha hK
      have e0 : ev (.tmp 0) = .slice (some ⟨bA, oA, none⟩) n c := hold 0 (by kernel_rfl)
      clear hold
      go_simp
      exact hK _ _ (lstep_grow (Below.refl _ _) rfl rfl) rfl
    refine steps_cons ?_ ?_
    · refine step_onF rfl rfl ?_
      intro ev w5 hCA _ hc hf hold hval a K ha hK
      have e29 : ev (.tmp 29) = .slice (some ⟨bA, oA, none⟩) n c := hval 0 29 (by kernel_rfl) rfl
      clear hold
      go_simp
      exact hK _ _ (lstep_grow (Below.refl _ _) rfl rfl) rfl
    refine steps_cons ?_ ?_
    · refine step_onF rfl rfl ?_
      intro ev w5 hCA _ hc hf hold hval a K ha hK
      obtain ⟨hS, hAp⟩ := hCA
      have e30 : ev (.tmp 30) = .int .i64 (n : Int) := hval 1 30 (by kernel_rfl) rfl
      clear hold
      have kz := run_ints n (by omega)
      go_simp
      exact hK _ _ (lstep_new ((Below.refl _ _).alloc (Nat.le_refl _) _) rfl (fun g hg => by simp [blk?] at hg; subst hg; simp)) ⟨_, rfl, hS.size, by rw [← zerC_eq]; exact Bk.new _ _ _⟩
    refine steps_cons ?_ ?_
    · refine step_onF rfl rfl ?_
      intro ev w5 hCA _ hc hf hold hval a K ha hK
      have e0 : ev (.tmp 0) = .slice (some ⟨bA, oA, none⟩) n c := hold 0 (by kernel_rfl)
      clear hold
      go_simp
      exact hK _ _ (lstep_grow (Below.refl _ _) rfl rfl) rfl
    refine steps_cons ?_ ?_
    · refine step_onF rfl rfl ?_
      intro ev w5 hCA _ hc hf hold hval a K ha hK
      have e32 : ev (.tmp 32) = .slice (some ⟨bA, oA, none⟩) n c := hval 3 32 (by kernel_rfl) rfl
      clear hold
      go_simp
      exact hK _ _ (lstep_grow (Below.refl _ _) rfl rfl) rfl
    refine steps_cons ?_ ?_
    · refine step_onF rfl rfl ?_
      intro ev w5 hCA _ hc hf hold hval a K ha hK
      obtain ⟨hS, hAp⟩ := hCA
      have e33 : ev (.tmp 33) = .int .i64 (n : Int) := hval 4 33 (by kernel_rfl) rfl
      clear hold
      have kz := run_ints n (by omega)
      go_simp
      exact hK _ _ (lstep_new ((Below.refl _ _).alloc (Nat.le_refl _) _) rfl (fun g hg => by simp [blk?] at hg; subst hg; simp)) ⟨_, rfl, hS.size, by rw [← zerC_eq]; exact Bk.new _ _ _⟩
    refine steps_cons ?_ ?_
    · refine step_onF rfl rfl ?_
      intro ev w5 hCA _ hc hf hold hval a K ha hK
      clear hold
      go_simp
      exact hK _ _ (lstep_grow (Below.refl _ _) rfl rfl) rfl
    refine steps_cons ?_ ?_
    · refine step_onF rfl rfl ?_
      intro ev w5 hCA _ hc hf hold hval a K ha hK
      clear hold
      go_simp
      exact hK _ _ (lstep_grow (Below.refl _ _) rfl rfl) rfl
    exact steps_nil
  · intro ev w6 hS hAp hval hall
    have e6 : ev (.tmp 6) = ev (.tmp 31) := hval 6 6 rfl
    have e7 : ev (.tmp 7) = ev (.tmp 34) := hval 7 7 rfl
    have p31 : (fun v w2 => ∃ g, v = .slice (some ⟨g, 0, none⟩) n n ∧ W0.heap.size ≤ g ∧ Bk w2 g 3 (zerC n)) (ev (.tmp 31)) w6 := hval 2 31 rfl
    have p34 : (fun v w2 => ∃ g, v = .slice (some ⟨g, 0, none⟩) n n ∧ W0.heap.size ≤ g ∧ Bk w2 g 3 (zerC n)) (ev (.tmp 34)) w6 := hval 5 34 rfl
    simp only [putsOf, List.foldl_cons, List.foldl_nil, Act.put, List.setIfInBounds_toArray, List.set_cons_zero, List.set_cons_succ]
    clear hval hall
    obtain ⟨gs, hs1, hs2, hs3⟩ := p31
    obtain ⟨go, ho1, ho2, ho3⟩ := p34
    have hd1 : gs ≠ go := fun e => hAp.2 31 (by simp) 34 (by simp) (by decide) gs (by rw [hs1]; rfl) (by rw [ho1, e]; rfl)
    have hb6 := Hb0.out.trans (hS.mono Hb0.out.size)
    have hbt6 := Hbt0.out.below hS Hbt0.out.lt
    have hge := Hb0.out.size
    rw [e6, e7, hs1, ho1]
    generalize ev (.tmp 29) = u29
    generalize ev (.tmp 30) = u30
    generalize ev (.tmp 32) = u32
    generalize ev (.tmp 33) = u33
    have Hs3 := Lib.hid hs3
    have Ho3 := Lib.hid ho3
    have Hb6 := Lib.hid hb6
    have Hbt6 := Lib.hid hbt6
    clear hs3 ho3 hb6 hbt6 hAp e6 e7 hs1 ho1 hS
    go_wp2_with fail
    obtain ⟨gf, hgf⟩ : ∃ g, w6.heap.size = g := ⟨_, rfl⟩
    have hf0 : Bk (w6.alloc (.cells Tryz.zeroCells171 171)) gf 171 (filC L 0) := by
      rw [← hgf, ← filC_zero]
      exact Bk.new _ _ _
    have hs0 := Hs3.out.alloc (.cells Tryz.zeroCells171 171)
    have ho0 := Ho3.out.alloc (.cells Tryz.zeroCells171 171)
    have ht0 := Hbt6.out.alloc (.cells Tryz.zeroCells171 171)
    have hb0 := Hb6.out.alloc Hb6.out.size (.cells Tryz.zeroCells171 171)
    have hgfs : gs < gf := by rw [← hgf]; exact Hs3.out.lt
    have hgfo : go < gf := by rw [← hgf]; exact Ho3.out.lt
    have hgft : gt < gf := by rw [← hgf]; exact Hbt6.out.lt
    have hgts : gt ≠ gs := Bk.ne Hbt6.out Hs3.out (by decide)
    have hgto : gt ≠ go := Bk.ne Hbt6.out Ho3.out (by decide)
    rw [hgf]
    generalize w6.alloc (.cells Tryz.zeroCells171 171) = W1 at hf0 hs0 ho0 ht0 hb0 ⊢
    clear Hs3 Ho3 Hb6 Hbt6 Hbt0 Hb0 hgf
    go_loopw [35] (fun i wr => ∃ k : Nat, k ≤ 257 ∧ i = .int .i64 (k : Int) ∧ Bk wr gf 171 (filC L k) ∧ Bk wr gs 3 (zerC n) ∧ Bk wr go 3 (zerC n) ∧ Bk wr gt 173 (tcells L) ∧ Below w.heap.size w wr) (fun i _ => 257 - (intOf i).toNat)
    case atStart => exact ⟨0, by omega, rfl, hf0, hs0, ho0, ht0, hb0⟩
    case round =>
      clear hf0 hs0 ho0 ht0 hb0
      obtain ⟨k, hk, rfl, hf, hz, ho, ht, hb⟩ := hrel
      by_cases hlt : k < 257
      · have hk1 : ((k : Int) < 257) := by omega
        have hbel := TallyBelow_any gt L k wr ht hlt (by rw [Hlen.out]; omega)
        obtain ⟨q, hq⟩ : ∃ q, L.countP (fun x => decide (x < k)) = q := ⟨_, rfl⟩
        have hset := filC_set (L := L) hlt
        rw [hq] at hbel hset
        have Hf := Lib.hid hf
        have Hz := Lib.hid hz
        have Ho := Lib.hid ho
        have Ht := Lib.hid ht
        have Hset := Lib.hid hset
        clear hf hz ho ht hset hq
        go_wp2_with fail
        refine hbel.mono ?_
        clear hbel
        rintro e w7 ⟨rfl, hb7⟩
        have hf7 := Hf.out.below hb7 Hf.out.lt
        obtain ⟨v0, hv0⟩ := filC_get (L := L) (k := k) hlt
        have c7 := (hf7.cell k).trans hv0
        have f7 := hf7.frozen k
        have Hf7 := Lib.hid hf7
        clear hf7 hv0
        go_wp2_with fail
        go_roundw
        case rel => exact ⟨k + 1, by omega, by go_num, by rw [← Hset.out]; exact Hf7.out.set k _, (Hz.out.below hb7 Hz.out.lt).far (by simp; omega) _, (Ho.out.below hb7 Ho.out.lt).far (by simp; omega) _, (Ht.out.below hb7 Ht.out.lt).far (by simp; omega) _, (hb.trans (hb7.mono hb.size)).setCell (by simp; omega) _⟩
        case measure => simp [intOf]; omega
      · have hks : k = 257 := by omega
        subst hks
        rw [filC_end] at hf
        have e257 : ((257 : Nat) : Int) = 257 := rfl
        rw [e257]
        clear e257
        have Hf := Lib.hid hf
        have Hz := Lib.hid hz
        have Ho := Lib.hid ho
        have Hb := Lib.hid hb
        clear hf hz ho ht hb hlt hk
        go_wp2_with fail
        have hgo0 : w.heap.size ≤ go := by omega
        have hgs0 : w.heap.size ≤ gs := by omega
        have hgf0 : w.heap.size ≤ gf := by omega
        have hne1 : gf ≠ go := by omega
        have hne2 : go ≠ gf := by omega
        go_loopw [46] (fun i wr => ∃ k : Nat, k ≤ n ∧ i = .int .i64 (k : Int) ∧ Bk wr gf 171 (firC L k) ∧ Bk wr gs 3 (zerC n) ∧ Bk wr go 3 (toC L n k) ∧ Below w.heap.size w wr) (fun i _ => n - (intOf i).toNat)
        case atStart => exact ⟨0, by omega, rfl, Hf.out, Hz.out, by rw [← toC_zero]; exact Ho.out, Hb.out⟩
        case round =>
          clear Hf Hz Ho Hb
          obtain ⟨k, hk, rfl, hf, hz, ho, hb⟩ := hrel
          by_cases hlt : k < n
          · obtain ⟨x, hx⟩ : ∃ x, L[k]? = some x := ⟨_, List.getElem?_eq_getElem (by rw [Hlen.out]; exact hlt)⟩
            have hx257 := Hlt.out x (List.mem_of_getElem? hx)
            have c1 := Hcell.out wr hb k x hx
            obtain ⟨q, hq⟩ : ∃ q, narL L x k = q := ⟨_, rfl⟩
            have hql : q ≤ 1000 := by
              have := narL_le L x k
              rw [hq, Hlen.out] at this
              omega
            have c2 : wr.cell? ⟨gf, x, none⟩ = some (.int .i64 (q : Int)) := by rw [← hq]; exact (hf.cell x).trans (firC_get hx257)
            have f2 := hf.frozen x
            have c3 : wr.cell? ⟨go, k, none⟩ = some (.int .i64 (((if k < k then narL L (L.getD k 0) k else 0 : Nat)) : Int)) := (ho.cell k).trans (toC_get hlt)
            have f3 := ho.frozen k
            have hset1 := toC_set hx hlt
            have hset2 := firC_set hx hx257
            rw [hq] at hset1 hset2
            have hadd : IntKind.i64.wrap ((q : Int) + 1) = ((q + 1 : Nat) : Int) := by rw [IntKind.wrap_i64]; omega
            have Hf := Lib.hid hf
            have Hz := Lib.hid hz
            have Ho := Lib.hid ho
            have Hset1 := Lib.hid hset1
            have Hset2 := Lib.hid hset2
            clear hf hz ho hset1 hset2 hq
            go_wp2_with fail
            go_roundw
            case rel => exact ⟨k + 1, by omega, by go_num, by rw [← Hset2.out]; exact (Hf.out.far (p := ⟨go, k, none⟩) hne1 _).set x _, (Hz.out.far (p := ⟨go, k, none⟩) hd1 _).far (p := ⟨gf, x, none⟩) (Nat.ne_of_lt hgfs) _, by rw [← Hset1.out]; exact (Ho.out.set k _).far (p := ⟨gf, x, none⟩) hne2 _, (hb.setCell (p := ⟨go, k, none⟩) hgo0 _).setCell (p := ⟨gf, x, none⟩) hgf0 _⟩
            case measure => simp [intOf]; omega
          · have hks : n = k := by omega
            subst hks
            have Hz := Lib.hid hz
            have Ho := Lib.hid ho
            have Hb := Lib.hid hb
            have hge2 := hb.size
            clear hf hz ho hb hlt hk hne1 hne2
            have hNn : ((n : Int) - 1) = (N : Int) := by omega
            have kz := run_bytes N (by omega)
            go_wp2_with fail
            obtain ⟨gx, hgx⟩ : ∃ g, wr.heap.size = g := ⟨_, rfl⟩
            have hx0 : Bk (wr.alloc (.cells (Array.replicate N (.int .u8 0)) 5)) gx 5 (txtC t N) := by
              rw [← hgx, ← HN.out, ← txtC_zero]
              exact Bk.new _ _ _
            have hs0 := Hz.out.alloc (.cells (Array.replicate N (.int .u8 0)) 5)
            have ho0 := Ho.out.alloc (.cells (Array.replicate N (.int .u8 0)) 5)
            have hb0 := Hb.out.alloc Hb.out.size (.cells (Array.replicate N (.int .u8 0)) 5)
            have hgxs : gs ≠ gx := Nat.ne_of_lt (by rw [← hgx]; exact Hz.out.lt)
            have hgxo : go ≠ gx := Nat.ne_of_lt (by rw [← hgx]; exact Ho.out.lt)
            have hgx0 : w.heap.size ≤ gx := by rw [← hgx]; exact Hb.out.size
            rw [hgx]
            generalize wr.alloc (.cells (Array.replicate N (.int .u8 0)) 5) = W2 at hx0 hs0 ho0 hb0 ⊢
            clear Hz Ho Hb hgx kz hge2
            have hrl : rs.length = n := by
              have := congrArg List.length HL.out
              rw [lastL_len, Hlen.out] at this
              exact this
            have hle : ∀ p ∈ rs, p ≤ N := fun p hp => by
              have := hs.lt hp
              rw [symL_len, HN.out] at this
              omega
            rw [seenC_zero hle] at hs0
            have hrow0 := row_zero hs
            rw [HN.out] at hrow0
            have Hrl := Lib.hid hrl
            have Hle := Lib.hid hle
            have Hs := Lib.hid hs
            clear hrl hle
            go_loopw [13, 14] (fun r i wr => ∃ j p : Nat, j ≤ N ∧ rs[p]? = some j ∧ r = .int .i64 (p : Int) ∧ i = .int .i64 ((j : Int) - 1) ∧ Bk wr gs 3 (seenC rs n j) ∧ Bk wr go 3 (toC L n n) ∧ Bk wr gx 5 (txtC t j) ∧ Below w.heap.size w wr) (fun _ i _ => (intOf i + 1).toNat)
            case atStart => exact ⟨N, 0, by omega, hrow0, rfl, by first | rfl | go_num, hs0, ho0, hx0, hb0⟩
            case round =>
              clear hs0 ho0 hx0 hb0 hrow0
              obtain ⟨j, p, hj, hp, rfl, rfl, hz, ho, hx, hb⟩ := hrel
              have hpl : p < n := by rw [← Hrl.out]; exact (List.getElem?_eq_some_iff.1 hp).1
              by_cases hj0 : j = 0
              · subst hj0
                have hl0 := last_zero Hs.out hp
                rw [HL.out] at hl0
                have c1 := Hcell.out wr hb p 0 hl0
                have hj1 : (((0 : Nat) : Int) - 1) = -1 := rfl
                rw [hj1]
                have hmx := made_bk (B := w.heap.size) hx hgx0 ((txtC_size t 0).trans HN.out) (by unfold maxLen; omega)
                rw [txtC_end] at hmx
                have Hmx := Lib.hid hmx
                have Hb := Lib.hid hb
                clear hz ho hx hb hmx hl0
                have hlast := SortedLast_any (some ⟨gx, 0, none⟩) N N wr.heap.size t wr Hmx.out.rd (Nat.le_refl _) (by omega)
                rw [hn] at hlast
                go_wp2_with fail
                refine hlast.mono ?_
                clear hlast
                rintro e w8 ⟨rs2, A8, c8, hs2, rfl, hm8, hb8⟩
                have hrs := hs2.unique Hs.out
                subst hrs
                rw [HL.out] at hm8
                have hsame := SortedSame_any A8 (some ⟨bA, oA, none⟩) n c8 c w8.heap.size L w8 hm8.rd (((Hr.out.below (Hb.out.mono hB)).below (hb8.mono (by have := Hb.out.size; omega))).mono (by have := Hb.out.size; have := hb8.size; omega)) (Nat.le_refl _) (by omega)
                have Hb8 := Lib.hid hb8
                clear hb8 hm8 hs2 c1
                go_wp2_with fail
                refine hsame.mono ?_
                clear hsame
                rintro e w9 ⟨rfl, hb9⟩
                have Hb9 := Lib.hid hb9
                clear hb9
                go_wp2_with fail
                go_ret2
                have hb89 := Hb8.out.trans (Hb9.out.mono Hb8.out.size)
                exact ⟨_, _, rfl, Hmx.out.below hb89, Hb.out.trans (hb89.mono Hb.out.size)⟩
              · obtain ⟨q, rfl⟩ : ∃ q, j = q + 1 := ⟨j - 1, by omega⟩
                have hq1 : (((q + 1 : Nat) : Int) - 1) = (q : Int) := by omega
                rw [hq1]
                have hqN : q < t.length := by rw [HN.out]; omega
                obtain ⟨ch, hch⟩ : ∃ ch, t[q]? = some ch := ⟨_, List.getElem?_eq_getElem hqN⟩
                obtain ⟨p2, hp2l, hp2e⟩ := Hs.out.row (p := q) (by rw [symL_len, HN.out]; omega)
                have hp2 : rs[p2]? = some q := by rw [List.getElem?_eq_getElem hp2l, hp2e]
                obtain ⟨ho1, ho2⟩ := on_row Hs.out hp hp2 hch
                rw [HL.out] at ho1 ho2
                have c1 := Hcell.out wr hb p _ ho1
                obtain ⟨s, hsv⟩ : ∃ s, ch.toNat + 1 = s := ⟨_, rfl⟩
                have hby := SymByte_any ch s hsv.symm wr
                rw [hsv] at ho1 ho2 c1
                have hset1 := seenC_set (n := n) Hs.out Hrl.out hpl hp
                have hset2 := txtC_set hch
                have hgo : (toC L n n)[p]? = some (.int .i64 (p2 : Int)) := by
                  rw [toC_get hpl, if_pos hpl, List.getD_eq_getElem?_getD, ho1]
                  show some (Value.int .i64 ((narL L s p : Nat) : Int)) = _
                  rw [ho2]
                obtain ⟨v0, hv0⟩ := txtC_get (t := t) (j := q + 1) hqN
                have Hp2 := Lib.hid hp2
                have Hset1 := Lib.hid hset1
                have Hset2 := Lib.hid hset2
                have Hgo := Lib.hid hgo
                have Hz := Lib.hid hz
                have Ho := Lib.hid ho
                have Hx := Lib.hid hx
                have Hv0 := Lib.hid hv0
                have Hsg := Lib.hid (seenC_get hpl hp)
                clear hp2 hp2e hp2l ho1 ho2 hsv hset1 hset2 hgo hz ho hx hv0 hch
                go_wp2_with fail
                refine hby.mono ?_
                clear hby
                rintro e w8 ⟨rfl, hb8⟩
                have hz8 := Hz.out.below hb8 Hz.out.lt
                have ho8 := Ho.out.below hb8 Ho.out.lt
                have hx8 := Hx.out.below hb8 Hx.out.lt
                have d1 := (hz8.cell p).trans Hsg.out
                have d2 := hz8.frozen p
                have d3 := (ho8.cell p).trans Hgo.out
                have d4 := (hx8.cell q).trans Hv0.out
                have d5 := hx8.frozen q
                have hgos : go ≠ gs := fun e => hd1 e.symm
                have hgxs2 : gx ≠ gs := fun e => hgxs e.symm
                have hgxo2 : gx ≠ go := fun e => hgxo e.symm
                have Hz8 := Lib.hid hz8
                have Ho8 := Lib.hid ho8
                have Hx8 := Lib.hid hx8
                have Hb8 := Lib.hid (hb.trans (hb8.mono hb.size))
                clear hz8 ho8 hx8 hb8 hb
                unfold bv
                go_wp2_with fail
                go_roundw
                case rel =>
                  refine ⟨q, p2, by omega, Hp2.out, rfl, ?_, ?_, ?_, ?_, ?_⟩
                  · first | rfl | go_num
                  · rw [← Hset1.out]
                    exact (Hz8.out.set p _).far (p := ⟨gx, q, none⟩) hgxs _
                  · exact (Ho8.out.far (p := ⟨gs, p, none⟩) hgos _).far (p := ⟨gx, q, none⟩) hgxo _
                  · rw [← Hset2.out]
                    exact (Hx8.out.far (p := ⟨gs, p, none⟩) hgxs2 _).set q _
                  · exact (Hb8.out.setCell (p := ⟨gs, p, none⟩) hgs0 _).setCell (p := ⟨gx, q, none⟩) hgx0 _
                case measure => simp [intOf]
end Go.Proofs.YtnileogagoipiaaGreatDoor
