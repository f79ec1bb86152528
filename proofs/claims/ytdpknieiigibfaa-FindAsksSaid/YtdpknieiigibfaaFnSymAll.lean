/- The walks of sym's Of and All (of one part), and of slices.Clone of ints. Conditions: at most 128 bytes, 2^30 ints. -/
import Derived.Test.YtdpknieiigibfaaFnSym
namespace Go.Proofs.Ytdpknieiigibfaa
open Go.RowKit
set_option linter.unusedVariables false
set_option linter.unusedSimpArgs false
theorem int_info : (Try.prog.info? 3).map (fun i => (i.zero, i.size, i.bytes)) = some (some (.int .i64 0), 1, 8) := by kernel_rfl
theorem oneCell_sv (l : List Nat) : ∀ u ∈ l.map sv, u.oneCell' = true := by
  intro u hu
  obtain ⟨x, _, rfl⟩ := List.mem_map.1 hu
  rfl
/-- A text's symbols, and the end. -/
def symB (t : List UInt8) : List Nat := t.map (fun c => c.toNat + 1)
def symL (t : List UInt8) : List Nat := symB t ++ [0]
theorem symL_len (t : List UInt8) : (symL t).length = t.length + 1 := by simp [symL, symB]
theorem symL_lt (t : List UInt8) : ∀ s ∈ symL t, s < 257 := by
  intro s hs
  unfold symL symB at hs
  rcases List.mem_append.1 hs with h | h
  · obtain ⟨c, _, rfl⟩ := List.mem_map.1 h
    have := c.toNat_lt
    omega
  · simp at h
    omega
set_option maxRecDepth 100000 in
theorem SymOf_any (c : UInt8) (w : World) :
    Calls Try.prog 22 #[.int .u8 (c.toNat : Int)] w fun e w' => e = .returned (.int .i64 ((c.toNat + 1 : Nat) : Int)) ∧ Below w.heap.size w w' := by
  have hc := c.toNat_lt
  have h64 : IntKind.i64.wrap (c.toNat : Int) = (c.toNat : Int) := by rw [IntKind.wrap_i64]; omega
  go_enter Try.func22, Try.ntmps22
  go_wp2
  go_ret
  exact ⟨ret_i64 (by omega), Below.refl _ _⟩
set_option maxRecDepth 100000 in
set_option maxHeartbeats 1000000 in
theorem SymAll_any (gs g0 : Nat) (A : Option Addr) (m c B : Nat) (t : List UInt8) (w : World) (hs : Bk w gs 23 #[.slice A m c]) (hr : Rd w B 1 A m (t.map bv)) (hB : B ≤ w.heap.size) (hm : m ≤ 1000) :
    Calls Try.prog 31 #[.slice (some ⟨gs, 0, none⟩) 1 1] w fun e w' => ∃ A' c', e = .returned (.slice A' (m + 1) c') ∧ Made w' w.heap.size 3 1 A' (m + 1) c' ((symL t).map sv) ∧ Below w.heap.size w w' := by
  obtain ⟨i0, hi0, hz0, hz1, hz2⟩ := info_parts int_info
  have htl : t.length = m := by simpa using hr.1
  have c0 : w.cell? ⟨gs, 0, none⟩ = some (.slice A m c) := (hs.cell 0).trans rfl
  have hgs := hs.lt
  have Hr := Lib.hid (hr.mono hB)
  have Htl := Lib.hid htl
  clear hs hr htl
  go_enter Try.func31, Try.ntmps31
  go_wp2_with fail
  go_loopw [3, 10] (fun v i wr => ∃ k : Nat, k ≤ 1 ∧ i = .int .i64 k ∧ wr.ownsRow w.heap.size 3 1 v (if k = 0 then 0 else m) ((if k = 0 then [] else symB t).map sv) ∧ Below w.heap.size w wr) (fun _ i _ => 1 - (intOf i).toNat)
  case atStart => exact ⟨0, by omega, rfl, World.ownsRow_nil _ _ _ _, Below.refl _ _⟩
  case round =>
    obtain ⟨k, hk, rfl, hown, hb⟩ := hrel
    have hsz := hb.size
    rcases k with _ | k
    · have d0 : wr.cell? ⟨gs, 0, none⟩ = some (.slice A m c) := (hb.cell hgs).trans c0
      have Hown := Lib.hid hown
      have Hb := Lib.hid hb
      clear hown hb
      go_wp2_with fail
      obtain ⟨W, hW⟩ : ∃ W, W = wr := ⟨_, rfl⟩
      subst hW
      go_loopw [3, 16] (fun v i wr2 => ∃ k : Nat, k ≤ m ∧ i = .int .i64 k ∧ wr2.ownsRow w.heap.size 3 1 v k ((symB (t.take k)).map sv) ∧ Below w.heap.size w wr2) (fun _ i _ => m - (intOf i).toNat)
      case atStart => exact ⟨0, by omega, rfl, Hown.out, Hb.out⟩
      case round =>
        obtain ⟨k, hk, rfl, hown, hb⟩ := hrel
        have hsz := hb.size
        by_cases hlt : k < m
        · have hkl : k < t.length := by rw [Htl.out]; exact hlt
          obtain ⟨x, hx⟩ : ∃ x, t[k]? = some x := ⟨t[k], List.getElem?_eq_getElem hkl⟩
          obtain ⟨b, off, u, rfl, hbl, hu, hc⟩ := (Hr.out.below hb).get hlt
          rw [List.getElem?_map, hx] at hu
          simp at hu
          subst hu
          have htk : t.take (k + 1) = t.take k ++ [x] := by rw [List.take_add_one, hx]; rfl
          unfold bv at hc
          have HTK := Lib.hid htk
          have Hown2 := Lib.hid hown
          clear htk hx hown
          go_wp2_with fail
          refine (SymOf_any x _).mono ?_
          rintro e w1 ⟨rfl, hb1⟩
          have hown1 := own_below Hown2.out hb1
          have hb2 := hb.trans (hb1.mono hsz)
          have hsz2 := hb2.size
          have Hown3 := Lib.hid hown1
          clear hown1
          go_wp2_with (at_builtin; refine wpList_push _ rfl (.tmp 20) (.tmp 23) _ rfl w.heap.size 3 i0 (.int .i64 0) 1 8 Try.underlying22 hi0 hz0 hz1 hz2 rfl (by decide) _ k _ rfl Hown3.out rfl rfl (by simp [Value.oneCell']) (by unfold maxLen; omega) (by omega) hsz2 ?_; intro v2 w2 hown2 hg2 hs2 hat2)
          have hb3 := below_grown hb2 Hown3.out hg2 hsz2
          clear hg2 hat2
          go_roundw
          case rel =>
            refine ⟨k + 1, by omega, by go_num, ?_, hb3⟩
            rw [HTK.out, symB, List.map_append, List.map_append]
            exact hown2
          case measure => simp [intOf]; omega
        · have hkm : k = m := by omega
          subst hkm
          rw [List.take_of_length_le (by rw [Htl.out]; omega)] at hown
          have Hown2 := Lib.hid hown
          clear hown
          go_wp2_with fail
          go_roundw
          case rel => exact ⟨1, by omega, by go_num, Hown2.out, hb⟩
          case measure => simp [intOf]
    · have hk0 : k = 0 := by omega
      subst hk0
      rw [if_neg (by omega), if_neg (by omega)] at hown
      have Hown := Lib.hid hown
      have hlS : (symL t).map sv = (symB t).map sv ++ [.int .i64 0] := by simp [symL, sv]
      have HlS := Lib.hid hlS
      clear hown hlS
      go_wp2_with (at_builtin; refine wpList_push _ rfl (.tmp 27) (.tmp 28) _ rfl w.heap.size 3 i0 (.int .i64 0) 1 8 Try.underlying22 hi0 hz0 hz1 hz2 rfl (by decide) _ m _ rfl Hown.out rfl rfl (by simp [Value.oneCell']) (by unfold maxLen; omega) (by omega) hsz ?_; intro v2 w2 hown2 hg2 hs2 hat2)
      have hb3 := below_grown hb Hown.out hg2 hsz
      obtain ⟨A', c', rfl, hm'⟩ := made_of_own hown2
      go_ret
      exact ⟨A', c', rfl, by rw [HlS.out]; exact hm', hb3⟩
set_option maxRecDepth 100000 in
set_option maxHeartbeats 1000000 in
theorem CloneInts_any (A : Option Addr) (n c B : Nat) (l : List Nat) (w : World) (hr : Rd w B 1 A n (l.map sv)) (hB : B ≤ w.heap.size) (hn : n ≤ 1073741824) :
    Calls Try.prog 32 #[.slice A n c] w fun e w' => ∃ A' c', e = .returned (.slice A' n c') ∧ Made w' w.heap.size 3 1 A' n c' (l.map sv) ∧ Below w.heap.size w w' := by
  obtain ⟨i0, hi0, hz0, hz1, hz2⟩ := info_parts int_info
  have q22 : ∀ (w : World) (a : Option Addr) (n c : Nat), (binOp .eql 22 (.slice a n c) (.slice none 0 0)).run Try.prog w = .ok (.bool a.isNone) w := fun w a n c => Lib.run_eql_slice_nil w _ _ a n c _ _ Try.underlying22
  rcases A with _ | a
  · have hn0 : n = 0 := by
      rcases Nat.eq_zero_or_pos n with h | h
      · exact h
      · obtain ⟨_, _, h, _⟩ := hr.2 h
        cases h
    subst hn0
    have hl : l = [] := by
      have := hr.1
      simp only [List.length_map, Nat.zero_mul] at this
      exact List.eq_nil_of_length_eq_zero this
    subst hl
    go_enter Try.func32, Try.ntmps32
    go_wp2
    go_ret
    exact ⟨none, 0, rfl, ⟨World.ownsRow_nil _ _ _ _, Rd.nil _ _ _ _, Nat.le_refl _, Nat.zero_le _⟩, Below.refl _ _⟩
  · have Hr := Lib.hid hr
    clear hr
    go_enter Try.func32, Try.ntmps32
    go_wp2_with (at_builtin; refine wpList_append_rd _ rfl (.tmp 5) (.tmp 6) _ rfl w.heap.size 3 i0 (.int .i64 0) 1 8 Try.underlying22 hi0 hz0 hz1 hz2 rfl (by decide) (.slice (some ⟨w.heap.size, 0, none⟩) 0 0) 0 [] rfl (own_empty w 3 1) w.heap.size (some a) n c _ rfl ((Hr.out.mono hB).alloc (Nat.le_refl _) _) (oneCell_sv _) (by unfold maxLen; omega) (by omega) (by simp) ?_; intro v5 w5 hown5 hg5 hat5)
    have hB5 := below_grown ((Below.refl w.heap.size w).alloc (Nat.le_refl _) _) (own_empty w 3 1) hg5 (by simp)
    rw [Nat.zero_add, List.nil_append] at hown5
    obtain ⟨A', c', rfl, hm⟩ := made_of_own hown5
    go_wp2
    go_ret
    exact ⟨A', c', rfl, hm, hB5⟩
end Go.Proofs.Ytdpknieiigibfaa
