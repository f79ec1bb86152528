/- The walks of slices.Grow (of nil) and slices.Concat. Conditions: sizes of at most 2^40. -/
import Derived.Test.YtdpknieiigibfaaFnPerm5
import Derived.Lib.AppendZeros
import Derived.Lib.LazyBuf
namespace Go.Proofs.Ytdpknieiigibfaa
open Go.RowKit
set_option linter.unusedVariables false
set_option linter.unusedSimpArgs false
theorem u8_info : (Try.prog.info? 5).map (fun i => (i.zero, i.size, i.bytes)) = some (some (.int .u8 0), 1, 1) := by kernel_rfl
set_option maxRecDepth 100000 in
set_option maxHeartbeats 1000000 in
theorem Grow_nil (n : Nat) (w : World) (hn : n ≤ 1099511627776) :
    Calls Try.prog 27 #[.slice none 0 0, .int .i64 (n : Int)] w fun e w' => ∃ v, e = .returned v ∧ w'.ownsRow w.heap.size 5 1 v 0 [] ∧ Below w.heap.size w w' := by
  obtain ⟨i0, hi0, hz0, hz1, hz2⟩ := info_parts u8_info
  rcases Nat.eq_zero_or_pos n with h0 | h0
  · subst h0
    go_enter Try.func27, Try.ntmps27
    go_wp2
    go_ret
    exact ⟨_, rfl, World.ownsRow_nil _ _ _ _, Below.refl _ _⟩
  · have hrun := Lib.run_append_nil_zeros (P := Try.prog) w 23 3 23 5 i0 (.int .u8 0) .i64 .i64 Try.underlying23 Try.underlying3 hi0 hz0 n h0 (by omega) (by omega) (by rw [hz2]; omega)
    have hge := grownCap_ge w n 0 5
    have hle := grownCap_le_maxLen w n 0 5 (by unfold maxLen; omega)
    generalize grownCap w n 0 5 = cp at *
    have hsz : (Builtin.zeroCells (Value.int .u8 0).cells n ++ Builtin.zeroCells (Value.int .u8 0).cells (cp - n)).size = cp * 1 := by
      simp [Builtin.zeroCells, Value.cells]
      omega
    have Hsz := Lib.hid hsz
    have Hrun := Lib.hid hrun
    clear hsz hrun
    have hdec : ¬ ((n : Int) < 0) := by omega
    go_enter Try.func27, Try.ntmps27
    go_wp2_with (at_builtin; refine Lib.wpList_append_run _ rfl (.tmp 20) (.tmp 21) _ _ rfl _ _ rfl rfl _ _ Hrun.out ?_)
    go_ret
    exact ⟨_, rfl, World.ownsRow_made _ _ _ (Nat.le_refl _) hle Hsz.out, (Below.refl _ _).drew.alloc (Nat.le_refl _) _⟩
/-- A slice of bytes: where it lies, and its bytes. -/
structure Sl where
  A : Option Addr
  n : Nat
  c : Nat
  l : List UInt8
def slV (s : Sl) : Value := .slice s.A s.n s.c
def catS (ss : List Sl) : List UInt8 := ss.flatMap (·.l)
theorem catS_snoc (ss : List Sl) (k : Nat) (s : Sl) (h : ss[k]? = some s) : catS (ss.take (k + 1)) = catS (ss.take k) ++ s.l := by
  rw [List.take_add_one, h]
  simp [catS]
theorem catS_take_le (ss : List Sl) (k : Nat) : (catS (ss.take k)).length ≤ (catS ss).length := by
  have : catS ss = catS (ss.take k) ++ catS (ss.drop k) := by
    unfold catS
    rw [← List.flatMap_append, List.take_append_drop]
  rw [this, List.length_append]
  omega
set_option maxRecDepth 100000 in
set_option maxHeartbeats 1000000 in
theorem Concat_any (A0 : Option Addr) (m0 c0 B : Nat) (ss : List Sl) (T : List UInt8) (N : Nat) (hT : catS ss = T) (hN : T.length = N) (w : World) (hr0 : Rd w B 1 A0 m0 (ss.map slV)) (hss : ∀ s ∈ ss, Rd w B 1 s.A s.n (s.l.map bv)) (hB : B ≤ w.heap.size) (hm : m0 ≤ 1099511627776) (hn : N ≤ 1099511627776) :
    Calls Try.prog 14 #[.slice A0 m0 c0] w fun e w' => ∃ A' c', e = .returned (.slice A' N c') ∧ Made w' w.heap.size 5 1 A' N c' (T.map bv) ∧ Below w.heap.size w w' := by
  obtain ⟨i0, hi0, hz0, hz1, hz2⟩ := info_parts u8_info
  have hlen : ss.length = m0 := by simpa using hr0.1
  have hpart : ∀ k, (catS (ss.take k)).length ≤ 1099511627776 := fun k => by have := catS_take_le ss k; rw [hT] at this; omega
  have hrow : ∀ k s, ss[k]? = some s → s.l.length = s.n ∧ (catS (ss.take (k + 1))).length = (catS (ss.take k)).length + s.n := fun k s hs => by
    have h1 := (hss s (List.mem_of_getElem? hs)).1
    have h2 : s.l.length = s.n := by simpa using h1
    rw [catS_snoc ss k s hs, List.length_append, h2]
    exact ⟨rfl, rfl⟩
  have Hlen := Lib.hid hlen
  have Hpart := Lib.hid hpart
  have Hrow := Lib.hid hrow
  have Hr0 := Lib.hid (hr0.mono hB)
  have Hss := Lib.hid (fun s hs => (hss s hs).mono hB)
  have HT := Lib.hid hT
  have HN := Lib.hid hN
  clear hlen hpart hrow hr0 hss hT hN
  go_enter Try.func14, Try.ntmps14
  go_wp2
  go_loopw [3, 11] (fun v i wr => ∃ k : Nat, k ≤ m0 ∧ i = .int .i64 k ∧ v = .int .i64 ((catS (ss.take k)).length : Int) ∧ w = wr) (fun _ i _ => m0 - (intOf i).toNat)
  case atStart => exact ⟨0, Nat.zero_le _, rfl, by simp [catS], rfl⟩
  case round =>
    obtain ⟨k, hk, rfl, rfl, rfl⟩ := hrel
    by_cases hlt : k < m0
    · obtain ⟨s, hs⟩ : ∃ s, ss[k]? = some s := ⟨ss[k]'(by have := Hlen.out; omega), List.getElem?_eq_getElem (by have := Hlen.out; omega)⟩
      obtain ⟨b, off, u, rfl, hbl, hu, hc⟩ := Hr0.out.get hlt
      rw [List.getElem?_map, hs] at hu
      simp at hu
      subst hu
      unfold slV at hc
      obtain ⟨h1, h2⟩ := Hrow.out k s hs
      have h3 := Hpart.out (k + 1)
      generalize hq : (catS (ss.take k)).length = q at *
      have Hnext := Lib.hid h2
      rw [h2] at h3
      clear h1 h2 hs hq
      have hneg : ¬ ((q : Int) + (s.n : Int) < 0) := by omega
      go_wp2
      go_roundw
      case rel => exact ⟨k + 1, by omega, by go_num, by rw [Hnext.out]; go_num, trivial⟩
      case measure => simp [intOf]; omega
    · have hkm : k = m0 := by omega
      have hge : m0 ≤ k := by omega
      have htk : ss.take k = ss := List.take_of_length_le (by have := Hlen.out; omega)
      rw [htk, HT.out, HN.out]
      clear hkm htk
      go_wp2_with fail
      refine (Grow_nil N _ hn).mono ?_
      rintro e w1 ⟨v1, rfl, hown1, hb1⟩
      go_wp2_with fail
      go_loopw [6, 27] (fun v i wr => ∃ k : Nat, k ≤ m0 ∧ i = .int .i64 k ∧ wr.ownsRow w.heap.size 5 1 v (catS (ss.take k)).length ((catS (ss.take k)).map bv) ∧ Below w.heap.size w wr) (fun _ i _ => m0 - (intOf i).toNat)
      case atStart => exact ⟨0, Nat.zero_le _, rfl, hown1, hb1⟩
      case round =>
        obtain ⟨k, hk, rfl, hown, hb⟩ := hrel
        have hsz := hb.size
        by_cases hlt : k < m0
        · obtain ⟨s, hs⟩ : ∃ s, ss[k]? = some s := ⟨ss[k]'(by have := Hlen.out; omega), List.getElem?_eq_getElem (by have := Hlen.out; omega)⟩
          obtain ⟨b, off, u, rfl, hbl, hu, hc⟩ := (Hr0.out.below hb).get hlt
          rw [List.getElem?_map, hs] at hu
          simp at hu
          subst hu
          unfold slV at hc
          have hrs := Lib.hid ((Hss.out s (List.mem_of_getElem? hs)).below hb)
          obtain ⟨h1, h2⟩ := Hrow.out k s hs
          have h3 := Hpart.out (k + 1)
          have hsn := Lib.hid (catS_snoc ss k s hs)
          have Hnext := Lib.hid h2
          generalize hq : (catS (ss.take k)).length = q at *
          rw [h2] at h3
          have Hown := Lib.hid hown
          clear h1 h2 hs hown
          go_wp2_with (at_builtin; refine wpList_append_rd _ rfl (.tmp 31) (.tmp 32) _ rfl w.heap.size 5 i0 (.int .u8 0) 1 1 Try.underlying23 hi0 hz0 hz1 hz2 rfl (by decide) _ q _ rfl Hown.out w.heap.size s.A s.n s.c _ rfl hrs.out (oneCell_bv _) (by unfold maxLen; omega) (by omega) hsz ?_; intro v5 w5 hown5 hg5 hat5)
          have hB5 := below_grown hb Hown.out hg5 hsz
          go_roundw
          case rel =>
            refine ⟨k + 1, by omega, by go_num, ?_, hB5⟩
            rw [Hnext.out, hsn.out, List.map_append]
            exact hown5
          case measure => simp [intOf]; omega
        · have hkm : k = m0 := by omega
          have hge : m0 ≤ k := by omega
          have htk : ss.take k = ss := List.take_of_length_le (by have := Hlen.out; omega)
          rw [htk, HT.out, HN.out] at hown
          obtain ⟨A', c', rfl, hm'⟩ := made_of_own hown
          clear hkm htk hown
          go_wp2
          go_ret
          exact ⟨A', c', rfl, hm', hb⟩
end Go.Proofs.Ytdpknieiigibfaa
