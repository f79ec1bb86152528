/- The walks of sym.Is and run.Put. Condition: at most a million symbols. -/
import Derived.Test.YthcoldomeedbnaaRunAll
namespace Go.Proofs.Ythcoldomeedbnaa
open Go.RowKit
set_option linter.unusedVariables false
theorem symIs_yes (s : Int) (w : World) (h : symOk s) : Calls Try.prog 47 #[.int .i64 s] w fun e w' => e = .returned (.bool true) ∧ w = w' := by
  obtain ⟨h1, h2⟩ := h
  go_enter Try.func47, Try.ntmps47
  go_wp2
  go_ret
  exact ⟨ret_bool (by simp <;> omega), rfl⟩
theorem symIs_no (s : Int) (w : World) (h : ¬ symOk s) : Calls Try.prog 47 #[.int .i64 s] w fun e w' => e = .returned (.bool false) ∧ w = w' := by
  have h' : s < 0 ∨ (0 ≤ s ∧ 257 ≤ s) := by unfold symOk at h; omega
  rcases h' with h1 | ⟨h1, h2⟩
  · go_enter Try.func47, Try.ntmps47
    go_wp2
    go_ret
    exact ⟨ret_bool (by simp <;> omega), rfl⟩
  · go_enter Try.func47, Try.ntmps47
    go_wp2
    go_ret
    exact ⟨ret_bool (by simp <;> omega), rfl⟩
/-- What run.Put tells: bytes and 0, or nil and 1. -/
def PutTold (w w' : World) (o : Option (List UInt8)) (e : Ending) : Prop :=
  (∃ bs A c, o = some bs ∧ e = .returned (.tuple #[.slice A bs.length c, .int .i64 0]) ∧ Made w' w.heap.size 5 1 A bs.length c (bs.map bv)) ∨
  (o = none ∧ e = .returned (.tuple #[.slice none 0 0, .int .i64 1]))

set_option maxRecDepth 100000 in
set_option maxHeartbeats 2000000 in
theorem RunPut_any (A : Option Addr) (m c B : Nat) (l : List Int) (w : World) (hr : Rd w B 1 A m (l.map iv)) (hB : B ≤ w.heap.size) (hm : m ≤ 1000000) :
    Calls Try.prog 36 #[.slice A m c] w fun e w' => PutTold w w' (putRuns l) e ∧ Below w.heap.size w w' := by
  obtain ⟨i0, hi0, hz0, hz1, hz2⟩ := info_parts u8_info
  have hll : l.length = m := by simpa using hr.1
  obtain ⟨r, hrr⟩ : ∃ r, runsOf l = r := ⟨_, rfl⟩
  obtain ⟨n, hn⟩ : ∃ n, r.length = n := ⟨_, rfl⟩
  have hnm : n ≤ 1000000 := by have := runsOf_len l; rw [hrr] at this; omega
  have hcnt : ∀ x ∈ r, x.2 ≤ 1000000 := fun x hx => by have := runsOf_mem l x (by rw [hrr]; exact hx); omega
  have Hcnt := Lib.hid hcnt
  have hput : putRuns l = if ∀ x ∈ r, symOk x.1 then some (runBytes r) else none := by unfold putRuns; rw [hrr]
  have Hput := Lib.hid hput
  have Hrr := Lib.hid hrr
  have Hn := Lib.hid hn
  have Hr := Lib.hid hr
  have hB0 := Below.refl w.heap.size w
  clear hr hll hrr hn hput hcnt
  go_enter Try.func36, Try.ntmps36
  go_wp2_with fail
  refine (RunOf_is _ _ _ _ l _ r n Hrr.out Hn.out Hr.out hB (by omega)).mono ?_
  rintro e w1 ⟨A1, c1, rfl, hm1, hb1⟩
  have hs1 := hb1.size
  have Ho1 := Lib.hid hm1.own
  clear hm1
  obtain ⟨k0, hk0⟩ : ∃ k0, (encB n).length = k0 := ⟨_, rfl⟩
  have hk1 : k0 ≤ 11 := by rw [← hk0]; exact encB_len n
  have Hk0 := Lib.hid hk0
  clear hk0
  go_wp2_with fail
  refine (Put_is _ _ _ _ [n] _ (encB n) k0 (encAll_one n) Hk0.out (Rd.made _ _ 1 1 _ rfl) (Nat.le_refl _) (by simp; omega) (by omega)).mono ?_
  rintro e w2 ⟨A2, c2, rfl, hm2, hb2⟩
  have hB2 := (hb1.alloc hs1 _).trans (hb2.mono (by simp; omega))
  have hs2 := hB2.size
  have hs12 : w1.heap.size < w2.heap.size := by have := hb2.size; simp at this; omega
  have hown2 : w2.ownsRow w.heap.size 5 1 (.slice A2 k0 c2) k0 ((encB n).map bv) := own_mono hm2.own (by simp; omega)
  have hruns : w2.ownsRow w.heap.size 57 2 (.slice A1 n c1) n (runCells r) := own_below (Ho1.out.alloc _) hb2
  clear hm2 hb2 hb1
  go_wp2_with fail
  go_loopw [5, 17] (fun v i wr => ∃ k q : Nat, k ≤ n ∧ i = .int .i64 k ∧ wr.ownsRow w.heap.size 5 1 v q ((encB n ++ (r.take k).flatMap runByte).map bv) ∧ wr.ownsRow w.heap.size 57 2 (.slice A1 n c1) n (runCells r) ∧ Below w.heap.size w wr ∧ ∀ x ∈ r.take k, symOk x.1) (fun _ i _ => n - (intOf i).toNat)
  case atStart => exact ⟨0, k0, Nat.zero_le _, rfl, by simpa using hown2, hruns, hB2, by simp⟩
  case round =>
    obtain ⟨k, q, hk, rfl, hown, hruns, hb, hok⟩ := hrel
    have Hok := Lib.hid hok
    have hsz := hb.size
    have hq : q ≤ 22000011 := by
      have h1 := hown.1
      have h2 := flatRun_len (r.take k)
      have h3 := encB_len n
      rw [List.length_take] at h2
      simp only [List.length_map, List.length_append] at h1
      omega
    clear hok
    by_cases hlt : k < n
    · obtain ⟨x, hx⟩ : ∃ x, r[k]? = some x := ⟨r[k]'(by have := Hn.out; omega), List.getElem?_eq_getElem (by have := Hn.out; omega)⟩
      obtain ⟨g, hA1, hgl⟩ : ∃ g, A1 = some ⟨g, 0, none⟩ ∧ g < wr.heap.size := by
        obtain ⟨g, cap, hv, _, hlt⟩ := hruns.form (by omega)
        injection hv with h1 h2 h3
        exact ⟨g, h1, hlt⟩
      subst hA1
      have d0 : wr.cell? ⟨g, k * 2, none⟩ = some (.int .i64 x.1) := (hruns.cellAt (k * 2) (by omega)).trans ((runCells_get r k 0 x hx (by omega)).trans rfl)
      have d1 : wr.cell? ⟨g, k * 2 + 1, none⟩ = some (.int .i64 (x.2 : Int)) := (hruns.cellAt (k * 2 + 1) (by omega)).trans ((runCells_get r k 1 x hx (by omega)).trans rfl)
      have hnext := runBytes_snoc r k x hx
      have hxc := Hcnt.out x (List.mem_of_getElem? hx)
      have hin : ∀ y ∈ r.take (k + 1), y ∈ r.take k ∨ y = x := by
        intro y hy
        have hkl : k < r.length := (List.getElem?_eq_some_iff.1 hx).1
        rw [List.take_succ_eq_append_getElem hkl, (List.getElem?_eq_some_iff.1 hx).2] at hy
        simpa using hy
      have hmem := List.mem_of_getElem? hx
      obtain ⟨s, y⟩ := x
      simp only at d0 d1 hxc
      have Hnext := Lib.hid hnext
      have Hin := Lib.hid hin
      have Hmem := Lib.hid hmem
      clear hnext hx hin hmem
      by_cases hsy : symOk s
      · obtain ⟨sn, rfl⟩ := Int.eq_ofNat_of_zero_le hsy.1
        have hs257 : (sn : Int) < 257 := hsy.2
        have Hsy := Lib.hid hsy
        clear hsy
        obtain ⟨k2, hk2⟩ : ∃ k2, (runByte ((sn : Int), y)).length = k2 := ⟨_, rfl⟩
        have hk3 : k2 ≤ 22 := by rw [← hk2]; exact runByte_len _
        have Hk2 := Lib.hid hk2
        have henc : encAll [sn, y] = runByte ((sn : Int), y) := by simp [encAll, runByte]
        have Henc := Lib.hid henc
        clear hk2 henc
        go_wp2_with (go_at_call 47; refine (symIs_yes _ _ Hsy.out).mono ?_; rintro e w3 ⟨rfl, rfl⟩)
        refine (Put_is _ _ _ _ [sn, y] _ (runByte ((sn : Int), y)) k2 Henc.out Hk2.out (Rd.made' _ _ 1 2 _ _ rfl (by simp)) (Nat.le_refl _) (by simp; omega) (by omega)).mono ?_
        rintro e w4 ⟨A4, c4, rfl, hm4, hb4⟩
        have hB4 := ((hb.alloc hsz _).alloc (by simp; omega) _).trans (hb4.mono (by simp; omega))
        have hs4 := hB4.size
        have hown4 : w4.ownsRow w.heap.size 5 1 u5 q ((encB n ++ (r.take k).flatMap runByte).map bv) := own_below ((hown.alloc _).alloc _) hb4
        have hruns4 : w4.ownsRow w.heap.size 57 2 (.slice (some ⟨g, 0, none⟩) n c1) n (runCells r) := own_below ((hruns.alloc _).alloc _) hb4
        have Hr4 := Lib.hid hm4.rd
        have Hone := Lib.hid (oneCell_bv (runByte ((sn : Int), y)))
        clear hm4 hb4 hown hruns
        go_wp2_with (at_builtin; refine wpList_append_rd _ rfl (.tmp 25) (.tmp 33) _ rfl w.heap.size 5 i0 (.int .u8 0) 1 1 Try.underlying33 hi0 hz0 hz1 hz2 rfl (by decide) u5 q _ rfl hown4 w4.heap.size A4 k2 c4 _ rfl Hr4.out Hone.out (by unfold maxLen; omega) (by omega) hs4 ?_; intro v5 w5 hown5 hg5 hat5)
        have hB5 := below_grown hB4 hown4 hg5 hs4
        have hruns5 := hruns4.kept hg5 (own_ne_own hruns4 hown4 (by decide))
        clear hg5 hat5 hruns4 hown4
        go_roundw
        case rel =>
          refine ⟨k + 1, q + k2, by omega, by go_num, ?_, hruns5, hB5, ?_⟩
          · rw [Hnext.out, ← List.append_assoc, List.map_append]
            exact hown5
          · intro z hz
            rcases Hin.out z hz with h | h
            · exact Hok.out z h
            · rw [h]; exact Hsy.out
        case measure => simp [intOf]; omega
      · have Hsy := Lib.hid hsy
        clear hsy
        go_wp2_with (go_at_call 47; refine (symIs_no _ _ Hsy.out).mono ?_; rintro e w3 ⟨rfl, rfl⟩)
        go_ret2
        refine ⟨.inr ⟨?_, rfl⟩, hb.alloc hsz _⟩
        rw [Hput.out, if_neg]
        intro hall
        exact Hsy.out (hall _ Hmem.out)
    · have hkn : k = n := by omega
      have hge : n ≤ k := by omega
      have htk : r.take k = r := List.take_of_length_le (by have := Hn.out; omega)
      rw [htk] at hown Hok
      clear hkn htk hruns
      obtain ⟨A', c', rfl, hm3⟩ := made_of_own hown
      go_wp2
      go_ret2
      have hqn : (runBytes r).length = q := by
        have := hm3.len
        rw [List.length_map] at this
        rw [← this, runBytes, Hn.out]
      refine ⟨.inl ⟨runBytes r, A', c', ?_, ?_, ?_⟩, hb⟩
      · rw [Hput.out, if_pos Hok.out]
      · rw [hqn]; rfl
      · rw [hqn, runBytes, Hn.out]
        exact hm3
end Go.Proofs.Ythcoldomeedbnaa
