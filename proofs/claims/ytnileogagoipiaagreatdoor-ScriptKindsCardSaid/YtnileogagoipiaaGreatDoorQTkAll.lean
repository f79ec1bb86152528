/- The walks of the wave's All, the walk's All, live's Last: the transform. Conditions: at most 1000 symbols, below 257. -/
import Derived.Test.YtnileogagoipiaaGreatDoorPkJ
import Derived.Test.YtnileogagoipiaaGreatDoorQFnWalk
import Derived.Test.YtnileogagoipiaaGreatDoorPkP
import Derived.Test.YtnileogagoipiaaGreatDoorPkL
namespace Go.Proofs.YtnileogagoipiaaGreatDoor
open Go.RowKit
set_option linter.unusedVariables false
set_option linter.unusedSimpArgs false
/-- The list's first k places are filled. -/
def fillL (L : List Nat) (n k : Nat) : Array Value := ((L.take k).map sv ++ List.replicate (n - k) (Value.int .i64 0)).toArray
theorem fillL_zero (L : List Nat) (n : Nat) : fillL L n 0 = Array.replicate n (Value.int .i64 0) := by
  unfold fillL
  apply Array.ext'
  simp
theorem fillL_all (L : List Nat) (n : Nat) (h : L.length = n) : fillL L n n = (L.map sv).toArray := by
  unfold fillL
  rw [List.take_of_length_le (by omega), Nat.sub_self]
  simp
theorem fillL_size (L : List Nat) (n k : Nat) (h : L.length = n) (hk : k ≤ n) : (fillL L n k).size = n := by
  unfold fillL
  simp
  omega
theorem fillL_set {L : List Nat} {n k s : Nat} (h : L.length = n) (hs : L[k]? = some s) : (fillL L n k).setIfInBounds k (.int .i64 (s : Int)) = fillL L n (k + 1) := by
  have hk := (List.getElem?_eq_some_iff.1 hs).1
  apply Array.ext'
  unfold fillL
  rw [Array.toList_setIfInBounds, List.take_add_one, hs]
  have e : n - k = (n - (k + 1)) + 1 := by omega
  rw [e, List.replicate_succ]
  have hl : ((L.take k).map sv).length = k := by rw [List.length_map, List.length_take]; omega
  show List.set ((L.take k).map sv ++ (Value.int .i64 0 :: List.replicate (n - (k + 1)) (Value.int .i64 0))) k _ = _
  rw [List.set_append_right _ _ (by omega), hl, Nat.sub_self, List.map_append, List.append_assoc]
  rfl
/-- A block that holds a list is a slice of one's own. -/
theorem made_of_bk {w : World} {B g n : Nat} {e : TypeId} {xs : List Value} (h : Bk w g e xs.toArray) (hB : B ≤ g) (hn : xs.length = n) (hm : n ≤ maxLen) : Made w B e 1 (some ⟨g, 0, none⟩) n n xs := by
  have hown : w.ownsRow B e 1 (.slice (some ⟨g, 0, none⟩) n n) n xs := ⟨by omega, .inr ⟨g, n, xs.toArray, rfl, hB, h, Nat.le_refl _, hm, by simp [hn], by rw [Nat.mul_one, List.take_of_length_le (by simp [hn])]⟩⟩
  exact ⟨hown, Rd.of_own hown, Nat.le_refl _, hm⟩
def WAllPost (w : World) (B : Nat) (L : List Nat) (e : Ending) (w' : World) : Prop := ∃ A c, e = .returned (.slice A L.length c) ∧ Made w' w.heap.size 3 1 A L.length c (L.map sv) ∧ VB B w w'
set_option maxRecDepth 100000 in
set_option maxHeartbeats 2000000 in
theorem WaveAll_any (B gv : Nat) (L : List Nat) (w : World) (h : WaveAt w B gv L) (hL : ∀ x ∈ L, x < 257) (hn : L.length ≤ 1000) :
    Calls Tryz.prog 209 #[.pointer (some ⟨gv, 0, none⟩)] w (WAllPost w B L) := by
  have hwA := h
  obtain ⟨hBg, S, v, hb, hrows⟩ := h
  obtain ⟨n, hnn⟩ : ∃ n, L.length = n := ⟨_, rfl⟩
  rw [hnn] at hb
  have c9 : w.cell? ⟨gv, 9, none⟩ = some (.int .i64 (n : Int)) := (hb.cell 9).trans (wcells_get S n v).2.2.2.2.2.2.2.2.2.1
  have c10 : w.cell? ⟨gv, 10, none⟩ = some (.int .i64 v) := (hb.cell 10).trans (wcells_get S n v).2.2.2.2.2.2.2.2.2.2
  have hlt := hb.lt
  have hmk := run_ints n (by omega)
  have HwA := Lib.hid hwA
  have Hb := Lib.hid hb
  have HL := Lib.hid hL
  have HN := Lib.hid hnn
  have Hn := Lib.hid hn
  rw [hnn] at hn
  clear hwA hb hL hnn hrows
  unfold WAllPost
  go_enter Tryz.func209, Tryz.ntmps209
  go_wp2_with fail
  have hbk0 : Bk (w.alloc (.cells (Array.replicate n (.int .i64 0)) 3)) w.heap.size 3 (fillL L n 0) := by
    rw [fillL_zero]
    exact Bk.new _ _ _
  have hv0 : VB B w (w.alloc (.cells (Array.replicate n (.int .i64 0)) 3)) := (VisK.refl _ _).alloc _
  go_loopw [19] (fun i wr => ∃ k : Nat, k ≤ n ∧ i = .int .i64 (k : Int) ∧ Bk wr w.heap.size 3 (fillL L n k) ∧ VB B w wr) (fun i _ => n - (intOf i).toNat)
  case atStart => exact ⟨0, Nat.zero_le _, rfl, hbk0, hv0⟩
  case round =>
    obtain ⟨k, hk, rfl, hbk, hv⟩ := hrel
    clear hbk0 hv0 hmk c9 c10
    have hsz := hv.1.size
    have Hbk := Lib.hid hbk
    have Hv := Lib.hid hv
    clear hbk hv
    by_cases hlt2 : k < n
    · obtain ⟨s, hs⟩ : ∃ s, L[k]? = some s := ⟨_, List.getElem?_eq_getElem (by rw [HN.out]; exact hlt2)⟩
      have Hs := Lib.hid hs
      clear hs
      go_wp2_with fail
      refine (WaveGet_any B gv L k s wr (HwA.out.vis Hv.out.1) (by rw [HN.out]; exact hlt2) (List.getElem?_eq_some_iff.1 Hs.out).2 HL.out Hn.out).mono ?_
      rintro e w2 ⟨rfl, hv2⟩
      have hbk2 := hv2.1.bk Hbk.out (by decide) (by decide)
      have hv3 := Hv.out.trans hv2
      have hgl := hbk2.lt
      have hfz := hbk2.frozen k
      have hbk3 := hbk2.set k (.int .i64 (s : Int))
      rw [fillL_set HN.out Hs.out] at hbk3
      have hcell : ∃ u, w2.cell? ⟨w.heap.size, k, none⟩ = some u := ⟨_, (hbk2.cell k).trans (Array.getElem?_eq_getElem (by rw [fillL_size L n k HN.out (by omega)]; exact hlt2))⟩
      obtain ⟨u, hu⟩ := hcell
      have hv4 : VB B w (w2.setCell ⟨w.heap.size, k, none⟩ (.int .i64 (s : Int))) := ⟨Vis.fresh hv3.1 (p := ⟨w.heap.size, k, none⟩) (Nat.le_refl _) _, Keep.setCell hv3.2 (p := ⟨w.heap.size, k, none⟩) (.inr (Nat.le_refl _)) _⟩
      have Hbk3 := Lib.hid hbk3
      have Hv4 := Lib.hid hv4
      clear hbk2 hbk3 hv2 hv3 hv4
      go_wp2_with fail
      go_roundw
      case rel => exact ⟨k + 1, by omega, by go_num, Hbk3.out, Hv4.out⟩
      case measure => simp [intOf]; omega
    · obtain rfl : k = n := by omega
      have hbk9 := Hbk.out
      rw [fillL_all L k HN.out] at hbk9
      obtain ⟨v9, hb9⟩ := Hv.out.1.waveC Hb.out
      have c10 : wr.cell? ⟨gv, 10, none⟩ = some (.int .i64 v9) := (hb9.cell 10).trans (wcells_get S k v9).2.2.2.2.2.2.2.2.2.2
      have f10 := hb9.frozen 10
      have hg9 := hb9.lt
      have hv9 := Hv.out.trans (VB.set_wave hb9 hBg v)
      have hne := Bk.ne hbk9 hb9 (by decide)
      have hbk8 := hbk9.far (p := ⟨gv, 10, none⟩) hne (.int .i64 v)
      have hmade := made_of_bk (B := w.heap.size) (n := k) hbk8 (Nat.le_refl _) (by rw [List.length_map]; exact HN.out) (by unfold maxLen; omega)
      have Hm := Lib.hid hmade
      have Hv9 := Lib.hid hv9
      clear hbk9 hb9 hv9 hbk8 hmade hne
      go_wp2_with fail
      go_ret
      exact ⟨_, _, by rw [HN.out]; rfl, by rw [HN.out]; exact Hm.out, Hv9.out⟩
set_option maxRecDepth 100000 in
theorem WalkAll_any (B gk : Nat) (L : List Nat) (w : World) (h : WalkAt w B gk L) (hL : ∀ x ∈ L, x < 257) (hn : L.length ≤ 1000) :
    Calls Tryz.prog 179 #[.pointer (some ⟨gk, 0, none⟩)] w (WAllPost w B L) := by
  obtain ⟨gv, gt, h1, h2, h3⟩ := h
  have c0 := h1.cell 0
  have hall := WaveAll_any B gv L w h2 hL hn
  unfold WAllPost at hall ⊢
  obtain ⟨n, hnn⟩ : ∃ n, L.length = n := ⟨_, rfl⟩
  rw [hnn] at hall ⊢
  clear h1 h2 h3 hnn hn
  go_enter Tryz.func179, Tryz.ntmps179
  go_wp2_with fail
  refine hall.mono ?_
  rintro e w2 ⟨A, c, rfl, hm, hv⟩
  have Hm := Lib.hid hm
  have Hv := Lib.hid hv
  clear hall hm hv
  go_wp2_with fail
  go_ret
  exact ⟨A, c, rfl, Hm.out, Hv.out⟩
set_option maxRecDepth 100000 in
theorem LiveLast_any (Bw gl gk gp ga : Nat) (vl vo vt : Value) (B N rate : Nat) (L : List Nat) (C : List (Nat × Nat)) (tk : List Bool) (w : World) (h : LiveAt w Bw gl gk gp ga vl vo vt B N rate L C tk) (hL : ∀ x ∈ L, x < 257) (hn : L.length ≤ 1000) :
    Calls Tryz.prog 118 #[.pointer (some ⟨gl, 0, none⟩)] w (WAllPost w Bw L) := by
  have c0 := h.blk.cell 0
  have hall := WalkAll_any Bw gk L w h.walk hL hn
  unfold WAllPost at hall ⊢
  obtain ⟨n, hnn⟩ : ∃ n, L.length = n := ⟨_, rfl⟩
  rw [hnn] at hall ⊢
  clear h hnn hn
  go_enter Tryz.func118, Tryz.ntmps118
  go_wp2_with fail
  refine hall.mono ?_
  rintro e w2 ⟨A, c, rfl, hm, hv⟩
  have Hm := Lib.hid hm
  have Hv := Lib.hid hv
  clear hall hm hv
  go_wp2_with fail
  go_ret
  exact ⟨A, c, rfl, Hm.out, Hv.out⟩
end Go.Proofs.YtnileogagoipiaaGreatDoor
