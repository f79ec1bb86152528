/- The walks of scrimshawlaw17.Burst and of scrimshawlaw19.made (no edits). No conditions. -/
import Derived.Test.YtngmnkekhlclpaaGreatDoorSnBurst
import Derived.Test.YtngmnkekhlclpaaGreatDoorPkS
import Derived.Test.YtngmnkekhlclpaaGreatDoorPkI
namespace Go.Proofs.YtngmnkekhlclpaaGreatDoor
open Go.RowKit
set_option linter.unusedVariables false
set_option linter.unusedSimpArgs false
theorem bu_and (p j : Nat) (hp : p < 4294967296) : bits .and .u32 ((p : Int) / 2 ^ j) 1 = if p.testBit j then 1 else 0 := by
  have h1 : ((p : Int) / 2 ^ j) = ((p / 2 ^ j : Nat) : Int) := by push_cast; rfl
  have h2 : p / 2 ^ j < 4294967296 := Nat.lt_of_le_of_lt (Nat.div_le_self _ _) hp
  rw [h1, bits_and_u32 _ h2, Nat.testBit_eq_decide_div_mod_eq]
  rcases Nat.mod_two_eq_zero_or_one (p / 2 ^ j) with h | h <;> rw [h] <;> rfl
theorem bu_row {CS : Array Value} {n q y : Nat} {l : List UInt8} (h : CS.toList.take n = l.map bv) (hy : y < 256) : (CS.setIfInBounds q (.int .u8 (y : Int))).toList.take n = (l.set q (UInt8.ofNat y)).map bv := by
  rw [Array.toList_setIfInBounds, List.take_set, h, List.map_set]
  congr 1
  unfold bv
  rw [UInt8.toNat_ofNat', Nat.mod_eq_of_lt (show y < 2 ^ 8 from hy)]
theorem bu_w64 (k : Nat) (h : k < 9223372036854775808) : wrap64 (k : Int) = (k : Int) := by
  unfold wrap64
  omega
theorem bu_int (k j q d r : Nat) (h : k + j = q) (hd : q / 8 = d) (hr : q % 8 = r) (hq : q < 4611686018427387904) : wrap64 ((k : Int) + (j : Int)) = (q : Int) ∧ wrap64 ((q : Int) / 8) = (d : Int) ∧ (q : Int) % 8 = (r : Int) ∧ r < 8 := by
  have e1 : (k : Int) + (j : Int) = (q : Int) := by omega
  have e2 : (q : Int) / 8 = (d : Int) := by omega
  refine ⟨by rw [e1]; exact bu_w64 q (by omega), by rw [e2]; exact bu_w64 d (by omega), by omega, by omega⟩
theorem bu_pow (y r : Nat) (hy : y < 256) (hr : r < 8) : bits .xor .u8 (y : Int) ((2 : Int) ^ r % 256) = ((y ^^^ 2 ^ r : Nat) : Int) := by
  have h2r : 2 ^ r < 256 := Nat.lt_of_lt_of_le (Nat.pow_lt_pow_right (by omega) hr) (Nat.le_refl _)
  have e : (2 : Int) ^ r % 256 = ((2 ^ r : Nat) : Int) := by
    have h3 : ((2 ^ r : Nat) : Int) = (2 : Int) ^ r := by push_cast; rfl
    rw [← h3]
    exact (show ∀ z : Nat, z < 256 → (z : Int) % 256 = (z : Int) from fun z hz => by omega) _ h2r
  rw [e, bits_xor_u8 y (2 ^ r) hy h2r]
def BurstPost (w : World) (b : List UInt8) (p n : Nat) (e : Ending) (w' : World) : Prop :=
  ∃ A' c' l k, e = .returned (.slice A' n c') ∧ BuAt b l p k 32 ∧ k + 32 ≤ 8 * n ∧ Made w' w.heap.size 5 1 A' n c' (l.map bv) ∧ Below w.heap.size w w'
set_option maxRecDepth 100000 in
set_option maxHeartbeats 1000000 in
theorem Burst_any (A : Option Addr) (n c : Nat) (b : List UInt8) (at_ : Int) (p : Nat) (w : World) (hr : Rd w w.heap.size 1 A n (b.map bv)) (hn : n ≤ 1000000) (h4 : 4 ≤ n) (hp : p < 4294967296) :
    Calls Tryz.prog 15 #[.slice A n c, .int .i64 at_, .int .u32 (p : Int)] w (BurstPost w b p n) := by
  obtain ⟨i0, hi0, hz0, hz1, hz2⟩ := info_parts u8_info
  have hbl : b.length = n := by simpa using hr.1
  have hb0 := Below.refl w.heap.size w
  obtain ⟨M, hM⟩ : ∃ M : Nat, 8 * n = M + 31 := ⟨8 * n - 31, by omega⟩
  have Hr := Lib.hid hr
  have HM := Lib.hid hM
  have Hbl := Lib.hid hbl
  have e1 : IntKind.i64.wrap (8 * (n : Int) - 31) = (M : Int) := by rw [IntKind.wrap_i64]; omega
  have e3 : IntKind.u64.wrap (M : Int) = (M : Int) := by rw [IntKind.wrap_u64]; omega
  obtain ⟨k, hk1, hk2⟩ := umod_ex at_ M (by omega)
  have hkM : k < M := by omega
  have e4 := bu_w64 k (by omega)
  clear hr hM hbl hk2
  go_enter Tryz.func15, Tryz.ntmps15
  go_wp2_with (at_builtin; refine wpList_append_rd _ rfl (.tmp 10) (.tmp 11) _ rfl w.heap.size 5 i0 (.int .u8 0) 1 1 Tryz.underlying23 hi0 hz0 hz1 hz2 rfl (by decide) (.slice (some ⟨w.heap.size, 0, none⟩) 0 0) 0 [] rfl (own_empty w 5 1) w.heap.size A n c (b.map bv) rfl (Hr.out.alloc (Nat.le_refl _) _) (oneCell_bv b) (by unfold maxLen; omega) (by omega) (by simp) ?_; intro v1 w1 hown1 hg1 hat1)
  have hB1 := below_grown (hb0.alloc (Nat.le_refl _) _) (own_empty w 5 1) hg1 (by simp)
  rw [Nat.zero_add, List.nil_append] at hown1
  rcases hown1.2 with ⟨_, h0⟩ | ⟨g, c1, C1, rfl, hg, hbk, hnc, hcm, htk⟩
  · omega
  rw [Nat.mul_one, Nat.mul_one] at htk
  obtain ⟨hz, htk⟩ := htk
  have hbk1 : Bk w1 g 5 C1 := hbk
  clear hg1 hat1 hown1 hbk
  go_loopw [9] (fun i wr => ∃ (j : Nat) (l : List UInt8) (CS : Array Value), j ≤ 32 ∧ i = .int .i64 (j : Int) ∧ BuAt b l p k j ∧ Bk wr g 5 CS ∧ CS.size = C1.size ∧ CS.toList.take n = l.map bv ∧ Below w.heap.size w wr) (fun i _ => 32 - (intOf i).toNat)
  case atStart => exact ⟨0, b, C1, by omega, rfl, BuAt.start b p k, hbk1, rfl, htk, hB1⟩
  case round =>
    obtain ⟨j, l, CS, hj, rfl, hbu, hbk, hcs, htk, hb⟩ := hrel
    have Hbu := Lib.hid hbu
    have Hbk := Lib.hid hbk
    have Htk := Lib.hid htk
    have Hcs := Lib.hid hcs
    clear hbu hcs htk hbk
    by_cases hlt : j < 32
    · have e5 := bu_and p j hp
      cases hpj : p.testBit j
      · rw [hpj, if_neg (by decide)] at e5
        have Hpj := Lib.hid hpj
        clear hpj
        go_wp2_with fail
        go_roundw
        case rel => exact ⟨j + 1, l, CS, by omega, by go_num, Hbu.out.skip Hpj.out, Hbk.out, Hcs.out, Htk.out, hb⟩
        case measure => simp [intOf]; omega
      · rw [hpj, if_pos rfl] at e5
        obtain ⟨q, hq⟩ : ∃ q, k + j = q := ⟨_, rfl⟩
        have hqn : q / 8 < n := by have := HM.out; omega
        obtain ⟨y, hy⟩ : ∃ y, l[q / 8]? = some y := ⟨_, List.getElem?_eq_getElem (by rw [Hbu.out.1, Hbl.out]; exact hqn)⟩
        have hbt := Hbu.out.turn hpj (by rw [hq]; exact hy)
        rw [hq] at hbt
        obtain ⟨d, hd⟩ : ∃ d, q / 8 = d := ⟨_, rfl⟩
        obtain ⟨r, hrr⟩ : ∃ r, q % 8 = r := ⟨_, rfl⟩
        rw [hd] at hqn hy hbt
        rw [hrr] at hbt
        obtain ⟨e6, e7, e8, hr8⟩ := bu_int k j q d r hq hd hrr (by omega)
        have c2 : wr.cell? ⟨g, d, none⟩ = some (.int .u8 ((y.toNat : Nat) : Int)) := by
          rw [Hbk.out.cell d]
          have h1 : (CS.toList.take n)[d]? = some (bv y) := by rw [Htk.out, List.getElem?_map, hy]; rfl
          rw [List.getElem?_take_of_lt hqn] at h1
          simpa [bv] using h1
        have f1 := Hbk.out.frozen d
        have hyl := y.toNat_lt
        have h2r : 2 ^ r < 256 := Nat.lt_of_lt_of_le (Nat.pow_lt_pow_right (by omega) hr8) (Nat.le_refl _)
        have hyx : y.toNat ^^^ 2 ^ r < 256 := Nat.xor_lt_two_pow (n := 8) hyl h2r
        have e9 := bu_pow y.toNat r hyl hr8
        have Hbt := Lib.hid hbt
        have Hyx := Lib.hid hyx
        clear hq hd hrr hy hbt hyx
        have Hpj := Lib.hid hpj
        clear hpj
        go_wp2_with fail
        go_roundw
        case rel => exact ⟨j + 1, _, _, by omega, by go_num, Hbt.out, Hbk.out.set d _, by rw [Array.size_setIfInBounds]; exact Hcs.out, bu_row Htk.out Hyx.out, hb.setCell (p := ⟨g, d, none⟩) hg _⟩
        case measure => simp [intOf]; omega
    · have hj32 : j = 32 := by omega
      subst hj32
      go_wp2_with fail
      go_ret
      have hown : wr.ownsRow w.heap.size 5 1 (.slice (some ⟨g, 0, none⟩) n c1) n (l.map bv) :=
        ⟨by rw [List.length_map, Hbu.out.1, Hbl.out, Nat.mul_one], .inr ⟨g, c1, CS, rfl, hg, Hbk.out, hnc, hcm, by rw [Hcs.out, hz, Nat.mul_one], by rw [Nat.mul_one]; exact Htk.out⟩⟩
      exact ⟨_, c1, l, k, rfl, Hbu.out, by have := HM.out; omega, ⟨hown, Rd.of_own hown, hnc, hcm⟩, hb⟩
end Go.Proofs.YtngmnkekhlclpaaGreatDoor
