/- The walk of num.Put: it lays the numbers' bytes, one behind the other, into new memory. Condition: at most 100000 numbers. -/
import Derived.Test.YthcoldomeedbnaaBase
import Derived.Test.YthcoldomeedbnaaNumPlain
namespace Go.Proofs.Ythcoldomeedbnaa
open Go.RowKit
theorem u8_info : (Try.prog.info? 5).map (fun i => (i.zero, i.size, i.bytes)) = some (some (.int .u8 0), 1, 1) := by kernel_rfl
/-- A number of the kind uint64. -/
def uv (n : Nat) : Value := .int .u64 (n : Int)

theorem or128 (N : Nat) : bits .or .u8 ((N : Int) % 256) 128 = ((N % 128 + 128 : Nat) : Int) := by
  have key : ∀ a : Fin 256, bits .or .u8 ((a.val : Nat) : Int) 128 = ((a.val % 128 + 128 : Nat) : Int) := by decide +kernel
  have := key ⟨N % 256, by omega⟩
  simp only at this
  rw [show ((N : Int) % 256) = ((N % 256 : Nat) : Int) by omega, this]
  omega
theorem and127 (N : Nat) : bits .and .u8 ((N : Int) % 256) 127 = ((N % 128 : Nat) : Int) := by
  have key : ∀ a : Fin 256, bits .and .u8 ((a.val : Nat) : Int) 127 = ((a.val % 128 : Nat) : Int) := by decide +kernel
  have := key ⟨N % 256, by omega⟩
  simp only at this
  rw [show ((N : Int) % 256) = ((N % 256 : Nat) : Int) by omega, this]
  omega
theorem bv_or (n e : Nat) : Value.int .u8 (bits .or .u8 ((n : Int) / 2 ^ e % 256) 128) = bv (UInt8.ofNat (n / 2 ^ e % 128 + 128)) := by
  have : ((n : Int) / 2 ^ e) = ((n / 2 ^ e : Nat) : Int) := by push_cast; rfl
  rw [this, or128]
  unfold bv
  congr 1
  simp [UInt8.toNat_ofNat']
  omega
theorem bv_and (n : Nat) : Value.int .u8 (bits .and .u8 ((n : Int) % 256) 127) = bv (UInt8.ofNat (n % 128)) := by
  rw [and127]
  unfold bv
  congr 1
  simp [UInt8.toNat_ofNat']
  omega

set_option maxRecDepth 100000 in
set_option maxHeartbeats 1000000 in
theorem Put_own (A : Option Addr) (m c : Nat) (l : List Nat) (w : World) (hr : Rd w w.heap.size 1 A m (l.map uv)) (hl : ∀ n ∈ l, n < 18446744073709551616) (hm : m ≤ 100000) :
    Calls Try.prog 24 #[.slice A m c] w fun e w' => ∃ v k, e = .returned v ∧ w'.ownsRow w.heap.size 5 1 v k ((encAll l).map bv) ∧ Below w.heap.size w w' := by
  obtain ⟨i0, hi0, hz0, hz1, hz2⟩ := info_parts u8_info
  have Hr := Lib.hid hr
  have Hl := Lib.hid hl
  have hlen := hr.1
  have Hlen := Lib.hid hlen
  clear hr hl hlen
  go_enter Try.func24, Try.ntmps24
  go_wp2
  go_loopw [3, 9] (fun v i wr => ∃ k q : Nat, k ≤ m ∧ i = .int .i64 k ∧ wr.ownsRow w.heap.size 5 1 v q ((encAll (l.take k)).map bv) ∧ Below w.heap.size w wr) (fun _ i _ => m - (intOf i).toNat)
  case atStart => exact ⟨0, 0, Nat.zero_le _, rfl, World.ownsRow_nil _ _ _ _, Below.refl _ _⟩
  case round =>
    obtain ⟨k, q, hk, rfl, hown, hb⟩ := hrel
    by_cases hlt : k < m
    · have hx : ∃ n, l[k]? = some n := by
        have := Hlen.out
        simp at this
        exact ⟨l[k]'(by omega), List.getElem?_eq_getElem (by omega)⟩
      obtain ⟨n, hn⟩ := hx
      obtain ⟨b, off, u, rfl, hbl, hu, hc⟩ := (Hr.out.below hb).get hlt
      rw [List.getElem?_map, hn] at hu
      simp at hu
      subst hu
      unfold uv at hc
      have hn64 : n < 18446744073709551616 := Hl.out n (List.mem_of_getElem? hn)
      have Hn := Lib.hid hn
      have H64 := Lib.hid hn64
      clear hn hn64
      go_wp2
      go_loop [6] (fun s => ∃ j : Nat, j ≤ 9 ∧ s = .int .i64 (7 * (j : Int)) ∧ (j = 0 ∨ 1 ≤ n / 2 ^ (7 * j))) (fun s => 100 - (intOf s).toNat)
      case atStart => exact ⟨0, by omega, rfl, .inl rfl⟩
      case round =>
        obtain ⟨j, hj, rfl, hge⟩ := hrel
        go_wp2
        · have hbig : (128 : Int) ≤ (n : Int) / 2 ^ (7 * j) := by assumption
          have hbig' : 128 ≤ n / 2 ^ (7 * j) := by exact_mod_cast hbig
          have hj1 := shift_top n j H64.out hj hbig'
          refine ⟨⟨j + 1, hj1, by go_num, .inr (by rw [div7]; omega)⟩, by simp [intOf]; omega⟩
        · have hsm : (n : Int) / 2 ^ (7 * j) < 128 := by assumption
          have hsm' : n / 2 ^ (7 * j) < 128 := by exact_mod_cast hsm
          go_loopw [3, 6] (fun v s wr' => ∃ j' q' : Nat, j' ≤ j ∧ s = .int .i64 (7 * (j' : Int)) ∧ wr'.ownsRow w.heap.size 5 1 v q' ((encAll (l.take k) ++ preB 10 (n / 2 ^ (7 * (j' + 1)))).map bv) ∧ Below w.heap.size w wr') (fun _ s _ => (intOf s).toNat)
          case atStart => exact ⟨j, q, Nat.le_refl _, rfl, by rw [div7, Nat.div_eq_of_lt hsm']; simpa [preB_zero] using hown, hb⟩
          case round =>
            obtain ⟨j', q', hj', rfl, hown', hb'⟩ := hrel
            have hb2 := hb'.size
            have hq : q' ≤ 1100010 := by
              have h1 := hown'.1
              have h2 := encAll_len (l.take k)
              have h3 := preB_len 10 (n / 2 ^ (7 * (j' + 1)))
              simp at h1 h2
              omega
            by_cases h0 : j' = 0
            · subst h0
              go_wp2_with (at_builtin; refine wpList_push _ rfl (.tmp 33) (.tmp 37) _ rfl w.heap.size 5 i0 (.int .u8 0) 1 1 Try.underlying33 hi0 hz0 hz1 hz2 rfl (by decide) u3 q' _ rfl hown' rfl rfl (by simp [Value.oneCell']) (by unfold maxLen; omega) (by omega) hb2 ?_; intro v2 w2 hown2 hg2 hs2 hat2)
              have hb3 := below_grown hb' hown' hg2 hb2
              clear hg2 hat2
              go_roundw
              case rel =>
                refine ⟨k + 1, q' + 1, by omega, by go_num, ?_, hb3⟩
                rw [encAll_snoc l k n Hn.out]
                rw [bv_and] at hown2
                simpa [encB] using hown2
              case measure => simp [intOf]; omega
            · go_wp2_with (at_builtin; refine wpList_push _ rfl (.tmp 24) (.tmp 31) _ rfl w.heap.size 5 i0 (.int .u8 0) 1 1 Try.underlying33 hi0 hz0 hz1 hz2 rfl (by decide) u3 q' _ rfl hown' rfl rfl (by simp [Value.oneCell']) (by unfold maxLen; omega) (by omega) hb2 ?_; intro v2 w2 hown2 hg2 hs2 hat2)
              have hb3 := below_grown hb' hown' hg2 hb2
              refine ⟨⟨j' - 1, q' + 1, by omega, i64_eq (by omega), ?_, hb3⟩, by simp [intOf]; omega⟩
              rw [bv_or] at hown2
              obtain ⟨i, rfl⟩ : ∃ i, j' = i + 1 := ⟨j' - 1, by omega⟩
              rw [Nat.add_sub_cancel, preB_step (n / 2 ^ (7 * (i + 1))), ← div7]
              · simpa using hown2
              · exact mid_pos n i j hj' hge
              · exact Nat.lt_of_lt_of_le (mid_lt n i H64.out) (by decide)
    · have hkm : k = m := by omega
      subst hkm
      go_wp2
      go_ret
      refine ⟨u3, q, rfl, ?_, hb⟩
      have : l.take k = l := List.take_of_length_le (by have := Hlen.out; simp at this; omega)
      rw [this] at hown
      exact hown
theorem Put_any (A : Option Addr) (m c B : Nat) (l : List Nat) (w : World) (hr : Rd w B 1 A m (l.map uv)) (hB : B ≤ w.heap.size) (hl : ∀ n ∈ l, n < 18446744073709551616) (hm : m ≤ 100000) :
    Calls Try.prog 24 #[.slice A m c] w fun e w' => ∃ A' c', e = .returned (.slice A' (encAll l).length c') ∧ Made w' w.heap.size 5 1 A' (encAll l).length c' ((encAll l).map bv) ∧ Below w.heap.size w w' := by
  refine (Put_own A m c l w (hr.mono hB) hl hm).mono fun e w' ⟨v, k, he, ho, hb⟩ => ?_
  have hk : (encAll l).length = k := by simpa using ho.1
  subst hk
  obtain ⟨A', c', rfl, hm⟩ := made_of_own ho
  exact ⟨A', c', he, hm, hb⟩
theorem Put_is (A : Option Addr) (m c B : Nat) (l : List Nat) (w : World) (bs : List UInt8) (k : Nat) (he : encAll l = bs) (hk : bs.length = k) (hr : Rd w B 1 A m (l.map uv)) (hB : B ≤ w.heap.size) (hl : ∀ n ∈ l, n < 18446744073709551616) (hm : m ≤ 100000) :
    Calls Try.prog 24 #[.slice A m c] w fun e w' => ∃ A' c', e = .returned (.slice A' k c') ∧ Made w' w.heap.size 5 1 A' k c' (bs.map bv) ∧ Below w.heap.size w w' := by
  subst he
  subst hk
  exact Put_any A m c B l w hr hB hl hm
end Go.Proofs.Ythcoldomeedbnaa
