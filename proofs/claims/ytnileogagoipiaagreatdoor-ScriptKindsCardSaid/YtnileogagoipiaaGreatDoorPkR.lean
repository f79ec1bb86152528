/- The walk of num.Put: it lays the numbers' bytes, one behind the other, into new memory. Condition: at most 100000 numbers. The walk of num.Get: it returns what the plain function getNB computes, and changes nothing. No conditions. The walks of num.Fixed and num.Of. Fixed lays the four bytes into new memory; Of returns what the plain function ofB computes. No conditions. The walks of run.Of and scrimshawref16.Runs: they lay the runs into new memory. Condition: at most 2^40 symbols. What a whole number takes in memory. No conditions. The walks of sym.Is and run.Put. Condition: at most a million symbols. The walk of run.Get. Condition: the most is at most 2^40. -/
import Derived.Test.YtnileogagoipiaaGreatDoorQBase
import Derived.Test.YtnileogagoipiaaGreatDoorPkQ
import Derived.Laws.StructEq
import Derived.BigQuiet
import Derived.Deep.QuietTactic
namespace Go.Proofs.YtnileogagoipiaaGreatDoor
open Go.RowKit
theorem num_u8_info : (Tryz.prog.info? 5).map (fun i => (i.zero, i.size, i.bytes)) = some (some (.int .u8 0), 1, 1) := by kernel_rfl
/-- A number of the kind uint64. -/
def uv (n : Nat) : Value := .int .u64 (n : Int)

theorem or128 (N : Nat) : bits .or .u8 ((N : Int) % 256) 128 = ((N % 128 + 128 : Nat) : Int) := by
  have key : ∀ a : Fin 256, bits .or .u8 ((a.val : Nat) : Int) 128 = ((a.val % 128 + 128 : Nat) : Int) := by decide +kernel
  have := key ⟨N % 256, by omega⟩
  simp only at this
  rw [show ((N : Int) % 256) = ((N % 256 : Nat) : Int) by omega, this]
  omega
theorem and127 (N : Nat) : bits .and .u8 ((N : Int) % 256) 127 = ((N % 128 : Nat) : Int) := by
  have key : ∀ a : Fin 256, bits .and .u8 ((a.val : Nat) : Int) 127 = ((a.val % 128 : Nat) : Int) := by decide +kernel
  have := key ⟨N % 256, by omega⟩
  simp only at this
  rw [show ((N : Int) % 256) = ((N % 256 : Nat) : Int) by omega, this]
  omega
theorem bv_or (n e : Nat) : Value.int .u8 (bits .or .u8 ((n : Int) / 2 ^ e % 256) 128) = bv (UInt8.ofNat (n / 2 ^ e % 128 + 128)) := by
  have : ((n : Int) / 2 ^ e) = ((n / 2 ^ e : Nat) : Int) := by push_cast; rfl
  rw [this, or128]
  unfold bv
  congr 1
  simp [UInt8.toNat_ofNat']
  omega
theorem bv_and (n : Nat) : Value.int .u8 (bits .and .u8 ((n : Int) % 256) 127) = bv (UInt8.ofNat (n % 128)) := by
  rw [and127]
  unfold bv
  congr 1
  simp [UInt8.toNat_ofNat']
  omega

set_option maxRecDepth 100000 in
set_option maxHeartbeats 1000000 in
theorem Put_own (A : Option Addr) (m c : Nat) (l : List Nat) (w : World) (hr : Rd w w.heap.size 1 A m (l.map uv)) (hl : ∀ n ∈ l, n < 18446744073709551616) (hm : m ≤ 100000) :
    Calls Tryz.prog 120 #[.slice A m c] w fun e w' => ∃ v k, e = .returned v ∧ w'.ownsRow w.heap.size 5 1 v k ((encAll l).map bv) ∧ Below w.heap.size w w' := by
  obtain ⟨i0, hi0, hz0, hz1, hz2⟩ := info_parts num_u8_info
  have Hr := Lib.hid hr
  have Hl := Lib.hid hl
  have hlen := hr.1
  have Hlen := Lib.hid hlen
  clear hr hl hlen
  go_enter Tryz.func120, Tryz.ntmps120
  go_wp2
  go_loopw [3, 9] (fun v i wr => ∃ k q : Nat, k ≤ m ∧ i = .int .i64 k ∧ wr.ownsRow w.heap.size 5 1 v q ((encAll (l.take k)).map bv) ∧ Below w.heap.size w wr) (fun _ i _ => m - (intOf i).toNat)
  case atStart => exact ⟨0, 0, Nat.zero_le _, rfl, World.ownsRow_nil _ _ _ _, Below.refl _ _⟩
  case round =>
    obtain ⟨k, q, hk, rfl, hown, hb⟩ := hrel
    by_cases hlt : k < m
    · have hx : ∃ n, l[k]? = some n := by
        have := Hlen.out
        simp at this
        exact ⟨l[k]'(by omega), List.getElem?_eq_getElem (by omega)⟩
      obtain ⟨n, hn⟩ := hx
      obtain ⟨b, off, u, rfl, hbl, hu, hc⟩ := (Hr.out.below hb).get hlt
      rw [List.getElem?_map, hn] at hu
      simp at hu
      subst hu
      unfold uv at hc
      have hn64 : n < 18446744073709551616 := Hl.out n (List.mem_of_getElem? hn)
      have Hn := Lib.hid hn
      have H64 := Lib.hid hn64
      clear hn hn64
      go_wp2
      go_loop [6] (fun s => ∃ j : Nat, j ≤ 9 ∧ s = .int .i64 (7 * (j : Int)) ∧ (j = 0 ∨ 1 ≤ n / 2 ^ (7 * j))) (fun s => 100 - (intOf s).toNat)
      case atStart => exact ⟨0, by omega, rfl, .inl rfl⟩
      case round =>
        obtain ⟨j, hj, rfl, hge⟩ := hrel
        go_wp2
        · have hbig : (128 : Int) ≤ (n : Int) / 2 ^ (7 * j) := by assumption
          have hbig' : 128 ≤ n / 2 ^ (7 * j) := by exact_mod_cast hbig
          have hj1 := shift_top n j H64.out hj hbig'
          refine ⟨⟨j + 1, hj1, by go_num, .inr (by rw [div7]; omega)⟩, by simp [intOf]; omega⟩
        · have hsm : (n : Int) / 2 ^ (7 * j) < 128 := by assumption
          have hsm' : n / 2 ^ (7 * j) < 128 := by exact_mod_cast hsm
          go_loopw [3, 6] (fun v s wr' => ∃ j' q' : Nat, j' ≤ j ∧ s = .int .i64 (7 * (j' : Int)) ∧ wr'.ownsRow w.heap.size 5 1 v q' ((encAll (l.take k) ++ preB 10 (n / 2 ^ (7 * (j' + 1)))).map bv) ∧ Below w.heap.size w wr') (fun _ s _ => (intOf s).toNat)
          case atStart => exact ⟨j, q, Nat.le_refl _, rfl, by rw [div7, Nat.div_eq_of_lt hsm']; simpa [preB_zero] using hown, hb⟩
          case round =>
            obtain ⟨j', q', hj', rfl, hown', hb'⟩ := hrel
            have hb2 := hb'.size
            have hq : q' ≤ 1100010 := by
              have h1 := hown'.1
              have h2 := encAll_len (l.take k)
              have h3 := preB_len 10 (n / 2 ^ (7 * (j' + 1)))
              simp at h1 h2
              omega
            by_cases h0 : j' = 0
            · subst h0
              go_wp2_with (at_builtin; refine wpList_push _ rfl (.tmp 33) (.tmp 37) _ rfl w.heap.size 5 i0 (.int .u8 0) 1 1 Tryz.underlying22 hi0 hz0 hz1 hz2 rfl (by decide) u3 q' _ rfl hown' rfl rfl (by simp [Value.oneCell']) (by unfold maxLen; omega) (by omega) hb2 ?_; intro v2 w2 hown2 hg2 hs2 hat2)
              have hb3 := below_grown hb' hown' hg2 hb2
              clear hg2 hat2
              go_roundw
              case rel =>
                refine ⟨k + 1, q' + 1, by omega, by go_num, ?_, hb3⟩
                rw [encAll_snoc l k n Hn.out]
                rw [bv_and] at hown2
                simpa [encB] using hown2
              case measure => simp [intOf]; omega
            · go_wp2_with (at_builtin; refine wpList_push _ rfl (.tmp 24) (.tmp 31) _ rfl w.heap.size 5 i0 (.int .u8 0) 1 1 Tryz.underlying22 hi0 hz0 hz1 hz2 rfl (by decide) u3 q' _ rfl hown' rfl rfl (by simp [Value.oneCell']) (by unfold maxLen; omega) (by omega) hb2 ?_; intro v2 w2 hown2 hg2 hs2 hat2)
              have hb3 := below_grown hb' hown' hg2 hb2
              refine ⟨⟨j' - 1, q' + 1, by omega, i64_eq (by omega), ?_, hb3⟩, by simp [intOf]; omega⟩
              rw [bv_or] at hown2
              obtain ⟨i, rfl⟩ : ∃ i, j' = i + 1 := ⟨j' - 1, by omega⟩
              rw [Nat.add_sub_cancel, preB_step (n / 2 ^ (7 * (i + 1))), ← div7]
              · simpa using hown2
              · exact mid_pos n i j hj' hge
              · exact Nat.lt_of_lt_of_le (mid_lt n i H64.out) (by decide)
    · have hkm : k = m := by omega
      subst hkm
      go_wp2
      go_ret
      refine ⟨u3, q, rfl, ?_, hb⟩
      have : l.take k = l := List.take_of_length_le (by have := Hlen.out; simp at this; omega)
      rw [this] at hown
      exact hown
theorem Put_any (A : Option Addr) (m c B : Nat) (l : List Nat) (w : World) (hr : Rd w B 1 A m (l.map uv)) (hB : B ≤ w.heap.size) (hl : ∀ n ∈ l, n < 18446744073709551616) (hm : m ≤ 100000) :
    Calls Tryz.prog 120 #[.slice A m c] w fun e w' => ∃ A' c', e = .returned (.slice A' (encAll l).length c') ∧ Made w' w.heap.size 5 1 A' (encAll l).length c' ((encAll l).map bv) ∧ Below w.heap.size w w' := by
  refine (Put_own A m c l w (hr.mono hB) hl hm).mono fun e w' ⟨v, k, he, ho, hb⟩ => ?_
  have hk : (encAll l).length = k := by simpa using ho.1
  subst hk
  obtain ⟨A', c', rfl, hm⟩ := made_of_own ho
  exact ⟨A', c', he, hm, hb⟩
theorem Put_is (A : Option Addr) (m c B : Nat) (l : List Nat) (w : World) (bs : List UInt8) (k : Nat) (he : encAll l = bs) (hk : bs.length = k) (hr : Rd w B 1 A m (l.map uv)) (hB : B ≤ w.heap.size) (hl : ∀ n ∈ l, n < 18446744073709551616) (hm : m ≤ 100000) :
    Calls Tryz.prog 120 #[.slice A m c] w fun e w' => ∃ A' c', e = .returned (.slice A' k c') ∧ Made w' w.heap.size 5 1 A' k c' (bs.map bv) ∧ Below w.heap.size w w' := by
  subst he
  subst hk
  exact Put_any A m c B l w hr hB hl hm
end Go.Proofs.YtnileogagoipiaaGreatDoor
namespace Go.Proofs.YtnileogagoipiaaGreatDoor
open Go.RowKit

theorem size_u8 (w : World) : (sizeOf 5).run Tryz.prog w = .ok 1 w := by kernel_rfl
theorem acc_step (acc x : Nat) (h : acc ≤ 144115188075855871) (hx : x < 256) : bits .or .u64 ((acc : Int) * 128) (IntKind.u64.wrap (bits .and .u8 (x : Int) 127)) = ((acc * 128 + x % 128 : Nat) : Int) := by
  have h1 : bits .and .u8 (x : Int) 127 = ((x % 128 : Nat) : Int) := by
    have := u8_and_nat x 127 hx (by omega)
    rw [nat_mask7] at this
    exact this
  have h2 : IntKind.u64.wrap ((x % 128 : Nat) : Int) = ((x % 128 : Nat) : Int) := by
    rw [IntKind.wrap_u64]
    omega
  rw [h1, h2, show ((acc : Int) * 128) = ((acc * 128 : Nat) : Int) by push_cast; rfl, u64_or_nat _ _ (by omega) (by omega), nat_join 7 (acc * 128) (x % 128) (by omega) (by omega)]
theorem ret_get {a : Nat} {b c : Int} {r : Nat × Int × Int} (h : r = (a, b, c)) : Ending.returned (.tuple #[.int .u64 (a : Int), .int .i64 b, .int .i64 c]) = Ending.returned (.tuple #[uv r.1, iv r.2.1, iv r.2.2]) := by subst h; rfl

theorem ret_get' {a : Nat} {v b b' c : Int} {r : Nat × Int × Int} (hv : v = (a : Int)) (hb : b' = b) (h : r = (a, b, c)) : Ending.returned (.tuple #[.int .u64 v, .int .i64 b', .int .i64 c]) = Ending.returned (.tuple #[uv r.1, iv r.2.1, iv r.2.2]) := by subst h; subst hv; subst hb; rfl
set_option maxRecDepth 100000 in
set_option maxHeartbeats 1000000 in
theorem Get_any (A : Option Addr) (m c : Nat) (l : List UInt8) (at_ : Int) (B : Nat) (w : World) (hr : Rd w B 1 A m (l.map bv)) (hmc : m ≤ c) (hcl : c ≤ maxLen) :
    Calls Tryz.prog 181 #[.slice A m c, .int .i64 at_] w fun e w' => e = .returned (.tuple #[uv (getNB l at_).1, iv (getNB l at_).2.1, iv (getNB l at_).2.2]) ∧ w = w' := by
  unfold maxLen at hcl
  have hlen : l.length = m := by simpa using hr.1
  have Hlen := Lib.hid hlen
  have Hr := Lib.hid hr
  clear hlen hr
  by_cases hlo : at_ < 0
  · have hfin : getNB l at_ = (0, at_, 2) := by rw [getNB, if_pos (.inl hlo)]
    have Hfin := Lib.hid hfin
    clear hfin
    go_enter Tryz.func181, Tryz.ntmps181
    go_wp2
    go_ret3
    exact ⟨ret_get Hfin.out, rfl⟩
  by_cases hhi : (m : Int) < at_
  · have hfin : getNB l at_ = (0, at_, 2) := by rw [getNB, if_pos (.inr (by rw [Hlen.out]; exact hhi))]
    have Hfin := Lib.hid hfin
    clear hfin
    go_enter Tryz.func181, Tryz.ntmps181
    go_wp2
    go_ret3
    exact ⟨ret_get Hfin.out, rfl⟩
  obtain ⟨k, rfl⟩ := Int.eq_ofNat_of_zero_le (Int.not_lt.1 hlo)
  have hkm : k ≤ m := by omega
  have hfin : getNB l (k : Int) = match getGo (l.drop k) true 0 k with | some (n, p) => (n, (p : Int), 0) | none => (0, (k : Int), 4) := by
    rw [getNB, if_neg (by rw [Hlen.out]; omega)]; rfl
  have Hfin := Lib.hid hfin
  have hc0 := Hr.out.cut (k := k) (cap := c) hkm hmc
  have hcut := run_cut_lo (P := Tryz.prog) 22 5 1 Tryz.underlying22 size_u8 A m c k hkm
  generalize cutA A c k 1 = A' at hc0 hcut
  have Hc := Lib.hid hc0
  have hd1 : decide ((k : Int) < 0) = false := by simp
  have hd2 : decide (m < k) = false := by simp; omega
  clear hfin hlo hc0 hhi
  go_enter Tryz.func181, Tryz.ntmps181
  go_wp2
  go_loop [7, 23] (fun n i => ∃ j acc : Nat, j ≤ m - k ∧ i = .int .i64 j ∧ n = .int .u64 acc ∧ getGo (l.drop (k + j)) (j == 0) acc (k + j) = getGo (l.drop k) true 0 k) (fun _ i => m - (intOf i).toNat)
  case atStart => exact ⟨0, 0, Nat.zero_le _, rfl, rfl, rfl⟩
  case round =>
    obtain ⟨j, acc, hj, rfl, rfl, hg⟩ := hrel
    have Hg := Lib.hid hg
    clear hg
    by_cases hlt : j < m - k
    · obtain ⟨b, off, u, rfl, hbl, hu, hc⟩ := Hc.out.get hlt
      have hx : ∃ x, l[k + j]? = some x := ⟨l[k + j]'(by have := Hlen.out; omega), List.getElem?_eq_getElem (by have := Hlen.out; omega)⟩
      obtain ⟨x, hx⟩ := hx
      simp only [Nat.mul_one, List.getElem?_drop, List.getElem?_map, hx, Option.map_some, Option.some.injEq] at hu
      subst hu
      unfold bv at hc
      have hdr : l.drop (k + j) = x :: l.drop (k + j + 1) := by
        have hl : k + j < l.length := by have := Hlen.out; omega
        rw [List.drop_eq_getElem_cons hl]
        have : l[k + j] = x := (List.getElem?_eq_some_iff.1 hx).2
        rw [this]
      have hx256 : x.toNat < 256 := x.toNat_lt
      rw [hdr, getGo_cons] at Hg
      clear hx hdr
      go_wp2
      · have h0 : (x.toNat : Int) = 128 := by assumption
        have hj0 : j = 0 := by assumption
        go_ret3
        refine ⟨ret_get ?_, rfl⟩
        rw [Hfin.out, ← Hg.out, if_pos (by simp; left; omega)]
      · have hj0 : j = 0 := by assumption
        have h1 : ((x.toNat : Int) == 128) = true ∨ (144115188075855871 : Int) < (acc : Int) := by assumption
        go_ret3
        refine ⟨ret_get ?_, rfl⟩
        rw [Hfin.out, ← Hg.out, if_pos (by simp at h1 ⊢; omega)]
      · have hj0 : j = 0 := by assumption
        have h1 : ¬ (x.toNat : Int) = 128 := by assumption
        have h2 : ((x.toNat : Int) == 128) = false ∧ (acc : Int) ≤ 144115188075855871 := by assumption
        have h3 : (x.toNat : Int) < 128 := by assumption
        subst hj0
        go_ret3
        refine ⟨ret_get' (acc_step acc _ (by omega) hx256) ?_ (b := ((k + 0 + 1 : Nat) : Int)) ?_, rfl⟩
        · push_cast; rfl
        · rw [Hfin.out, ← Hg.out, if_neg (by simp; omega), if_pos (by omega)]
      · have hj0 : j = 0 := by assumption
        have h1 : ¬ (x.toNat : Int) = 128 := by assumption
        have h2 : ((x.toNat : Int) == 128) = false ∧ (acc : Int) ≤ 144115188075855871 := by assumption
        have h3 : (128 : Int) ≤ (x.toNat : Int) := by assumption
        subst hj0
        refine ⟨⟨0 + 1, acc * 128 + x.toNat % 128, by omega, rfl, int_eq (acc_step acc _ (by omega) hx256), ?_⟩, by simp [intOf]; omega⟩
        rw [← Hg.out, if_neg (by simp; omega), if_neg (by omega)]
        rfl
      · have hj0 : ¬ j = 0 := by assumption
        have h1 : (144115188075855871 : Int) < (acc : Int) := by assumption
        go_ret3
        refine ⟨ret_get ?_, rfl⟩
        rw [Hfin.out, ← Hg.out, if_pos (by simp; omega)]
      · have hj0 : ¬ j = 0 := by assumption
        have h2 : (acc : Int) ≤ 144115188075855871 := by assumption
        have h3 : (x.toNat : Int) < 128 := by assumption
        go_ret3
        refine ⟨ret_get' (acc_step acc _ (by omega) hx256) ?_ (b := ((k + j + 1 : Nat) : Int)) ?_, rfl⟩
        · push_cast; rfl
        · rw [Hfin.out, ← Hg.out, if_neg (by simp; omega), if_pos (by omega)]
      · have hj0 : ¬ j = 0 := by assumption
        have h2 : (acc : Int) ≤ 144115188075855871 := by assumption
        have h3 : (128 : Int) ≤ (x.toNat : Int) := by assumption
        refine ⟨⟨j + 1, acc * 128 + x.toNat % 128, by omega, by go_num, int_eq (acc_step acc _ (by omega) hx256), ?_⟩, by simp [intOf]; omega⟩
        rw [← Hg.out, if_neg (by simp; omega), if_neg (by omega)]
        rfl
    · have hjm : j = m - k := by omega
      have Hj := Lib.hid hjm
      clear hjm
      go_wp2
      go_ret3
      refine ⟨ret_get ?_, rfl⟩
      have hd : l.drop (k + j) = [] := List.drop_eq_nil_of_le (by rw [Hlen.out]; have := Hj.out; omega)
      rw [Hfin.out, ← Hg.out, hd, getGo]
theorem Get_is (A : Option Addr) (m c : Nat) (l : List UInt8) (at_ : Int) (B : Nat) (w : World) (n : Nat) (p k : Int) (h : getNB l at_ = (n, p, k)) (hr : Rd w B 1 A m (l.map bv)) (hmc : m ≤ c) (hcl : c ≤ maxLen) :
    Calls Tryz.prog 181 #[.slice A m c, .int .i64 at_] w fun e w' => e = .returned (.tuple #[.int .u64 (n : Int), .int .i64 p, .int .i64 k]) ∧ w = w' :=
  (Get_any A m c l at_ B w hr hmc hcl).mono fun e w' ⟨he, hw⟩ => ⟨by rw [he, h]; rfl, hw⟩
end Go.Proofs.YtnileogagoipiaaGreatDoor
namespace Go.Proofs.YtnileogagoipiaaGreatDoor
open Go.RowKit
set_option linter.unusedVariables false

theorem join_byte (acc x k : Nat) (h : acc < 256 ^ k) (hx : x < 256) (hk : k < 4) : bits .or .u32 (acc : Int) ((x : Int) * 2 ^ (8 * k) % 4294967296) = ((acc + x * 256 ^ k : Nat) : Int) := by
  have e : (256 : Nat) ^ k = 2 ^ (8 * k) := by rw [Nat.pow_mul]
  have hp : x * 256 ^ k < 4294967296 := by
    have h1 : x * 256 ^ k ≤ 255 * 256 ^ k := Nat.mul_le_mul_right _ (by omega)
    have h2 : 256 ^ k ≤ 256 ^ 3 := Nat.pow_le_pow_right (by omega) (by omega)
    omega
  have hacc : acc < 4294967296 := by
    have h2 : 256 ^ k ≤ 256 ^ 3 := Nat.pow_le_pow_right (by omega) (by omega)
    omega
  have e2 : ((x : Int) * 2 ^ (8 * k) % 4294967296) = ((x * 256 ^ k : Nat) : Int) := by
    rw [e] at hp ⊢
    have : (x : Int) * 2 ^ (8 * k) = ((x * 2 ^ (8 * k) : Nat) : Int) := by push_cast; rfl
    rw [this]
    omega
  rw [e2, u32_or_nat _ _ hacc hp, Nat.or_comm, nat_join (8 * k) (x * 256 ^ k) acc (by rw [e]; exact Nat.mul_mod_left _ _) (by rw [← e]; exact h), Nat.add_comm]
set_option maxRecDepth 100000 in
set_option maxHeartbeats 1000000 in
theorem Fixed_own (n : Nat) (w : World) :
    Calls Tryz.prog 122 #[.int .u32 (n : Int)] w fun e w' => ∃ v, e = .returned v ∧ w'.ownsRow w.heap.size 5 1 v 4 ((fixB n).map bv) ∧ Below w.heap.size w w' := by
  obtain ⟨i0, hi0, hz0, hz1, hz2⟩ := info_parts num_u8_info
  go_enter Tryz.func122, Tryz.ntmps122
  go_wp2
  go_loopw [0, 3, 4] (fun x v i wr => ∃ k : Nat, k ≤ 4 ∧ i = .int .i64 k ∧ x = .int .u32 ((n / 256 ^ k : Nat) : Int) ∧ wr.ownsRow w.heap.size 5 1 v k ((fixN k n).map bv) ∧ Below w.heap.size w wr) (fun _ _ i _ => 4 - (intOf i).toNat)
  case atStart => exact ⟨0, Nat.zero_le _, rfl, by simp, World.ownsRow_nil _ _ _ _, Below.refl _ _⟩
  case round =>
    obtain ⟨k, hk, rfl, rfl, hown, hb⟩ := hrel
    have hb2 := hb.size
    by_cases hlt : k < 4
    · generalize hm : n / 256 ^ k = m
      have Hm := Lib.hid hm
      clear hm
      go_wp2_with (at_builtin; refine wpList_push _ rfl (.tmp 6) (.tmp 9) _ rfl w.heap.size 5 i0 (.int .u8 0) 1 1 Tryz.underlying22 hi0 hz0 hz1 hz2 rfl (by decide) u3 k _ rfl hown rfl rfl (by simp [Value.oneCell']) (by unfold maxLen; omega) (by omega) hb2 ?_; intro v2 w2 hown2 hg2 hs2 hat2)
      have hb3 := below_grown hb hown hg2 hb2
      refine ⟨⟨k + 1, by omega, by go_num, int_eq ?_, ?_, hb3⟩, by simp [intOf]; omega⟩
      · rw [Nat.pow_succ, ← Nat.div_div_eq_div_mul, Hm.out]
        push_cast
        rfl
      · have hv : Value.int .u8 ((m : Int) % 256) = bv (UInt8.ofNat (m % 256)) := by
          unfold bv
          congr 1
          simp [UInt8.toNat_ofNat']
        rw [hv] at hown2
        rw [fixN, Hm.out]
        simpa using hown2
    · have h4 : k = 4 := by omega
      subst h4
      go_wp2
      go_ret
      exact ⟨u3, rfl, hown, hb⟩

theorem Fixed_any (n : Nat) (w : World) :
    Calls Tryz.prog 122 #[.int .u32 (n : Int)] w fun e w' => ∃ A' c', e = .returned (.slice A' 4 c') ∧ Made w' w.heap.size 5 1 A' 4 c' ((fixB n).map bv) ∧ Below w.heap.size w w' := by
  refine (Fixed_own n w).mono fun e w' ⟨v, he, ho, hb⟩ => ?_
  obtain ⟨A', c', rfl, hm⟩ := made_of_own ho
  exact ⟨A', c', he, hm, hb⟩
theorem Fixed_is (n : Nat) (w : World) (bs : List UInt8) (h : fixB n = bs) :
    Calls Tryz.prog 122 #[.int .u32 (n : Int)] w fun e w' => ∃ A' c', e = .returned (.slice A' 4 c') ∧ Made w' w.heap.size 5 1 A' 4 c' (bs.map bv) ∧ Below w.heap.size w w' := by
  subst h
  exact Fixed_any n w
theorem ret_of {a : Nat} {v b : Int} {r : Nat × Int} (hv : v = (a : Int)) (h : r = (a, b)) : Ending.returned (.tuple #[.int .u32 v, .int .i64 b]) = Ending.returned (.tuple #[.int .u32 (r.1 : Int), iv r.2]) := by subst h; subst hv; rfl

set_option maxHeartbeats 1000000 in
theorem Of_any (A : Option Addr) (m c : Nat) (l : List UInt8) (at_ : Int) (B : Nat) (w : World) (hr : Rd w B 1 A m (l.map bv)) (hcl : m ≤ maxLen) :
    Calls Tryz.prog 124 #[.slice A m c, .int .i64 at_] w fun e w' => e = .returned (.tuple #[.int .u32 ((ofB l at_).1 : Int), iv (ofB l at_).2]) ∧ w = w' := by
  unfold maxLen at hcl
  have hlen : l.length = m := by simpa using hr.1
  have Hlen := Lib.hid hlen
  have Hr := Lib.hid hr
  clear hlen hr
  by_cases hlo : at_ < 0
  · have hfin : ofB l at_ = (0, 2) := by rw [ofB, if_pos (.inl hlo)]
    have Hfin := Lib.hid hfin
    clear hfin
    go_enter Tryz.func124, Tryz.ntmps124
    go_wp2
    go_ret2
    exact ⟨ret_of rfl Hfin.out, rfl⟩
  by_cases hhi : (m : Int) < at_
  · have hfin : ofB l at_ = (0, 2) := by rw [ofB, if_pos (.inr (by rw [Hlen.out]; exact hhi))]
    have Hfin := Lib.hid hfin
    clear hfin
    go_enter Tryz.func124, Tryz.ntmps124
    go_wp2
    go_ret2
    exact ⟨ret_of rfl Hfin.out, rfl⟩
  by_cases hsh : (m : Int) - at_ < 4
  · have hfin : ofB l at_ = (0, 4) := by rw [ofB, if_neg (by rw [Hlen.out]; omega), if_pos (by rw [Hlen.out]; omega)]
    have Hfin := Lib.hid hfin
    clear hfin
    go_enter Tryz.func124, Tryz.ntmps124
    go_wp2
    go_ret2
    exact ⟨ret_of rfl Hfin.out, rfl⟩
  obtain ⟨a, rfl⟩ := Int.eq_ofNat_of_zero_le (Int.not_lt.1 hlo)
  have hfin : ofB l (a : Int) = (ofN l a 4, 0) := by rw [ofB, if_neg (by rw [Hlen.out]; omega), if_neg (by rw [Hlen.out]; omega)]; rfl
  have Hfin := Lib.hid hfin
  have ham : a + 4 ≤ m := by omega
  have hd1 : decide ((a : Int) < 0) = false := by simp
  have hd2 : decide (m < a) = false := by simp; omega
  have hd3 : decide ((m : Int) - (a : Int) < 4) = false := by simp; omega
  clear hfin hlo hhi hsh
  go_enter Tryz.func124, Tryz.ntmps124
  go_wp2
  go_loop [6, 23] (fun n i => ∃ k : Nat, k ≤ 4 ∧ i = .int .i64 k ∧ n = .int .u32 (ofN l a k : Int)) (fun _ i => 4 - (intOf i).toNat)
  case atStart => exact ⟨0, Nat.zero_le _, rfl, rfl⟩
  case round =>
    obtain ⟨k, hk, rfl, rfl⟩ := hrel
    by_cases hlt : k < 4
    · obtain ⟨b, off, u, rfl, hbl, hu, hc⟩ := Hr.out.get (k := a + k) (by omega)
      have hx : ∃ x, l[a + k]? = some x := ⟨l[a + k]'(by have := Hlen.out; omega), List.getElem?_eq_getElem (by have := Hlen.out; omega)⟩
      obtain ⟨x, hx⟩ := hx
      simp only [List.getElem?_map, hx, Option.map_some, Option.some.injEq] at hu
      subst hu
      unfold bv at hc
      have hs : ofN l a (k + 1) = ofN l a k + x.toNat * 256 ^ k := by rw [ofN, hx]; rfl
      have hlt2 := ofN_lt l a k
      have Hs := Lib.hid hs
      have Hlt2 := Lib.hid hlt2
      generalize ofN l a k = acc at *
      have hx256 : x.toNat < 256 := x.toNat_lt
      clear hx hs hlt2
      go_wp2
      refine ⟨⟨k + 1, by omega, by go_num, int_eq ?_⟩, by simp [intOf]; omega⟩
      rw [Hs.out]
      exact join_byte acc x.toNat k Hlt2.out hx256 hlt
    · have h4 : k = 4 := by omega
      subst h4
      go_wp2
      go_ret2
      exact ⟨ret_of rfl Hfin.out, rfl⟩
theorem Of_is (A : Option Addr) (m c : Nat) (l : List UInt8) (at_ : Int) (B : Nat) (w : World) (n : Nat) (k : Int) (h : ofB l at_ = (n, k)) (hr : Rd w B 1 A m (l.map bv)) (hcl : m ≤ maxLen) :
    Calls Tryz.prog 124 #[.slice A m c, .int .i64 at_] w fun e w' => e = .returned (.tuple #[.int .u32 (n : Int), .int .i64 k]) ∧ w = w' :=
  (Of_any A m c l at_ B w hr hcl).mono fun e w' ⟨he, hw⟩ => ⟨by rw [he, h]; rfl, hw⟩
end Go.Proofs.YtnileogagoipiaaGreatDoor
namespace Go.Proofs.YtnileogagoipiaaGreatDoor
open Go.RowKit
set_option linter.unusedVariables false
/-- A run's two cells. -/
def runCell (x : Int × Nat) : List Value := [iv x.1, iv (x.2 : Int)]
def runCells (r : List (Int × Nat)) : List Value := r.flatMap runCell
theorem runCells_len (r : List (Int × Nat)) : (runCells r).length = r.length * 2 := by
  induction r with
  | nil => rfl
  | cons a r ih =>
    have e : runCells (a :: r) = runCell a ++ runCells r := by simp [runCells]
    rw [e, List.length_append, ih, List.length_cons]
    simp [runCell]; omega
theorem runCells_append (a b : List (Int × Nat)) : runCells (a ++ b) = runCells a ++ runCells b := by simp [runCells, List.flatMap_append]
theorem runCells_get (r : List (Int × Nat)) (i j : Nat) (x : Int × Nat) (h : r[i]? = some x) (hj : j < 2) : (runCells r)[i * 2 + j]? = (runCell x)[j]? := by
  induction r generalizing i with
  | nil => simp at h
  | cons a r ih =>
    have e : runCells (a :: r) = runCell a ++ runCells r := by simp [runCells]
    have hl : (runCell a).length = 2 := rfl
    rcases i with _ | i
    · simp at h
      subst h
      rw [e, Nat.zero_mul, Nat.zero_add, List.getElem?_append_left (by omega)]
    · simp only [List.getElem?_cons_succ] at h
      rw [e, List.getElem?_append_right (by omega), hl, show (i + 1) * 2 + j - 2 = i * 2 + j by omega]
      exact ih i h
theorem run_info : (Tryz.prog.info? 204).map (fun i => (i.zero, i.size, i.bytes)) = some (some (.agg #[.int .i64 0, .int .i64 0]), 2, 16) := by kernel_rfl

set_option maxRecDepth 100000 in
set_option maxHeartbeats 2000000 in
theorem Of_own (A : Option Addr) (m c B : Nat) (l : List Int) (w : World) (hr : Rd w B 1 A m (l.map iv)) (hB : B ≤ w.heap.size) (hm : m ≤ 1099511627776) :
    Calls Tryz.prog 178 #[.slice A m c] w fun e w' => ∃ v, e = .returned v ∧ w'.ownsRow w.heap.size 204 2 v (runsOf l).length (runCells (runsOf l)) ∧ Below w.heap.size w w' := by
  obtain ⟨i0, hi0, hz0, hz1, hz2⟩ := info_parts run_info
  have hll : l.length = m := by simpa using hr.1
  have Hll := Lib.hid hll
  have Hr := Lib.hid (hr.mono hB)
  clear hr hll
  go_enter Tryz.func178, Tryz.ntmps178
  go_wp2
  go_loopw [3, 9] (fun v i wr => ∃ k : Nat, k ≤ m ∧ i = .int .i64 k ∧ wr.ownsRow w.heap.size 204 2 v (runsOf (l.take k)).length (runCells (runsOf (l.take k))) ∧ Below w.heap.size w wr) (fun _ i _ => m - (intOf i).toNat)
  case atStart => exact ⟨0, Nat.zero_le _, rfl, World.ownsRow_nil _ _ _ _, Below.refl _ _⟩
  case round =>
    obtain ⟨k, hk, rfl, hown, hb⟩ := hrel
    have hsz := hb.size
    by_cases hlt : k < m
    · obtain ⟨s, hs⟩ : ∃ s, l[k]? = some s := ⟨l[k]'(by have := Hll.out; omega), List.getElem?_eq_getElem (by have := Hll.out; omega)⟩
      obtain ⟨b, off, u, rfl, hbl, hu, hc⟩ := (Hr.out.below hb).get hlt
      rw [List.getElem?_map, hs] at hu
      simp at hu
      subst hu
      unfold iv at hc
      have hnext := runsOf_snoc l k s hs
      have hlen := runsOf_len (l.take k)
      rw [List.length_take] at hlen
      have hcnt : ∀ x ∈ runsOf (l.take k), x.2 ≤ m := fun x hx => by have := runsOf_mem _ x hx; rw [List.length_take] at this; omega
      generalize runsOf (l.take k) = r at *
      have Hnext := Lib.hid hnext
      clear hnext hs
      rcases List.eq_nil_or_concat r with rfl | ⟨q, ⟨x, n⟩, rfl⟩
      · obtain ⟨A', c', rfl, hm3⟩ := made_of_own hown
        have hlen0 : ([] : List (Int × Nat)).length = 0 := rfl
        rw [hlen0] at *
        clear hm3 hcnt
        go_wp2_with (at_builtin; refine wpList_push _ rfl (.tmp 36) (.tmp 39) _ rfl w.heap.size 204 i0 _ 2 16 Tryz.underlying201 hi0 hz0 hz1 hz2 rfl (by decide) (.slice A' 0 c') 0 _ rfl hown rfl rfl (by simp [Value.oneCell']) (by unfold maxLen; omega) (by omega) hsz ?_; intro v2 w2 hown2 hg2 hs2 hat2)
        have hb2 := below_grown hb hown hg2 hsz
        clear hg2 hat2
        go_roundw
        case rel =>
          refine ⟨k + 1, by omega, by go_num, ?_, hb2⟩
          rw [Hnext.out, runStep_nil]
          exact hown2
        case measure => simp [intOf]; omega
      · rw [List.concat_eq_append] at *
        obtain ⟨p, hp⟩ : ∃ p, q.length = p := ⟨_, rfl⟩
        have hl1 : (q ++ [(x, n)]).length = p + 1 := by simp [hp]
        rw [hl1] at hown hlen
        obtain ⟨g, cap, cur, rfl, hg0, hgb, hpc, hcm, _⟩ : ∃ g cap cur, u3 = .slice (some ⟨g, 0, none⟩) (p + 1) cap ∧ w.heap.size ≤ g ∧ wr.heap[g]? = some (.cells cur 204 (0, 0)) ∧ p + 1 ≤ cap ∧ cap ≤ maxLen ∧ True := by
          rcases hown.2 with ⟨_, h⟩ | ⟨g, cap, cur, h1, h2, h3, h4, h5, _⟩
          · omega
          · exact ⟨g, cap, cur, h1, h2, h3, h4, h5, trivial⟩
        have hx0 : (runCells (q ++ [(x, n)]))[p * 2]? = some (iv x) := by
          have := runCells_get (q ++ [(x, n)]) p 0 (x, n) (by rw [List.getElem?_append_right (by omega), hp]; simp) (by omega)
          simpa [runCell] using this
        have hx1 : (runCells (q ++ [(x, n)]))[p * 2 + 1]? = some (iv n) := by
          have := runCells_get (q ++ [(x, n)]) p 1 (x, n) (by rw [List.getElem?_append_right (by omega), hp]; simp) (by omega)
          simpa [runCell] using this
        have g0 : wr.cell? ⟨g, p * 2, none⟩ = some (.int .i64 x) := (hown.cellAt (p * 2) (by omega)).trans hx0
        have g1 : wr.cell? ⟨g, p * 2 + 1, none⟩ = some (.int .i64 (n : Int)) := (hown.cellAt (p * 2 + 1) (by omega)).trans hx1
        have f1 := hown.frozenAt (p * 2 + 1)
        have hnb : (n : Int) ≤ 1099511627776 := by have := hcnt (x, n) (by simp); simp only at this; omega
        have hpp : ((p + 1 : Nat) : Int) - 1 = (p : Int) := by omega
        have Hp := Lib.hid hp
        clear hx0 hx1 hp hl1 hgb hcnt
        by_cases hxs : x = s
        · have t1 : (x == s) = true := by rw [beq_iff_eq]; exact hxs
          have Hxs := Lib.hid hxs
          clear hxs
          go_wp2
          obtain ⟨hst, hgr⟩ := hown.stored (p * 2 + 1) (.int .i64 ((n : Int) + 1))
          refine ⟨⟨k + 1, by omega, by go_num, ?_, hb.setCell (p := ⟨g, p * 2 + 1, none⟩) hg0 _⟩, by simp [intOf]; omega⟩
          rw [Hnext.out, ← Hxs.out, runStep_same]
          have e1 : (q ++ [(x, n + 1)]).length = p + 1 := by simp [Hp.out]
          have e2 : (runCells (q ++ [(x, n)])).set (p * 2 + 1) (.int .i64 ((n : Int) + 1)) = runCells (q ++ [(x, n + 1)]) := by
            rw [runCells_append, runCells_append, List.set_append_right _ _ (by rw [runCells_len, Hp.out]; omega), runCells_len, Hp.out]
            congr 1
            rw [show p * 2 + 1 - p * 2 = 1 by omega]
            rfl
          rw [e1, ← e2]
          exact hst
        · have t1 : (x == s) = false := by rw [beq_eq_false_iff_ne]; exact hxs
          have Hxs := Lib.hid hxs
          clear hxs
          go_wp2_with (at_builtin; refine wpList_push _ rfl (.tmp 36) (.tmp 39) _ rfl w.heap.size 204 i0 _ 2 16 Tryz.underlying201 hi0 hz0 hz1 hz2 rfl (by decide) (.slice (some ⟨g, 0, none⟩) (p + 1) cap) (p + 1) _ rfl hown rfl rfl (by simp [Value.oneCell']) (by unfold maxLen; omega) (by omega) hsz ?_; intro v2 w2 hown2 hg2 hs2 hat2)
          have hb2 := below_grown hb hown hg2 hsz
          clear hg2 hat2
          go_roundw
          case rel =>
            refine ⟨k + 1, by omega, by go_num, ?_, hb2⟩
            rw [Hnext.out, runStep_other _ _ _ _ Hxs.out, runCells_append]
            have e1 : (q ++ [(x, n)] ++ [(s, 1)]).length = p + 1 + 1 := by simp [Hp.out]
            rw [e1]
            exact hown2
          case measure => simp [intOf]; omega
    · have hkm : k = m := by omega
      have htk : l.take k = l := List.take_of_length_le (by have := Hll.out; omega)
      have hge : m ≤ k := by omega
      rw [htk] at hown
      clear hkm htk
      go_wp2
      go_ret
      exact ⟨u3, rfl, hown, hb⟩
theorem RunOf_is (A : Option Addr) (m c B : Nat) (l : List Int) (w : World) (r : List (Int × Nat)) (n : Nat) (h : runsOf l = r) (hn : r.length = n) (hr : Rd w B 1 A m (l.map iv)) (hB : B ≤ w.heap.size) (hm : m ≤ 1099511627776) :
    Calls Tryz.prog 178 #[.slice A m c] w fun e w' => ∃ A' c', e = .returned (.slice A' n c') ∧ Made w' w.heap.size 204 2 A' n c' (runCells r) ∧ Below w.heap.size w w' := by
  subst h
  subst hn
  refine (Of_own A m c B l w hr hB hm).mono fun e w' ⟨v, he, ho, hb⟩ => ?_
  obtain ⟨A', c', rfl, hm⟩ := made_of_own ho
  exact ⟨A', c', he, hm, hb⟩
end Go.Proofs.YtnileogagoipiaaGreatDoor
namespace Go.Proofs.YtnileogagoipiaaGreatDoor
theorem run_int_info : (Tryz.prog.info? 3).map (fun i => (i.zero, i.size, i.bytes)) = some (some (.int .i64 0), 1, 8) := by kernel_rfl
end Go.Proofs.YtnileogagoipiaaGreatDoor
namespace Go.Proofs.YtnileogagoipiaaGreatDoor
open Go.RowKit
set_option linter.unusedVariables false
theorem symIs_yes (s : Int) (w : World) (h : symOk s) : Calls Tryz.prog 108 #[.int .i64 s] w fun e w' => e = .returned (.bool true) ∧ w = w' := by
  obtain ⟨h1, h2⟩ := h
  go_enter Tryz.func108, Tryz.ntmps108
  go_wp2
  go_ret
  exact ⟨ret_bool (by simp <;> omega), rfl⟩
theorem symIs_no (s : Int) (w : World) (h : ¬ symOk s) : Calls Tryz.prog 108 #[.int .i64 s] w fun e w' => e = .returned (.bool false) ∧ w = w' := by
  have h' : s < 0 ∨ (0 ≤ s ∧ 257 ≤ s) := by unfold symOk at h; omega
  rcases h' with h1 | ⟨h1, h2⟩
  · go_enter Tryz.func108, Tryz.ntmps108
    go_wp2
    go_ret
    exact ⟨ret_bool (by simp <;> omega), rfl⟩
  · go_enter Tryz.func108, Tryz.ntmps108
    go_wp2
    go_ret
    exact ⟨ret_bool (by simp <;> omega), rfl⟩
/-- What run.Put tells: bytes and 0, or nil and 1. -/
def PutTold (w w' : World) (o : Option (List UInt8)) (e : Ending) : Prop :=
  (∃ bs A c, o = some bs ∧ e = .returned (.tuple #[.slice A bs.length c, .int .i64 0]) ∧ Made w' w.heap.size 5 1 A bs.length c (bs.map bv)) ∨
  (o = none ∧ e = .returned (.tuple #[.slice none 0 0, .int .i64 1]))

set_option maxRecDepth 100000 in
set_option maxHeartbeats 2000000 in
theorem RunPut_any (A : Option Addr) (m c B : Nat) (l : List Int) (w : World) (hr : Rd w B 1 A m (l.map iv)) (hB : B ≤ w.heap.size) (hm : m ≤ 1000000) :
    Calls Tryz.prog 117 #[.slice A m c] w fun e w' => PutTold w w' (putRuns l) e ∧ Below w.heap.size w w' := by
  obtain ⟨i0, hi0, hz0, hz1, hz2⟩ := info_parts num_u8_info
  have hll : l.length = m := by simpa using hr.1
  obtain ⟨r, hrr⟩ : ∃ r, runsOf l = r := ⟨_, rfl⟩
  obtain ⟨n, hn⟩ : ∃ n, r.length = n := ⟨_, rfl⟩
  have hnm : n ≤ 1000000 := by have := runsOf_len l; rw [hrr] at this; omega
  have hcnt : ∀ x ∈ r, x.2 ≤ 1000000 := fun x hx => by have := runsOf_mem l x (by rw [hrr]; exact hx); omega
  have Hcnt := Lib.hid hcnt
  have hput : putRuns l = if ∀ x ∈ r, symOk x.1 then some (runBytes r) else none := by unfold putRuns; rw [hrr]
  have Hput := Lib.hid hput
  have Hrr := Lib.hid hrr
  have Hn := Lib.hid hn
  have Hr := Lib.hid hr
  have hB0 := Below.refl w.heap.size w
  clear hr hll hrr hn hput hcnt
  go_enter Tryz.func117, Tryz.ntmps117
  go_wp2_with fail
  refine (RunOf_is _ _ _ _ l _ r n Hrr.out Hn.out Hr.out hB (by omega)).mono ?_
  rintro e w1 ⟨A1, c1, rfl, hm1, hb1⟩
  have hs1 := hb1.size
  have Ho1 := Lib.hid hm1.own
  clear hm1
  obtain ⟨k0, hk0⟩ : ∃ k0, (encB n).length = k0 := ⟨_, rfl⟩
  have hk1 : k0 ≤ 11 := by rw [← hk0]; exact encB_len n
  have Hk0 := Lib.hid hk0
  clear hk0
  go_wp2_with fail
  refine (Put_is _ _ _ _ [n] _ (encB n) k0 (encAll_one n) Hk0.out (Rd.made _ _ 1 1 _ rfl) (Nat.le_refl _) (by simp; omega) (by omega)).mono ?_
  rintro e w2 ⟨A2, c2, rfl, hm2, hb2⟩
  have hB2 := (hb1.alloc hs1 _).trans (hb2.mono (by simp; omega))
  have hs2 := hB2.size
  have hs12 : w1.heap.size < w2.heap.size := by have := hb2.size; simp at this; omega
  have hown2 : w2.ownsRow w.heap.size 5 1 (.slice A2 k0 c2) k0 ((encB n).map bv) := own_mono hm2.own (by simp; omega)
  have hruns : w2.ownsRow w.heap.size 204 2 (.slice A1 n c1) n (runCells r) := own_below (Ho1.out.alloc _) hb2
  clear hm2 hb2 hb1
  go_wp2_with fail
  go_loopw [5, 17] (fun v i wr => ∃ k q : Nat, k ≤ n ∧ i = .int .i64 k ∧ wr.ownsRow w.heap.size 5 1 v q ((encB n ++ (r.take k).flatMap runByte).map bv) ∧ wr.ownsRow w.heap.size 204 2 (.slice A1 n c1) n (runCells r) ∧ Below w.heap.size w wr ∧ ∀ x ∈ r.take k, symOk x.1) (fun _ i _ => n - (intOf i).toNat)
  case atStart => exact ⟨0, k0, Nat.zero_le _, rfl, by simpa using hown2, hruns, hB2, by simp⟩
  case round =>
    obtain ⟨k, q, hk, rfl, hown, hruns, hb, hok⟩ := hrel
    have Hok := Lib.hid hok
    have hsz := hb.size
    have hq : q ≤ 22000011 := by
      have h1 := hown.1
      have h2 := flatRun_len (r.take k)
      have h3 := encB_len n
      rw [List.length_take] at h2
      simp only [List.length_map, List.length_append] at h1
      omega
    clear hok
    by_cases hlt : k < n
    · obtain ⟨x, hx⟩ : ∃ x, r[k]? = some x := ⟨r[k]'(by have := Hn.out; omega), List.getElem?_eq_getElem (by have := Hn.out; omega)⟩
      obtain ⟨g, hA1, hgl⟩ : ∃ g, A1 = some ⟨g, 0, none⟩ ∧ g < wr.heap.size := by
        obtain ⟨g, cap, hv, _, hlt⟩ := hruns.form (by omega)
        injection hv with h1 h2 h3
        exact ⟨g, h1, hlt⟩
      subst hA1
      have d0 : wr.cell? ⟨g, k * 2, none⟩ = some (.int .i64 x.1) := (hruns.cellAt (k * 2) (by omega)).trans ((runCells_get r k 0 x hx (by omega)).trans rfl)
      have d1 : wr.cell? ⟨g, k * 2 + 1, none⟩ = some (.int .i64 (x.2 : Int)) := (hruns.cellAt (k * 2 + 1) (by omega)).trans ((runCells_get r k 1 x hx (by omega)).trans rfl)
      have hnext := runBytes_snoc r k x hx
      have hxc := Hcnt.out x (List.mem_of_getElem? hx)
      have hin : ∀ y ∈ r.take (k + 1), y ∈ r.take k ∨ y = x := by
        intro y hy
        have hkl : k < r.length := (List.getElem?_eq_some_iff.1 hx).1
        rw [List.take_succ_eq_append_getElem hkl, (List.getElem?_eq_some_iff.1 hx).2] at hy
        simpa using hy
      have hmem := List.mem_of_getElem? hx
      obtain ⟨s, y⟩ := x
      simp only at d0 d1 hxc
      have Hnext := Lib.hid hnext
      have Hin := Lib.hid hin
      have Hmem := Lib.hid hmem
      clear hnext hx hin hmem
      by_cases hsy : symOk s
      · obtain ⟨sn, rfl⟩ := Int.eq_ofNat_of_zero_le hsy.1
        have hs257 : (sn : Int) < 257 := hsy.2
        have Hsy := Lib.hid hsy
        clear hsy
        obtain ⟨k2, hk2⟩ : ∃ k2, (runByte ((sn : Int), y)).length = k2 := ⟨_, rfl⟩
        have hk3 : k2 ≤ 22 := by rw [← hk2]; exact runByte_len _
        have Hk2 := Lib.hid hk2
        have henc : encAll [sn, y] = runByte ((sn : Int), y) := by simp [encAll, runByte]
        have Henc := Lib.hid henc
        clear hk2 henc
        go_wp2_with (go_at_call 108; refine (symIs_yes _ _ Hsy.out).mono ?_; rintro e w3 ⟨rfl, rfl⟩)
        refine (Put_is _ _ _ _ [sn, y] _ (runByte ((sn : Int), y)) k2 Henc.out Hk2.out (Rd.made' _ _ 1 2 _ _ rfl (by simp)) (Nat.le_refl _) (by simp; omega) (by omega)).mono ?_
        rintro e w4 ⟨A4, c4, rfl, hm4, hb4⟩
        have hB4 := ((hb.alloc hsz _).alloc (by simp; omega) _).trans (hb4.mono (by simp; omega))
        have hs4 := hB4.size
        have hown4 : w4.ownsRow w.heap.size 5 1 u5 q ((encB n ++ (r.take k).flatMap runByte).map bv) := own_below ((hown.alloc _).alloc _) hb4
        have hruns4 : w4.ownsRow w.heap.size 204 2 (.slice (some ⟨g, 0, none⟩) n c1) n (runCells r) := own_below ((hruns.alloc _).alloc _) hb4
        have Hr4 := Lib.hid hm4.rd
        have Hone := Lib.hid (oneCell_bv (runByte ((sn : Int), y)))
        clear hm4 hb4 hown hruns
        go_wp2_with (at_builtin; refine wpList_append_rd _ rfl (.tmp 25) (.tmp 33) _ rfl w.heap.size 5 i0 (.int .u8 0) 1 1 Tryz.underlying22 hi0 hz0 hz1 hz2 rfl (by decide) u5 q _ rfl hown4 w4.heap.size A4 k2 c4 _ rfl Hr4.out Hone.out (by unfold maxLen; omega) (by omega) hs4 ?_; intro v5 w5 hown5 hg5 hat5)
        have hB5 := below_grown hB4 hown4 hg5 hs4
        have hruns5 := hruns4.kept hg5 (own_ne_own hruns4 hown4 (by decide))
        clear hg5 hat5 hruns4 hown4
        go_roundw
        case rel =>
          refine ⟨k + 1, q + k2, by omega, by go_num, ?_, hruns5, hB5, ?_⟩
          · rw [Hnext.out, ← List.append_assoc, List.map_append]
            exact hown5
          · intro z hz
            rcases Hin.out z hz with h | h
            · exact Hok.out z h
            · rw [h]; exact Hsy.out
        case measure => simp [intOf]; omega
      · have Hsy := Lib.hid hsy
        clear hsy
        go_wp2_with (go_at_call 108; refine (symIs_no _ _ Hsy.out).mono ?_; rintro e w3 ⟨rfl, rfl⟩)
        go_ret2
        refine ⟨.inr ⟨?_, rfl⟩, hb.alloc hsz _⟩
        rw [Hput.out, if_neg]
        intro hall
        exact Hsy.out (hall _ Hmem.out)
    · have hkn : k = n := by omega
      have hge : n ≤ k := by omega
      have htk : r.take k = r := List.take_of_length_le (by have := Hn.out; omega)
      rw [htk] at hown Hok
      clear hkn htk hruns
      obtain ⟨A', c', rfl, hm3⟩ := made_of_own hown
      go_wp2
      go_ret2
      have hqn : (runBytes r).length = q := by
        have := hm3.len
        rw [List.length_map] at this
        rw [← this, runBytes, Hn.out]
      refine ⟨.inl ⟨runBytes r, A', c', ?_, ?_, ?_⟩, hb⟩
      · rw [Hput.out, if_pos Hok.out]
      · rw [hqn]; rfl
      · rw [hqn, runBytes, Hn.out]
        exact hm3
end Go.Proofs.YtnileogagoipiaaGreatDoor
namespace Go.Proofs.YtnileogagoipiaaGreatDoor
open Go.RowKit
set_option linter.unusedVariables false
/-- What run.Get tells: symbols and 0, or nil and a code. -/
def GetTold (w w' : World) (o : List Int × Int) (e : Ending) : Prop :=
  ∃ A c, e = .returned (.tuple #[.slice A o.1.length c, .int .i64 o.2]) ∧ Made w' w.heap.size 3 1 A o.1.length c (o.1.map iv)
theorem told_nil {w w' : World} {o : List Int × Int} {k : Int} (h : ([], k) = o) : GetTold w w' o (.returned (.tuple #[.slice none 0 0, .int .i64 k])) := by
  subst h
  exact ⟨none, 0, rfl, ⟨World.ownsRow_nil _ _ _ _, Rd.nil _ _ _ _, Nat.le_refl _, Nat.zero_le _⟩⟩

set_option maxRecDepth 100000 in
set_option maxHeartbeats 4000000 in
theorem RunGet_core (A : Option Addr) (m c : Nat) (b : List UInt8) (most : Int) (w : World) (i0 : TypeInfo) (hi0 : Tryz.prog.info? 3 = some i0) (hz0 : i0.zero = some (.int .i64 0)) (hz1 : i0.size = 1) (hz2 : i0.bytes = 8)
    (Hll : Hid (b.length = m)) (Hr : Hid (Rd w w.heap.size 1 A m (b.map bv))) (hB0 : Below w.heap.size w w) (hmc : m ≤ c) (hcl : c ≤ maxLen) (R : List Int × Int) (n0 a0 : Nat) (ha0 : a0 ≤ m)
    (H0 : Hid (getNB b 0 = (n0, (a0 : Int), 0))) (Hn0 : Hid (n0 < 18446744073709551616)) (mst : Nat) (H1 : Hid (rgo b mst n0 a0 257 [] = R)) (hmsb : mst ≤ 1099511627776) (hcase : most = (mst : Int) ∨ (most < 0 ∧ mst ≤ 0)) :
    Calls Tryz.prog 127 #[.slice A m c, .int .i64 most] w fun e w' => GetTold w w' R e ∧ Below w.heap.size w w' := by
  have Hcase := Lib.hid hcase
  clear hcase
  go_enter Tryz.func127, Tryz.ntmps127
  go_wp2_with (go_at_call 181; refine (Get_is _ _ _ _ _ _ _ _ _ _ H0.out Hr.out hmc hcl).mono ?_; rintro e w5 ⟨rfl, rfl⟩)
  go_loopw [6, 7, 9, 10] (fun x y v z wr => ∃ (n a last : Nat) (acc : List Int), x = .int .u64 (n : Int) ∧ y = .int .i64 (a : Int) ∧ z = .int .u64 (last : Int) ∧ wr.ownsRow w.heap.size 3 1 v acc.length (acc.map iv) ∧ acc.length ≤ mst ∧ a ≤ m ∧ n < 18446744073709551616 ∧ rgo b mst n a last acc = R ∧ Below w.heap.size w wr) (fun x _ _ _ _ => (intOf x).toNat)
  case atStart => exact ⟨n0, a0, 257, [], rfl, rfl, rfl, World.ownsRow_nil _ _ _ _, Nat.zero_le _, ha0, Hn0.out, H1.out, hB0⟩
  case round =>
    obtain ⟨n, a, last, acc, rfl, rfl, rfl, hown, hacc, ha, hn, hg, hb⟩ := hrel
    have Hg := Lib.hid hg
    have Hn := Lib.hid hn
    have hsz := hb.size
    have hr2 := Hr.out.below hb
    have Hr2 := Lib.hid hr2
    clear hg hn hr2
    rcases n with _ | n
    · have hgt : ((0 : Nat) : Int) = 0 := rfl
      by_cases hend : a = m
      · have hR : (acc, 0) = R := by rw [← Hg.out, rgo, if_pos (by rw [Hll.out]; exact hend)]
        have HR := Lib.hid hR
        have ht : ((a : Int) == (m : Int)) = true := by rw [beq_iff_eq]; omega
        obtain ⟨A', c', rfl, hm3⟩ := made_of_own hown
        clear hend hR hown
        go_wp2
        go_ret2
        refine ⟨?_, hb⟩
        rw [← HR.out]
        exact ⟨A', c', rfl, hm3⟩
      · have hR : ([], 4) = R := by rw [← Hg.out, rgo, if_neg (by rw [Hll.out]; exact hend)]
        have HR := Lib.hid hR
        have ht : ((a : Int) == (m : Int)) = false := by rw [beq_eq_false_iff_ne]; omega
        clear hend hR
        go_wp2
        go_ret2
        exact ⟨told_nil HR.out, hb⟩
    · have hab : a ≤ b.length := by rw [Hll.out]; exact ha
      rcases h1 : getGo (b.drop a) true 0 a with _ | ⟨s, to⟩
      · have hR : ([], 4) = R := by rw [← Hg.out, rgo_none _ _ _ _ _ _ (runAt_none1 _ _ h1)]
        have HR := Lib.hid hR
        have Hb1 := Lib.hid (getNB_none b a hab h1)
        clear hR hab h1
        go_wp2_with (go_at_call 181; refine (Get_is _ _ _ _ _ _ _ _ _ _ Hb1.out Hr2.out hmc hcl).mono ?_; rintro e w5 ⟨rfl, rfl⟩)
        go_ret2
        exact ⟨told_nil HR.out, hb⟩
      · have hle1 := getGo_le _ _ _ _ _ _ h1
        have hb1 := getNB_some b a s to hab h1
        have hto : to ≤ m := by rw [List.length_drop, Hll.out] at hle1; omega
        have htob : to ≤ b.length := by rw [Hll.out]; exact hto
        have Hb1 := Lib.hid hb1
        have Hs64 := Lib.hid hle1.2.2
        rcases h2 : getGo (b.drop to) true 0 to with _ | ⟨k, e⟩
        · have hR : ([], 4) = R := by rw [← Hg.out, rgo_none _ _ _ _ _ _ (runAt_none2 _ _ _ _ h1 h2)]
          have HR := Lib.hid hR
          have Hb2 := Lib.hid (getNB_none b to htob h2)
          clear hR hab h1 h2 hb1 hle1 htob
          go_wp2_with fail
          refine (Get_is _ _ _ _ _ _ _ _ _ _ Hb1.out Hr2.out hmc hcl).mono ?_
          rintro e w5 ⟨rfl, rfl⟩
          go_wp2_with fail
          refine (Get_is _ _ _ _ _ _ _ _ _ _ Hb2.out Hr2.out hmc hcl).mono ?_
          rintro e w5 ⟨rfl, rfl⟩
          go_wp2
          go_ret2
          exact ⟨told_nil HR.out, hb⟩
        · have hle2 := getGo_le _ _ _ _ _ _ h2
          have hb2 := getNB_some b to k e htob h2
          have he : e ≤ m := by rw [List.length_drop, Hll.out] at hle2; omega
          have Hb2 := Lib.hid hb2
          have hrun2 : rgo b mst (n + 1) a last acc = if 257 ≤ s ∨ s = last ∨ k = 0 then ([], 4) else if mst - acc.length < k then ([], 3) else rgo b mst n e s (acc ++ List.replicate k (s : Int)) := rgo_some _ _ _ _ _ _ _ _ _ (runAt_some _ _ _ _ _ _ h1 h2)
          have Hrun2 := Lib.hid hrun2
          have Hk64 := Lib.hid hle2.2.2
          clear hab h1 h2 hb1 hle1 htob hb2 hle2 hrun2
          by_cases hbad : 257 ≤ s ∨ s = last ∨ k = 0
          · have hR : ([], 4) = R := by rw [← Hg.out, Hrun2.out, if_pos hbad]
            have HR := Lib.hid hR
            have hbad' : 257 ≤ s ∨ (s < 257 ∧ s = last) ∨ (s < 257 ∧ s ≠ last ∧ k = 0) := by omega
            clear hR hbad
            rcases hbad' with h | ⟨h, h'⟩ | ⟨h, h', h''⟩
            · go_wp2_with fail
              refine (Get_is _ _ _ _ _ _ _ _ _ _ Hb1.out Hr2.out hmc hcl).mono ?_
              rintro e w5 ⟨rfl, rfl⟩
              go_wp2_with fail
              refine (Get_is _ _ _ _ _ _ _ _ _ _ Hb2.out Hr2.out hmc hcl).mono ?_
              rintro e w5 ⟨rfl, rfl⟩
              go_wp2
              go_ret2
              exact ⟨told_nil HR.out, hb⟩
            · subst h'
              go_wp2_with fail
              refine (Get_is _ _ _ _ _ _ _ _ _ _ Hb1.out Hr2.out hmc hcl).mono ?_
              rintro e w5 ⟨rfl, rfl⟩
              go_wp2_with fail
              refine (Get_is _ _ _ _ _ _ _ _ _ _ Hb2.out Hr2.out hmc hcl).mono ?_
              rintro e w5 ⟨rfl, rfl⟩
              go_wp2
              go_ret2
              exact ⟨told_nil HR.out, hb⟩
            · subst h''
              have ht : ((s : Int) == (last : Int)) = false := by rw [beq_eq_false_iff_ne]; omega
              clear h'
              go_wp2_with fail
              refine (Get_is _ _ _ _ _ _ _ _ _ _ Hb1.out Hr2.out hmc hcl).mono ?_
              rintro e w5 ⟨rfl, rfl⟩
              go_wp2_with fail
              refine (Get_is _ _ _ _ _ _ _ _ _ _ Hb2.out Hr2.out hmc hcl).mono ?_
              rintro e w5 ⟨rfl, rfl⟩
              go_wp2
              go_ret2
              exact ⟨told_nil HR.out, hb⟩
          · have h257 : s < 257 := by omega
            have hk0 : 0 < k := by omega
            have ht0 : ((k : Int) == 0) = false := by rw [beq_eq_false_iff_ne]; omega
            have ht1 : decide ((257 : Int) ≤ (s : Int)) = false := by simp; omega
            have ht : ((s : Int) == (last : Int)) = false := by rw [beq_eq_false_iff_ne]; omega
            obtain ⟨q, hq⟩ : ∃ q, acc.length = q := ⟨_, rfl⟩
            have hrun3 : rgo b mst (n + 1) a last acc = if mst - q < k then ([], 3) else rgo b mst n e s (acc ++ List.replicate k (s : Int)) := by rw [Hrun2.out, if_neg hbad, hq]
            have Hrun3 := Lib.hid hrun3
            have Hq := Lib.hid hq
            rw [hq] at hown hacc
            obtain ⟨A', c', rfl, hm3⟩ := made_of_own hown
            have Hown := Lib.hid hown
            have hn64 := Hn.out
            have hmxl : ∃ mx : Int, mx = (mst : Int) - (q : Int) := ⟨_, rfl⟩
            clear hbad hrun3 hq hm3 hown hmxl
            by_cases hfull : mst - q < k
            · have hR : ([], 3) = R := by rw [← Hg.out, Hrun3.out, if_pos hfull]
              have HR := Lib.hid hR
              have hf2 : (mst : Int) - (q : Int) < (k : Int) := by omega
              clear hR hfull hn64
              rcases Hcase.out with hc | ⟨hc, hc'⟩
              · subst hc
                go_wp2_with fail
                refine (Get_is _ _ _ _ _ _ _ _ _ _ Hb1.out Hr2.out hmc hcl).mono ?_
                rintro e w5 ⟨rfl, rfl⟩
                go_wp2_with fail
                refine (Get_is _ _ _ _ _ _ _ _ _ _ Hb2.out Hr2.out hmc hcl).mono ?_
                rintro e w5 ⟨rfl, rfl⟩
                go_wp2
                go_ret2
                exact ⟨told_nil HR.out, hb⟩
              · go_wp2_with fail
                refine (Get_is _ _ _ _ _ _ _ _ _ _ Hb1.out Hr2.out hmc hcl).mono ?_
                rintro e w5 ⟨rfl, rfl⟩
                go_wp2_with fail
                refine (Get_is _ _ _ _ _ _ _ _ _ _ Hb2.out Hr2.out hmc hcl).mono ?_
                rintro e w5 ⟨rfl, rfl⟩
                go_wp2
                go_ret2
                exact ⟨told_nil HR.out, hb⟩
            · have hR : rgo b mst n e s (acc ++ List.replicate k (s : Int)) = R := by rw [← Hg.out, Hrun3.out, if_neg hfull]
              have HR := Lib.hid hR
              have hf2 : (k : Int) ≤ (mst : Int) - (q : Int) := by omega
              have hc : most = (mst : Int) := by rcases Hcase.out with h | ⟨_, h⟩ <;> omega
              subst hc
              clear hR hfull
              go_wp2_with fail
              refine (Get_is _ _ _ _ _ _ _ _ _ _ Hb1.out Hr2.out hmc hcl).mono ?_
              rintro e w5 ⟨rfl, rfl⟩
              go_wp2_with fail
              refine (Get_is _ _ _ _ _ _ _ _ _ _ Hb2.out Hr2.out hmc hcl).mono ?_
              rintro e w5 ⟨rfl, rfl⟩
              go_wp2
              go_loopw [9, 73] (fun v i wx => ∃ j : Nat, j ≤ k ∧ i = .int .u64 (j : Int) ∧ wx.ownsRow w.heap.size 3 1 v (q + j) ((acc ++ List.replicate j (s : Int)).map iv) ∧ Below w.heap.size w wx) (fun _ i _ => k - (intOf i).toNat)
              case atStart => exact ⟨0, Nat.zero_le _, rfl, by simpa using Hown.out, hb⟩
              case round =>
                obtain ⟨j, hj, rfl, hown1, hb1⟩ := hrel
                have hsz1 := hb1.size
                by_cases hjk : j < k
                · go_wp2_with (at_builtin; refine wpList_push _ rfl (.tmp 75) (.tmp 78) _ rfl w.heap.size 3 i0 (.int .i64 0) 1 8 Tryz.underlying39 hi0 hz0 hz1 hz2 rfl (by decide) u9 (q + j) _ rfl hown1 rfl rfl (by simp [Value.oneCell']) (by unfold maxLen; omega) (by omega) hsz1 ?_; intro v2 w2 hown2 hg2 hs2 hat2)
                  have hb2 := below_grown hb1 hown1 hg2 hsz1
                  clear hg2 hat2
                  go_roundw
                  case rel =>
                    refine ⟨j + 1, by omega, by go_num, ?_, hb2⟩
                    rw [List.replicate_succ', ← List.append_assoc, List.map_append]
                    exact hown2
                  case measure => simp [intOf]; omega
                · have hjk2 : j = k := by omega
                  have hge : k ≤ j := by omega
                  rw [hjk2] at hown1
                  clear hjk2
                  go_wp2
                  refine ⟨⟨n, e, s, acc ++ List.replicate k (s : Int), int_eq (by omega), rfl, rfl, ?_, ?_, he, by omega, HR.out, hb1⟩, by simp [intOf]⟩
                  · rw [List.length_append, List.length_replicate, Hq.out]
                    exact hown1
                  · rw [List.length_append, List.length_replicate, Hq.out]
                    omega
set_option maxRecDepth 100000 in
set_option maxHeartbeats 4000000 in
theorem RunGet_any (A : Option Addr) (m c B : Nat) (b : List UInt8) (most : Int) (w : World) (hr : Rd w B 1 A m (b.map bv)) (hB : B ≤ w.heap.size) (hmc : m ≤ c) (hcl : c ≤ maxLen) (hmost : most ≤ 1099511627776) (hmost2 : -9223372036854775808 ≤ most) :
    Calls Tryz.prog 127 #[.slice A m c, .int .i64 most] w fun e w' => GetTold w w' (getRuns b most) e ∧ Below w.heap.size w w' := by
  obtain ⟨i0, hi0, hz0, hz1, hz2⟩ := info_parts run_int_info
  have hll : b.length = m := by simpa using hr.1
  have Hll := Lib.hid hll
  have Hr := Lib.hid (hr.mono hB)
  have hB0 := Below.refl w.heap.size w
  obtain ⟨R, hR⟩ : ∃ R, getRuns b most = R := ⟨_, rfl⟩
  rw [hR]
  rcases hfirst : getGo b true 0 0 with _ | ⟨n0, a0⟩
  · have h0 : getNB b 0 = (0, 0, 4) := getNB_none b 0 (Nat.zero_le _) (by simpa using hfirst)
    have h1 : ([], 4) = R := by rw [← hR, getRuns, hfirst]
    have H0 := Lib.hid h0
    have H1 := Lib.hid h1
    clear hr hll hR h0 h1 hfirst
    go_enter Tryz.func127, Tryz.ntmps127
    go_wp2_with (go_at_call 181; refine (Get_is _ _ _ _ _ _ _ _ _ _ H0.out Hr.out hmc hcl).mono ?_; rintro e w5 ⟨rfl, rfl⟩)
    go_loop [6] (fun x => x = .int .u64 0) (fun _ => 0)
    case atStart => rfl
    case round =>
      subst hrel
      go_wp2
      go_ret2
      exact ⟨told_nil H1.out, hB0⟩
  · have hle := getGo_le _ _ _ _ _ _ hfirst
    have h0 : getNB b 0 = (n0, (a0 : Int), 0) := getNB_some b 0 n0 a0 (Nat.zero_le _) (by simpa using hfirst)
    have h1 : rgo b most.toNat n0 a0 257 [] = R := by rw [← hR, getRuns, hfirst]
    have ha0 : a0 ≤ m := by omega
    have H0 := Lib.hid h0
    have H1 := Lib.hid h1
    have Hn0 := Lib.hid hle.2.2
    obtain ⟨mst, hmst⟩ : ∃ mst : Nat, most.toNat = mst := ⟨_, rfl⟩
    rw [hmst] at H1
    have hmsb : mst ≤ 1099511627776 := by omega
    have hcase : most = (mst : Int) ∨ (most < 0 ∧ mst ≤ 0) := by omega
    clear hr hll hR h0 h1 hfirst hle hmst hmost hmost2
    rcases hcase with hcase | ⟨hneg, hm0⟩
    · subst hcase
      exact RunGet_core A m c b (mst : Int) w i0 hi0 hz0 hz1 hz2 Hll Hr hB0 hmc hcl R n0 a0 ha0 H0 Hn0 mst H1 hmsb (.inl rfl)
    · exact RunGet_core A m c b most w i0 hi0 hz0 hz1 hz2 Hll Hr hB0 hmc hcl R n0 a0 ha0 H0 Hn0 mst H1 hmsb (.inr ⟨hneg, hm0⟩)
theorem RunGet_is (A : Option Addr) (m c B : Nat) (b : List UInt8) (most : Int) (w : World) (l : List Int) (n : Nat) (k : Int) (h : getRuns b most = (l, k)) (hn : l.length = n) (hr : Rd w B 1 A m (b.map bv)) (hB : B ≤ w.heap.size) (hmc : m ≤ c) (hcl : c ≤ maxLen) (hmost : most ≤ 1099511627776) (hmost2 : -9223372036854775808 ≤ most) :
    Calls Tryz.prog 127 #[.slice A m c, .int .i64 most] w fun e w' => ∃ A' c', e = .returned (.tuple #[.slice A' n c', .int .i64 k]) ∧ Made w' w.heap.size 3 1 A' n c' (l.map iv) ∧ Below w.heap.size w w' := by
  subst hn
  refine (RunGet_any A m c B b most w hr hB hmc hcl hmost hmost2).mono fun e w' ⟨⟨A', c', he, hm⟩, hb⟩ => ?_
  rw [h] at he hm
  exact ⟨A', c', he, hm, hb⟩
end Go.Proofs.YtnileogagoipiaaGreatDoor
