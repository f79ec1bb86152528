/- The walk of num.Get: it returns what the plain function getB computes, and changes nothing. No conditions. -/
import Derived.Test.YthcoldomeedbnaaNumPut
namespace Go.Proofs.Ythcoldomeedbnaa
open Go.RowKit

theorem size_u8 (w : World) : (sizeOf 5).run Try.prog w = .ok 1 w := by kernel_rfl
theorem acc_step (acc x : Nat) (h : acc ≤ 144115188075855871) (hx : x < 256) : bits .or .u64 ((acc : Int) * 128) (IntKind.u64.wrap (bits .and .u8 (x : Int) 127)) = ((acc * 128 + x % 128 : Nat) : Int) := by
  have h1 : bits .and .u8 (x : Int) 127 = ((x % 128 : Nat) : Int) := by
    have := u8_and_nat x 127 hx (by omega)
    rw [nat_mask7] at this
    exact this
  have h2 : IntKind.u64.wrap ((x % 128 : Nat) : Int) = ((x % 128 : Nat) : Int) := by
    rw [IntKind.wrap_u64]
    omega
  rw [h1, h2, show ((acc : Int) * 128) = ((acc * 128 : Nat) : Int) by push_cast; rfl, u64_or_nat _ _ (by omega) (by omega), nat_join 7 (acc * 128) (x % 128) (by omega) (by omega)]
theorem ret_get {a : Nat} {b c : Int} {r : Nat × Int × Int} (h : r = (a, b, c)) : Ending.returned (.tuple #[.int .u64 (a : Int), .int .i64 b, .int .i64 c]) = Ending.returned (.tuple #[uv r.1, iv r.2.1, iv r.2.2]) := by subst h; rfl

theorem ret_get' {a : Nat} {v b b' c : Int} {r : Nat × Int × Int} (hv : v = (a : Int)) (hb : b' = b) (h : r = (a, b, c)) : Ending.returned (.tuple #[.int .u64 v, .int .i64 b', .int .i64 c]) = Ending.returned (.tuple #[uv r.1, iv r.2.1, iv r.2.2]) := by subst h; subst hv; subst hb; rfl
set_option maxRecDepth 100000 in
set_option maxHeartbeats 1000000 in
theorem Get_any (A : Option Addr) (m c : Nat) (l : List UInt8) (at_ : Int) (B : Nat) (w : World) (hr : Rd w B 1 A m (l.map bv)) (hmc : m ≤ c) (hcl : c ≤ maxLen) :
    Calls Try.prog 26 #[.slice A m c, .int .i64 at_] w fun e w' => e = .returned (.tuple #[uv (getB l at_).1, iv (getB l at_).2.1, iv (getB l at_).2.2]) ∧ w = w' := by
  unfold maxLen at hcl
  have hlen : l.length = m := by simpa using hr.1
  have Hlen := Lib.hid hlen
  have Hr := Lib.hid hr
  clear hlen hr
  by_cases hlo : at_ < 0
  · have hfin : getB l at_ = (0, at_, 2) := by rw [getB, if_pos (.inl hlo)]
    have Hfin := Lib.hid hfin
    clear hfin
    go_enter Try.func26, Try.ntmps26
    go_wp2
    go_ret3
    exact ⟨ret_get Hfin.out, rfl⟩
  by_cases hhi : (m : Int) < at_
  · have hfin : getB l at_ = (0, at_, 2) := by rw [getB, if_pos (.inr (by rw [Hlen.out]; exact hhi))]
    have Hfin := Lib.hid hfin
    clear hfin
    go_enter Try.func26, Try.ntmps26
    go_wp2
    go_ret3
    exact ⟨ret_get Hfin.out, rfl⟩
  obtain ⟨k, rfl⟩ := Int.eq_ofNat_of_zero_le (Int.not_lt.1 hlo)
  have hkm : k ≤ m := by omega
  have hfin : getB l (k : Int) = match getGo (l.drop k) true 0 k with | some (n, p) => (n, (p : Int), 0) | none => (0, (k : Int), 4) := by
    rw [getB, if_neg (by rw [Hlen.out]; omega)]; rfl
  have Hfin := Lib.hid hfin
  have hc0 := Hr.out.cut (k := k) (cap := c) hkm hmc
  have hcut := run_cut_lo (P := Try.prog) 33 5 1 Try.underlying33 size_u8 A m c k hkm
  generalize cutA A c k 1 = A' at hc0 hcut
  have Hc := Lib.hid hc0
  have hd1 : decide ((k : Int) < 0) = false := by simp
  have hd2 : decide (m < k) = false := by simp; omega
  clear hfin hlo hc0 hhi
  go_enter Try.func26, Try.ntmps26
  go_wp2
  go_loop [7, 23] (fun n i => ∃ j acc : Nat, j ≤ m - k ∧ i = .int .i64 j ∧ n = .int .u64 acc ∧ getGo (l.drop (k + j)) (j == 0) acc (k + j) = getGo (l.drop k) true 0 k) (fun _ i => m - (intOf i).toNat)
  case atStart => exact ⟨0, 0, Nat.zero_le _, rfl, rfl, rfl⟩
  case round =>
    obtain ⟨j, acc, hj, rfl, rfl, hg⟩ := hrel
    have Hg := Lib.hid hg
    clear hg
    by_cases hlt : j < m - k
    · obtain ⟨b, off, u, rfl, hbl, hu, hc⟩ := Hc.out.get hlt
      have hx : ∃ x, l[k + j]? = some x := ⟨l[k + j]'(by have := Hlen.out; omega), List.getElem?_eq_getElem (by have := Hlen.out; omega)⟩
      obtain ⟨x, hx⟩ := hx
      simp only [Nat.mul_one, List.getElem?_drop, List.getElem?_map, hx, Option.map_some, Option.some.injEq] at hu
      subst hu
      unfold bv at hc
      have hdr : l.drop (k + j) = x :: l.drop (k + j + 1) := by
        have hl : k + j < l.length := by have := Hlen.out; omega
        rw [List.drop_eq_getElem_cons hl]
        have : l[k + j] = x := (List.getElem?_eq_some_iff.1 hx).2
        rw [this]
      have hx256 : x.toNat < 256 := x.toNat_lt
      rw [hdr, getGo_cons] at Hg
      clear hx hdr
      go_wp2
      · have h0 : (x.toNat : Int) = 128 := by assumption
        have hj0 : j = 0 := by assumption
        go_ret3
        refine ⟨ret_get ?_, rfl⟩
        rw [Hfin.out, ← Hg.out, if_pos (by simp; left; omega)]
      · have hj0 : j = 0 := by assumption
        have h1 : ((x.toNat : Int) == 128) = true ∨ (144115188075855871 : Int) < (acc : Int) := by assumption
        go_ret3
        refine ⟨ret_get ?_, rfl⟩
        rw [Hfin.out, ← Hg.out, if_pos (by simp at h1 ⊢; omega)]
      · have hj0 : j = 0 := by assumption
        have h1 : ¬ (x.toNat : Int) = 128 := by assumption
        have h2 : ((x.toNat : Int) == 128) = false ∧ (acc : Int) ≤ 144115188075855871 := by assumption
        have h3 : (x.toNat : Int) < 128 := by assumption
        subst hj0
        go_ret3
        refine ⟨ret_get' (acc_step acc _ (by omega) hx256) ?_ (b := ((k + 0 + 1 : Nat) : Int)) ?_, rfl⟩
        · push_cast; rfl
        · rw [Hfin.out, ← Hg.out, if_neg (by simp; omega), if_pos (by omega)]
      · have hj0 : j = 0 := by assumption
        have h1 : ¬ (x.toNat : Int) = 128 := by assumption
        have h2 : ((x.toNat : Int) == 128) = false ∧ (acc : Int) ≤ 144115188075855871 := by assumption
        have h3 : (128 : Int) ≤ (x.toNat : Int) := by assumption
        subst hj0
        refine ⟨⟨0 + 1, acc * 128 + x.toNat % 128, by omega, rfl, int_eq (acc_step acc _ (by omega) hx256), ?_⟩, by simp [intOf]; omega⟩
        rw [← Hg.out, if_neg (by simp; omega), if_neg (by omega)]
        rfl
      · have hj0 : ¬ j = 0 := by assumption
        have h1 : (144115188075855871 : Int) < (acc : Int) := by assumption
        go_ret3
        refine ⟨ret_get ?_, rfl⟩
        rw [Hfin.out, ← Hg.out, if_pos (by simp; omega)]
      · have hj0 : ¬ j = 0 := by assumption
        have h2 : (acc : Int) ≤ 144115188075855871 := by assumption
        have h3 : (x.toNat : Int) < 128 := by assumption
        go_ret3
        refine ⟨ret_get' (acc_step acc _ (by omega) hx256) ?_ (b := ((k + j + 1 : Nat) : Int)) ?_, rfl⟩
        · push_cast; rfl
        · rw [Hfin.out, ← Hg.out, if_neg (by simp; omega), if_pos (by omega)]
      · have hj0 : ¬ j = 0 := by assumption
        have h2 : (acc : Int) ≤ 144115188075855871 := by assumption
        have h3 : (128 : Int) ≤ (x.toNat : Int) := by assumption
        refine ⟨⟨j + 1, acc * 128 + x.toNat % 128, by omega, by go_num, int_eq (acc_step acc _ (by omega) hx256), ?_⟩, by simp [intOf]; omega⟩
        rw [← Hg.out, if_neg (by simp; omega), if_neg (by omega)]
        rfl
    · have hjm : j = m - k := by omega
      have Hj := Lib.hid hjm
      clear hjm
      go_wp2
      go_ret3
      refine ⟨ret_get ?_, rfl⟩
      have hd : l.drop (k + j) = [] := List.drop_eq_nil_of_le (by rw [Hlen.out]; have := Hj.out; omega)
      rw [Hfin.out, ← Hg.out, hd, getGo]
theorem Get_is (A : Option Addr) (m c : Nat) (l : List UInt8) (at_ : Int) (B : Nat) (w : World) (n : Nat) (p k : Int) (h : getB l at_ = (n, p, k)) (hr : Rd w B 1 A m (l.map bv)) (hmc : m ≤ c) (hcl : c ≤ maxLen) :
    Calls Try.prog 26 #[.slice A m c, .int .i64 at_] w fun e w' => e = .returned (.tuple #[.int .u64 (n : Int), .int .i64 p, .int .i64 k]) ∧ w = w' :=
  (Get_any A m c l at_ B w hr hmc hcl).mono fun e w' ⟨he, hw⟩ => ⟨by rw [he, h]; rfl, hw⟩
end Go.Proofs.Ythcoldomeedbnaa
