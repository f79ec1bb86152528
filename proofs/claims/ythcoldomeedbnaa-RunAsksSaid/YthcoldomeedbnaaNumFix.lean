/- The walks of num.Fixed and num.Of. Fixed lays the four bytes into new memory; Of returns what the plain function ofB computes. No conditions. -/
import Derived.Test.YthcoldomeedbnaaNumGet
namespace Go.Proofs.Ythcoldomeedbnaa
open Go.RowKit
set_option linter.unusedVariables false

theorem join_byte (acc x k : Nat) (h : acc < 256 ^ k) (hx : x < 256) (hk : k < 4) : bits .or .u32 (acc : Int) ((x : Int) * 2 ^ (8 * k) % 4294967296) = ((acc + x * 256 ^ k : Nat) : Int) := by
  have e : (256 : Nat) ^ k = 2 ^ (8 * k) := by rw [Nat.pow_mul]
  have hp : x * 256 ^ k < 4294967296 := by
    have h1 : x * 256 ^ k ≤ 255 * 256 ^ k := Nat.mul_le_mul_right _ (by omega)
    have h2 : 256 ^ k ≤ 256 ^ 3 := Nat.pow_le_pow_right (by omega) (by omega)
    omega
  have hacc : acc < 4294967296 := by
    have h2 : 256 ^ k ≤ 256 ^ 3 := Nat.pow_le_pow_right (by omega) (by omega)
    omega
  have e2 : ((x : Int) * 2 ^ (8 * k) % 4294967296) = ((x * 256 ^ k : Nat) : Int) := by
    rw [e] at hp ⊢
    have : (x : Int) * 2 ^ (8 * k) = ((x * 2 ^ (8 * k) : Nat) : Int) := by push_cast; rfl
    rw [this]
    omega
  rw [e2, u32_or_nat _ _ hacc hp, Nat.or_comm, nat_join (8 * k) (x * 256 ^ k) acc (by rw [e]; exact Nat.mul_mod_left _ _) (by rw [← e]; exact h), Nat.add_comm]
set_option maxRecDepth 100000 in
set_option maxHeartbeats 1000000 in
theorem Fixed_own (n : Nat) (w : World) :
    Calls Try.prog 31 #[.int .u32 (n : Int)] w fun e w' => ∃ v, e = .returned v ∧ w'.ownsRow w.heap.size 5 1 v 4 ((fixB n).map bv) ∧ Below w.heap.size w w' := by
  obtain ⟨i0, hi0, hz0, hz1, hz2⟩ := info_parts u8_info
  go_enter Try.func31, Try.ntmps31
  go_wp2
  go_loopw [0, 3, 4] (fun x v i wr => ∃ k : Nat, k ≤ 4 ∧ i = .int .i64 k ∧ x = .int .u32 ((n / 256 ^ k : Nat) : Int) ∧ wr.ownsRow w.heap.size 5 1 v k ((fixN k n).map bv) ∧ Below w.heap.size w wr) (fun _ _ i _ => 4 - (intOf i).toNat)
  case atStart => exact ⟨0, Nat.zero_le _, rfl, by simp, World.ownsRow_nil _ _ _ _, Below.refl _ _⟩
  case round =>
    obtain ⟨k, hk, rfl, rfl, hown, hb⟩ := hrel
    have hb2 := hb.size
    by_cases hlt : k < 4
    · generalize hm : n / 256 ^ k = m
      have Hm := Lib.hid hm
      clear hm
      go_wp2_with (at_builtin; refine wpList_push _ rfl (.tmp 6) (.tmp 9) _ rfl w.heap.size 5 i0 (.int .u8 0) 1 1 Try.underlying33 hi0 hz0 hz1 hz2 rfl (by decide) u3 k _ rfl hown rfl rfl (by simp [Value.oneCell']) (by unfold maxLen; omega) (by omega) hb2 ?_; intro v2 w2 hown2 hg2 hs2 hat2)
      have hb3 := below_grown hb hown hg2 hb2
      refine ⟨⟨k + 1, by omega, by go_num, int_eq ?_, ?_, hb3⟩, by simp [intOf]; omega⟩
      · rw [Nat.pow_succ, ← Nat.div_div_eq_div_mul, Hm.out]
        push_cast
        rfl
      · have hv : Value.int .u8 ((m : Int) % 256) = bv (UInt8.ofNat (m % 256)) := by
          unfold bv
          congr 1
          simp [UInt8.toNat_ofNat']
        rw [hv] at hown2
        rw [fixN, Hm.out]
        simpa using hown2
    · have h4 : k = 4 := by omega
      subst h4
      go_wp2
      go_ret
      exact ⟨u3, rfl, hown, hb⟩

theorem Fixed_any (n : Nat) (w : World) :
    Calls Try.prog 31 #[.int .u32 (n : Int)] w fun e w' => ∃ A' c', e = .returned (.slice A' 4 c') ∧ Made w' w.heap.size 5 1 A' 4 c' ((fixB n).map bv) ∧ Below w.heap.size w w' := by
  refine (Fixed_own n w).mono fun e w' ⟨v, he, ho, hb⟩ => ?_
  obtain ⟨A', c', rfl, hm⟩ := made_of_own ho
  exact ⟨A', c', he, hm, hb⟩
theorem Fixed_is (n : Nat) (w : World) (bs : List UInt8) (h : fixB n = bs) :
    Calls Try.prog 31 #[.int .u32 (n : Int)] w fun e w' => ∃ A' c', e = .returned (.slice A' 4 c') ∧ Made w' w.heap.size 5 1 A' 4 c' (bs.map bv) ∧ Below w.heap.size w w' := by
  subst h
  exact Fixed_any n w
theorem ret_of {a : Nat} {v b : Int} {r : Nat × Int} (hv : v = (a : Int)) (h : r = (a, b)) : Ending.returned (.tuple #[.int .u32 v, .int .i64 b]) = Ending.returned (.tuple #[.int .u32 (r.1 : Int), iv r.2]) := by subst h; subst hv; rfl

set_option maxHeartbeats 1000000 in
theorem Of_any (A : Option Addr) (m c : Nat) (l : List UInt8) (at_ : Int) (B : Nat) (w : World) (hr : Rd w B 1 A m (l.map bv)) (hcl : m ≤ maxLen) :
    Calls Try.prog 28 #[.slice A m c, .int .i64 at_] w fun e w' => e = .returned (.tuple #[.int .u32 ((ofB l at_).1 : Int), iv (ofB l at_).2]) ∧ w = w' := by
  unfold maxLen at hcl
  have hlen : l.length = m := by simpa using hr.1
  have Hlen := Lib.hid hlen
  have Hr := Lib.hid hr
  clear hlen hr
  by_cases hlo : at_ < 0
  · have hfin : ofB l at_ = (0, 2) := by rw [ofB, if_pos (.inl hlo)]
    have Hfin := Lib.hid hfin
    clear hfin
    go_enter Try.func28, Try.ntmps28
    go_wp2
    go_ret2
    exact ⟨ret_of rfl Hfin.out, rfl⟩
  by_cases hhi : (m : Int) < at_
  · have hfin : ofB l at_ = (0, 2) := by rw [ofB, if_pos (.inr (by rw [Hlen.out]; exact hhi))]
    have Hfin := Lib.hid hfin
    clear hfin
    go_enter Try.func28, Try.ntmps28
    go_wp2
    go_ret2
    exact ⟨ret_of rfl Hfin.out, rfl⟩
  by_cases hsh : (m : Int) - at_ < 4
  · have hfin : ofB l at_ = (0, 4) := by rw [ofB, if_neg (by rw [Hlen.out]; omega), if_pos (by rw [Hlen.out]; omega)]
    have Hfin := Lib.hid hfin
    clear hfin
    go_enter Try.func28, Try.ntmps28
    go_wp2
    go_ret2
    exact ⟨ret_of rfl Hfin.out, rfl⟩
  obtain ⟨a, rfl⟩ := Int.eq_ofNat_of_zero_le (Int.not_lt.1 hlo)
  have hfin : ofB l (a : Int) = (ofN l a 4, 0) := by rw [ofB, if_neg (by rw [Hlen.out]; omega), if_neg (by rw [Hlen.out]; omega)]; rfl
  have Hfin := Lib.hid hfin
  have ham : a + 4 ≤ m := by omega
  have hd1 : decide ((a : Int) < 0) = false := by simp
  have hd2 : decide (m < a) = false := by simp; omega
  have hd3 : decide ((m : Int) - (a : Int) < 4) = false := by simp; omega
  clear hfin hlo hhi hsh
  go_enter Try.func28, Try.ntmps28
  go_wp2
  go_loop [6, 23] (fun n i => ∃ k : Nat, k ≤ 4 ∧ i = .int .i64 k ∧ n = .int .u32 (ofN l a k : Int)) (fun _ i => 4 - (intOf i).toNat)
  case atStart => exact ⟨0, Nat.zero_le _, rfl, rfl⟩
  case round =>
    obtain ⟨k, hk, rfl, rfl⟩ := hrel
    by_cases hlt : k < 4
    · obtain ⟨b, off, u, rfl, hbl, hu, hc⟩ := Hr.out.get (k := a + k) (by omega)
      have hx : ∃ x, l[a + k]? = some x := ⟨l[a + k]'(by have := Hlen.out; omega), List.getElem?_eq_getElem (by have := Hlen.out; omega)⟩
      obtain ⟨x, hx⟩ := hx
      simp only [List.getElem?_map, hx, Option.map_some, Option.some.injEq] at hu
      subst hu
      unfold bv at hc
      have hs : ofN l a (k + 1) = ofN l a k + x.toNat * 256 ^ k := by rw [ofN, hx]; rfl
      have hlt2 := ofN_lt l a k
      have Hs := Lib.hid hs
      have Hlt2 := Lib.hid hlt2
      generalize ofN l a k = acc at *
      have hx256 : x.toNat < 256 := x.toNat_lt
      clear hx hs hlt2
      go_wp2
      refine ⟨⟨k + 1, by omega, by go_num, int_eq ?_⟩, by simp [intOf]; omega⟩
      rw [Hs.out]
      exact join_byte acc x.toNat k Hlt2.out hx256 hlt
    · have h4 : k = 4 := by omega
      subst h4
      go_wp2
      go_ret2
      exact ⟨ret_of rfl Hfin.out, rfl⟩
theorem Of_is (A : Option Addr) (m c : Nat) (l : List UInt8) (at_ : Int) (B : Nat) (w : World) (n : Nat) (k : Int) (h : ofB l at_ = (n, k)) (hr : Rd w B 1 A m (l.map bv)) (hcl : m ≤ maxLen) :
    Calls Try.prog 28 #[.slice A m c, .int .i64 at_] w fun e w' => e = .returned (.tuple #[.int .u32 (n : Int), .int .i64 k]) ∧ w = w' :=
  (Of_any A m c l at_ B w hr hcl).mono fun e w' ⟨he, hw⟩ => ⟨by rw [he, h]; rfl, hw⟩
end Go.Proofs.Ythcoldomeedbnaa
