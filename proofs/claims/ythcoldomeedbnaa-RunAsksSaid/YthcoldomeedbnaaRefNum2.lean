/- The walks of the document's answer on numbers of four bytes: scrimshawref16.Fixed, Of compute the same plain functions as the program's. No conditions. -/
import Derived.Test.YthcoldomeedbnaaRefNum
namespace Go.Proofs.Ythcoldomeedbnaa
open Go.RowKit
set_option linter.unusedVariables false
theorem or_sum (a b i : Nat) (h1 : a < 2 ^ i) (h2 : b % 2 ^ i = 0) (ha : a < 4294967296) (hb : b < 4294967296) : bits .or .u32 (a : Int) (b : Int) = ((a + b : Nat) : Int) := by
  rw [u32_or_nat _ _ ha hb, Nat.or_comm, nat_join i b a h2 h1, Nat.add_comm]
theorem str_of_four (W : World) (a b c d : Int) : (convert 33 9 (.slice (some ⟨W.heap.size, 0, none⟩) 4 4)).run Try.prog (W.alloc (.cells #[.int .u8 a, .int .u8 b, .int .u8 c, .int .u8 d] 5)) =
    .ok (.string ⟨#[UInt8.ofNat a.toNat, UInt8.ofNat b.toNat, UInt8.ofNat c.toNat, UInt8.ofNat d.toNat]⟩) (W.alloc (.cells #[.int .u8 a, .int .u8 b, .int .u8 c, .int .u8 d] 5)) := by
  have := run_convert_bytes_arg (P := Try.prog) (W.alloc (.cells #[.int .u8 a, .int .u8 b, .int .u8 c, .int .u8 d] 5)) 33 5 Try.underlying33 Try.underlying5 W.heap.size 0 4 4 [a, b, c, d] rfl (fun i hi => by
    rw [Nat.zero_add, (Bk.new W _ _).cell]
    match i, hi with
    | 0, _ => rfl
    | 1, _ => rfl
    | 2, _ => rfl
    | 3, _ => rfl) 9 Try.underlying9
  rw [this]
  rfl
set_option maxRecDepth 100000 in
set_option maxHeartbeats 1000000 in
theorem refFixed_any (n : Nat) (w : World) (hn : n < 4294967296) :
    Calls Try.prog 32 #[.int .u32 (n : Int)] w fun e w' => e = .returned (.string ⟨(fixB n).toArray⟩) ∧ Below w.heap.size w w' := by
  have hst := str_of_four
  go_enter Try.func32, Try.ntmps32
  go_wp2
  go_ret
  refine ⟨?_, (Below.refl _ _).alloc (Nat.le_refl _) _⟩
  show Ending.returned (.string _) = _
  simp only [fixB, fixN, List.nil_append, List.cons_append, Nat.reducePow, Nat.div_one]
  have h4 : n / 16777216 % 256 = n / 16777216 := by omega
  rw [h4]
set_option maxRecDepth 100000 in
set_option maxHeartbeats 1000000 in
theorem refOf_any (s : ByteArray) (at_ : Int) (w : World) (hcl : s.size ≤ 1000000) :
    Calls Try.prog 29 #[.string s, .int .i64 at_] w fun e w' => e = .returned (.tuple #[.int .u32 ((ofB s.data.toList at_).1 : Int), iv (ofB s.data.toList at_).2]) ∧ Below w.heap.size w w' := by
  have hlen : s.data.toList.length = s.size := by simp
  have Hlen := Lib.hid hlen
  clear hlen
  by_cases hlo : at_ < 0
  · have hfin : ofB s.data.toList at_ = (0, 2) := by rw [ofB, if_pos (.inl hlo)]
    have Hfin := Lib.hid hfin
    clear hfin
    go_enter Try.func29, Try.ntmps29
    go_wp2
    go_ret2
    exact ⟨ret_of rfl Hfin.out, Below.refl _ _⟩
  by_cases hhi : (s.size : Int) < at_
  · have hfin : ofB s.data.toList at_ = (0, 2) := by rw [ofB, if_pos (.inr (by rw [Hlen.out]; exact hhi))]
    have Hfin := Lib.hid hfin
    clear hfin
    go_enter Try.func29, Try.ntmps29
    go_wp2
    go_ret2
    exact ⟨ret_of rfl Hfin.out, Below.refl _ _⟩
  by_cases hsh : (s.size : Int) < at_ + 4
  · have hfin : ofB s.data.toList at_ = (0, 4) := by rw [ofB, if_neg (by rw [Hlen.out]; omega), if_pos (by rw [Hlen.out]; omega)]
    have Hfin := Lib.hid hfin
    clear hfin
    go_enter Try.func29, Try.ntmps29
    go_wp2
    go_ret2
    exact ⟨ret_of rfl Hfin.out, Below.refl _ _⟩
  obtain ⟨a, rfl⟩ := Int.eq_ofNat_of_zero_le (Int.not_lt.1 hlo)
  have hfin : ofB s.data.toList (a : Int) = (ofN s.data.toList a 4, 0) := by rw [ofB, if_neg (by rw [Hlen.out]; omega), if_neg (by rw [Hlen.out]; omega)]; rfl
  have ham : a + 4 ≤ s.size := by omega
  have hd1 : decide ((a : Int) < 0) = false := by simp
  have hd2 : decide (s.size < a) = false := by simp; omega
  have hd3 : decide ((s.size : Int) < (a : Int) + 4) = false := by simp; omega
  have i0 := run_str_idx (P := Try.prog) 9 Try.underlying9 s a (by omega)
  have i1 : ∀ W, (Instr.index 9 (.string s) (.int .i64 ((a : Int) + 1))).run Try.prog W = _ := run_str_idx (P := Try.prog) 9 Try.underlying9 s (a + 1) (by omega)
  have i2 : ∀ W, (Instr.index 9 (.string s) (.int .i64 ((a : Int) + 2))).run Try.prog W = _ := run_str_idx (P := Try.prog) 9 Try.underlying9 s (a + 2) (by omega)
  have i3 : ∀ W, (Instr.index 9 (.string s) (.int .i64 ((a : Int) + 3))).run Try.prog W = _ := run_str_idx (P := Try.prog) 9 Try.underlying9 s (a + 3) (by omega)
  have g0 := get_at s a (by omega)
  have g1 := get_at s (a + 1) (by omega)
  have g2 := get_at s (a + 2) (by omega)
  have g3 := get_at s (a + 3) (by omega)
  generalize s[a] = x0 at i0 g0
  generalize s[a + 1] = x1 at i1 g1
  generalize s[a + 2] = x2 at i2 g2
  generalize s[a + 3] = x3 at i3 g3
  have hs : ofN s.data.toList a 4 = x0.toNat + x1.toNat * 256 + x2.toNat * 65536 + x3.toNat * 16777216 := by
    simp only [ofN, Nat.add_zero, g0, g1, g2, g3, Option.getD_some]
    omega
  rw [hs] at hfin
  have Hfin := Lib.hid hfin
  have b0 : x0.toNat < 256 := UInt8.toNat_lt _
  have b1 : x1.toNat < 256 := UInt8.toNat_lt _
  have b2 : x2.toNat < 256 := UInt8.toNat_lt _
  have b3 : x3.toNat < 256 := UInt8.toNat_lt _
  clear hfin hlo hhi hsh hs g0 g1 g2 g3
  go_enter Try.func29, Try.ntmps29
  go_wp2
  go_quiet (fail)
  go_wp2
  go_ret2
  refine ⟨ret_of ?_ Hfin.out, below_drewN (Below.refl _ _) _⟩
  have e1 := or_sum x0.toNat (x1.toNat * 256) 8 (by omega) (by omega) (by omega) (by omega)
  have e2 := or_sum (x0.toNat + x1.toNat * 256) (x2.toNat * 65536) 16 (by omega) (by omega) (by omega) (by omega)
  have e3 := or_sum (x0.toNat + x1.toNat * 256 + x2.toNat * 65536) (x3.toNat * 16777216) 24 (by omega) (by omega) (by omega) (by omega)
  have c1 : ((x1.toNat : Int) * 256) = ((x1.toNat * 256 : Nat) : Int) := by omega
  have c2 : ((x2.toNat : Int) * 65536) = ((x2.toNat * 65536 : Nat) : Int) := by omega
  have c3 : ((x3.toNat : Int) * 16777216) = ((x3.toNat * 16777216 : Nat) : Int) := by omega
  show bits .or .u32 (bits .or .u32 (bits .or .u32 (x0.toNat : Int) ((x1.toNat : Int) * 256)) ((x2.toNat : Int) * 65536)) ((x3.toNat : Int) * 16777216) = _
  rw [c1, e1, c2, e2, c3, e3]
theorem refOf_is (l : List UInt8) (at_ : Int) (w : World) (n : Nat) (k : Int) (h : ofB l at_ = (n, k)) (hcl : (⟨l.toArray⟩ : ByteArray).size ≤ 1000000) :
    Calls Try.prog 29 #[.string ⟨l.toArray⟩, .int .i64 at_] w fun e w' => e = .returned (.tuple #[.int .u32 (n : Int), .int .i64 k]) ∧ Below w.heap.size w w' :=
  (refOf_any ⟨l.toArray⟩ at_ w hcl).mono fun e w' ⟨he, hw⟩ => ⟨by rw [he, show (⟨l.toArray⟩ : ByteArray).data.toList = l from rfl, h]; rfl, hw⟩
theorem refFixed_is (n : Nat) (w : World) (bs : List UInt8) (h : fixB n = bs) (hn : n < 4294967296) :
    Calls Try.prog 32 #[.int .u32 (n : Int)] w fun e w' => e = .returned (.string ⟨bs.toArray⟩) ∧ Below w.heap.size w w' := by
  subst h
  exact refFixed_any n w hn
end Go.Proofs.Ythcoldomeedbnaa
