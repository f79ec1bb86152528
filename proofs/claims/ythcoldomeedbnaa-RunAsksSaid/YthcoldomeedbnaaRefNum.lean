/- The walks of the document's answer on numbers as bytes: scrimshawref16.Put, Get, Fixed, Of compute the same plain functions as the program's. No conditions. -/
import Derived.Test.YthcoldomeedbnaaNumLaws
import Derived.Test.YthcoldomeedbnaaNumMath
import Derived.OpenShut
import Derived.BigQuiet
import Derived.Deep.QuietTactic
namespace Go.Proofs.Ythcoldomeedbnaa
open Go.RowKit
set_option linter.unusedVariables false
theorem str_of_one (W : World) (z : Int) : (convert 33 9 (.slice (some ⟨W.heap.size, 0, none⟩) 1 1)).run Try.prog (W.alloc (.cells #[.int .u8 z] 5)) = .ok (.string ⟨#[UInt8.ofNat z.toNat]⟩) (W.alloc (.cells #[.int .u8 z] 5)) := by
  have := run_convert_bytes_arg (P := Try.prog) (W.alloc (.cells #[.int .u8 z] 5)) 33 5 Try.underlying33 Try.underlying5 W.heap.size 0 1 1 [z] rfl (fun i hi => by
    have : i = 0 := by omega
    subst this
    rw [(Bk.new W _ _).cell]
    rfl) 9 Try.underlying9
  rw [this]
  rfl
theorem ref_last (n : Nat) (h : n < 18446744073709551616) : UInt8.ofNat (bits BinOp.and IntKind.u64 (n : Int) 127 % 256).toNat = UInt8.ofNat (n % 128) := by
  have := u64_and_nat n 127 h (by omega)
  rw [nat_mask7] at this
  rw [show (127 : Int) = ((127 : Nat) : Int) from rfl, this]
  congr 1
  omega
theorem ref_mid (m : Nat) (h : m < 18446744073709551616) : UInt8.ofNat (bits BinOp.or IntKind.u8 (bits BinOp.and IntKind.u64 ((m : Int) / 128) 127 % 256) 128).toNat = UInt8.ofNat (m / 128 % 128 + 128) := by
  have := u64_and_nat (m / 128) 127 (by omega) (by omega)
  rw [nat_mask7] at this
  rw [show ((m : Int) / 128) = ((m / 128 : Nat) : Int) by omega, show (127 : Int) = ((127 : Nat) : Int) from rfl, this, or128]
  congr 1
  omega
theorem str_cons (a : UInt8) (x : List UInt8) : (⟨#[a]⟩ : ByteArray) ++ ⟨x.toArray⟩ = ⟨(a :: x).toArray⟩ := by
  apply ByteArray.ext
  rw [ByteArray.data_append]
  simp
theorem str_append (x y : List UInt8) : (⟨x.toArray⟩ : ByteArray) ++ ⟨y.toArray⟩ = ⟨(x ++ y).toArray⟩ := by
  apply ByteArray.ext
  rw [ByteArray.data_append]
  simp
set_option maxRecDepth 100000 in
set_option maxHeartbeats 1000000 in
theorem refPut_any (n : Nat) (w : World) (hn : n < 18446744073709551616) :
    Calls Try.prog 30 #[.int .u64 (n : Int)] w fun e w' => e = .returned (.string ⟨(encB n).toArray⟩) ∧ Below w.heap.size w w' := by
  have H := Lib.hid hn
  clear hn
  have hst := str_of_one
  go_enter Try.func30, Try.ntmps30
  go_wp2
  go_loopw [0, 3] (fun v s wr => ∃ (m : Nat) (x : List UInt8), m < 18446744073709551616 ∧ v = .int .u64 (m : Int) ∧ s = .string ⟨x.toArray⟩ ∧ preB 10 (m / 128) ++ x = encB n ∧ Below w.heap.size w wr) (fun v _ _ => (intOf v).toNat)
  case atStart => exact ⟨n, [UInt8.ofNat (n % 128)], H.out, rfl, by rw [ref_last n H.out], rfl, (Below.refl _ _).alloc (Nat.le_refl _) _⟩
  case round =>
    obtain ⟨m, x, hm, rfl, rfl, hx, hb⟩ := hrel
    have Hm := Lib.hid hm
    have Hx := Lib.hid hx
    have hs := hb.size
    have hx11 : x.length ≤ 11 := by
      have := encB_len n
      rw [← hx, List.length_append] at this
      omega
    clear hm hx
    go_wp2
    · have hge : (128 : Int) ≤ (m : Int) := by assumption
      refine ⟨⟨m / 128, UInt8.ofNat (m / 128 % 128 + 128) :: x, by have := Hm.out; omega, int_eq (by omega), ?_, ?_, hb.alloc hs _⟩, by simp [intOf]; omega⟩
      · rw [ref_mid m Hm.out, str_cons]
      · rw [← Hx.out, preB_step (m / 128) (by omega) (by have := Hm.out; omega), List.append_assoc]
        rfl
    · have hlt : (m : Int) < 128 := by assumption
      go_ret
      refine ⟨?_, hb⟩
      have h0 : m / 128 = 0 := by omega
      have hx := Hx.out
      rw [h0, preB_zero, List.nil_append] at hx
      rw [← hx]
      rfl
theorem get_at (s : ByteArray) (k : Nat) (h : k < s.size) : s.data.toList[k]? = some s[k] := by
  rw [List.getElem?_eq_getElem (by simpa using h)]
  rfl
set_option maxRecDepth 100000 in
set_option maxHeartbeats 1000000 in
theorem refGet_any (s : ByteArray) (at_ : Int) (w : World) (hcl : s.size ≤ maxLen) :
    Calls Try.prog 27 #[.string s, .int .i64 at_] w fun e w' => e = .returned (.tuple #[uv (getB s.data.toList at_).1, iv (getB s.data.toList at_).2.1, iv (getB s.data.toList at_).2.2]) ∧ w = w' := by
  unfold maxLen at hcl
  have hlen : s.data.toList.length = s.size := by simp
  have Hlen := Lib.hid hlen
  clear hlen
  by_cases hlo : at_ < 0
  · have hfin : getB s.data.toList at_ = (0, at_, 2) := by rw [getB, if_pos (.inl hlo)]
    have Hfin := Lib.hid hfin
    clear hfin
    go_enter Try.func27, Try.ntmps27
    go_wp2
    go_ret3
    exact ⟨ret_get Hfin.out, rfl⟩
  by_cases hhi : (s.size : Int) < at_
  · have hfin : getB s.data.toList at_ = (0, at_, 2) := by rw [getB, if_pos (.inr (by rw [Hlen.out]; exact hhi))]
    have Hfin := Lib.hid hfin
    clear hfin
    go_enter Try.func27, Try.ntmps27
    go_wp2
    go_ret3
    exact ⟨ret_get Hfin.out, rfl⟩
  obtain ⟨k, rfl⟩ := Int.eq_ofNat_of_zero_le (Int.not_lt.1 hlo)
  have hkm : k ≤ s.size := by omega
  have hfin : getB s.data.toList (k : Int) = match getGo (s.data.toList.drop k) true 0 k with | some (n, p) => (n, (p : Int), 0) | none => (0, (k : Int), 4) := by
    rw [getB, if_neg (by rw [Hlen.out]; omega)]; rfl
  have Hfin := Lib.hid hfin
  have hd1 : decide ((k : Int) < 0) = false := by simp
  have hd2 : decide (s.size < k) = false := by simp; omega
  clear hfin hlo hhi
  go_enter Try.func27, Try.ntmps27
  go_wp2
  go_loop [7, 8] (fun n i => ∃ j acc : Nat, j ≤ s.size ∧ k ≤ j ∧ i = .int .i64 j ∧ n = .int .u64 acc ∧ getGo (s.data.toList.drop j) (j == k) acc j = getGo (s.data.toList.drop k) true 0 k) (fun _ i => s.size - (intOf i).toNat)
  case atStart => exact ⟨k, 0, hkm, Nat.le_refl _, rfl, rfl, by simp⟩
  case round =>
    obtain ⟨j, acc, hj, hkj, rfl, rfl, hg⟩ := hrel
    have Hg := Lib.hid hg
    clear hg
    by_cases hlt : j < s.size
    · have hdr : s.data.toList.drop j = s[j] :: s.data.toList.drop (j + 1) := by
        have hl : j < s.data.toList.length := by have := Hlen.out; omega
        rw [List.drop_eq_getElem_cons hl]
        rfl
      rw [hdr, getGo_cons] at Hg
      have hidx := run_str_idx (P := Try.prog) 9 Try.underlying9 s j hlt
      clear hdr
      generalize s[j] = x at hidx Hg
      have hx256 : x.toNat < 256 := UInt8.toNat_lt _
      by_cases hacc : acc ≤ 144115188075855871
      · have hacc1 : decide ((144115188075855872 : Int) ≤ (acc : Int)) = false := by simp; omega
        have hstep := acc_step acc x.toNat hacc hx256
        have Hstep := Lib.hid hstep
        have hn : getB s.data.toList (k : Int) = getB s.data.toList (k : Int) → True := fun _ => trivial
        clear hstep hn
        have key : ∀ b : Bool, (j == k) = b → (b && (x.toNat == 128)) = false → getGo (s.data.toList.drop k) true 0 k = if x.toNat < 128 then some (acc * 128 + x.toNat % 128, j + 1) else getGo (s.data.toList.drop (j + 1)) false (acc * 128 + x.toNat % 128) (j + 1) := by
          intro b h1 h2
          rw [← Hg.out, h1, if_neg]
          simp only [h2, Bool.false_or, decide_eq_true_eq]
          omega
        have Key := Lib.hid key
        clear key
        by_cases hjk : j = k
        · have hjk1 : ((j : Int) == (k : Int)) = true := by rw [beq_iff_eq]; omega
          have hjk2 : (j == k) = true := by rw [beq_iff_eq]; exact hjk
          have Hjk := Lib.hid hjk2
          by_cases h128 : x.toNat = 128
          · have h3 : ((x.toNat : Int) == 128) = true := by rw [beq_iff_eq]; omega
            have hg := Hg.out
            rw [hjk2, h128] at hg
            have Hg' := Lib.hid hg
            clear hjk hkj hjk2 h128 hg
            go_wp2
            go_ret3
            refine ⟨ret_get ?_, rfl⟩
            rw [Hfin.out, ← Hg'.out, if_pos (by simp)]
          · have h3 : ((x.toNat : Int) == 128) = false := by rw [beq_eq_false_iff_ne]; omega
            have hk := Key.out true Hjk.out (by simp [h128])
            have Hk := Lib.hid hk
            clear hjk hjk2 h128 hk
            go_wp2
            · have hlt : (x.toNat : Int) < 128 := by assumption
              go_ret3
              refine ⟨ret_get' Hstep.out ?_ (b := ((j + 1 : Nat) : Int)) ?_, rfl⟩
              · push_cast; rfl
              · rw [Hfin.out, Hk.out, if_pos (by omega)]
            · have hge : (128 : Int) ≤ (x.toNat : Int) := by assumption
              refine ⟨⟨j + 1, acc * 128 + x.toNat % 128, by omega, by omega, by go_num, int_eq Hstep.out, ?_⟩, by simp [intOf]; omega⟩
              rw [Hk.out, if_neg (by omega), show ((j + 1) == k) = false by rw [beq_eq_false_iff_ne]; omega]
        · have hjk1 : ((j : Int) == (k : Int)) = false := by rw [beq_eq_false_iff_ne]; omega
          have hjk2 : (j == k) = false := by rw [beq_eq_false_iff_ne]; exact hjk
          have hk := Key.out false hjk2 (by simp)
          have Hk := Lib.hid hk
          clear hjk hjk2 hk
          go_wp2
          · have hlt : (x.toNat : Int) < 128 := by assumption
            go_ret3
            refine ⟨ret_get' Hstep.out ?_ (b := ((j + 1 : Nat) : Int)) ?_, rfl⟩
            · push_cast; rfl
            · rw [Hfin.out, Hk.out, if_pos (by omega)]
          · have hge : (128 : Int) ≤ (x.toNat : Int) := by assumption
            refine ⟨⟨j + 1, acc * 128 + x.toNat % 128, by omega, by omega, by go_num, int_eq Hstep.out, ?_⟩, by simp [intOf]; omega⟩
            rw [Hk.out, if_neg (by omega), show ((j + 1) == k) = false by rw [beq_eq_false_iff_ne]; omega]
      · have hacc1 : decide ((144115188075855872 : Int) ≤ (acc : Int)) = true := by simp; omega
        have hg := Hg.out
        rw [if_pos (by simp; omega)] at hg
        have Hg' := Lib.hid hg
        clear hg hacc
        by_cases hjk : j = k
        · have hjk1 : ((j : Int) == (k : Int)) = true := by rw [beq_iff_eq]; omega
          clear hjk hkj
          by_cases h128 : x.toNat = 128
          · have h3 : ((x.toNat : Int) == 128) = true := by rw [beq_iff_eq]; omega
            clear h128
            go_wp2
            go_ret3
            exact ⟨ret_get (by rw [Hfin.out, ← Hg'.out]), rfl⟩
          · have h3 : ((x.toNat : Int) == 128) = false := by rw [beq_eq_false_iff_ne]; omega
            clear h128
            go_wp2
            go_ret3
            exact ⟨ret_get (by rw [Hfin.out, ← Hg'.out]), rfl⟩
        · have hjk1 : ((j : Int) == (k : Int)) = false := by rw [beq_eq_false_iff_ne]; omega
          clear hjk hkj
          go_wp2
          go_ret3
          exact ⟨ret_get (by rw [Hfin.out, ← Hg'.out]), rfl⟩
    · have hjm : j = s.size := by omega
      have Hj := Lib.hid hjm
      clear hjm
      go_wp2
      go_ret3
      refine ⟨ret_get ?_, rfl⟩
      have hd : s.data.toList.drop j = [] := List.drop_eq_nil_of_le (by rw [Hlen.out]; have := Hj.out; omega)
      rw [Hfin.out, ← Hg.out, hd, getGo]
theorem refGet_is (l : List UInt8) (at_ : Int) (w : World) (n : Nat) (p k : Int) (h : getB l at_ = (n, p, k)) (hcl : (⟨l.toArray⟩ : ByteArray).size ≤ maxLen) :
    Calls Try.prog 27 #[.string ⟨l.toArray⟩, .int .i64 at_] w fun e w' => e = .returned (.tuple #[.int .u64 (n : Int), .int .i64 p, .int .i64 k]) ∧ w = w' :=
  (refGet_any ⟨l.toArray⟩ at_ w hcl).mono fun e w' ⟨he, hw⟩ => ⟨by rw [he, show (⟨l.toArray⟩ : ByteArray).data.toList = l from rfl, h]; rfl, hw⟩
theorem refPut_is (n : Nat) (w : World) (bs : List UInt8) (h : encB n = bs) (hn : n < 18446744073709551616) :
    Calls Try.prog 30 #[.int .u64 (n : Int)] w fun e w' => e = .returned (.string ⟨bs.toArray⟩) ∧ Below w.heap.size w w' := by
  subst h
  exact refPut_any n w hn
end Go.Proofs.Ythcoldomeedbnaa
