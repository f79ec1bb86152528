/- The walk of the law NumAsks. No conditions. -/
import Derived.Test.YthcoldomeedbnaaRefNum2
import Derived.Test.YthcoldomeedbnaaLoose
namespace Go.Proofs.Ythcoldomeedbnaa
open Go.RowKit
set_option linter.unusedVariables false
theorem str_at {w W : World} {A : Option Addr} {n : Nat} {l : List UInt8} (h : Rd w w.heap.size 1 A n (l.map bv)) (hb : Below w.heap.size w W) : ∀ c, (convert 33 9 (.slice A n c)).run Try.prog W = .ok (.string ⟨l.toArray⟩) W :=
  fun c => run_str_rd (P := Try.prog) 33 9 5 Try.underlying33 Try.underlying5 Try.underlying9 (h.below hb)
set_option maxRecDepth 100000 in
set_option maxHeartbeats 4000000 in
theorem walkNumAsks (w : World) (a : Int) (ha : (Lit.int .u64 a).wf = true) (c : Int) (hc : (Lit.int .u64 c).wf = true) (s : Int) (hs : (Lit.int .u32 s).wf = true)
    (A0 : Option Addr) (m0 c0 : Nat) (l : List UInt8) (hr0 : Rd w w.heap.size 1 A0 m0 (l.map bv)) (hmc0 : m0 ≤ c0) (hcl0 : c0 ≤ maxLen) (at_ : Int) (hat : (Lit.int .i64 at_).wf = true) :
    Calls Try.prog 7 #[.int .u64 a, .int .u64 c, .int .u32 s, .slice A0 m0 c0, .int .i64 at_] w fun e w' => e = .returned (.bool true) ∧ Below w.heap.size w w' := by
  have hba := bounds_u64 ha
  have hbc := bounds_u64 hc
  have hbs := bounds_u32 hs
  obtain ⟨x, rfl⟩ := Int.eq_ofNat_of_zero_le hba.1
  obtain ⟨y, rfl⟩ := Int.eq_ofNat_of_zero_le hbc.1
  obtain ⟨z, rfl⟩ := Int.eq_ofNat_of_zero_le hbs.1
  have Hx := Lib.hid (show x < 18446744073709551616 by omega)
  have Hy := Lib.hid (show y < 18446744073709551616 by omega)
  have Hz := Lib.hid (show z < 4294967296 by omega)
  have hll : l.length = m0 := by simpa using hr0.1
  have Hll := Lib.hid hll
  have Hr0 := Lib.hid hr0
  have hB0 := Below.refl w.heap.size w
  clear ha hc hs hba hbc hbs hll hr0 hat
  by_cases h40 : m0 ≤ 40
  · obtain ⟨bx, hbx⟩ : ∃ bx, encB x = bx := ⟨_, rfl⟩
    obtain ⟨by_, hby⟩ : ∃ by_, encB y = by_ := ⟨_, rfl⟩
    have hl1 : bx.length ≤ 11 := by rw [← hbx]; exact encB_len x
    have hl2 : by_.length ≤ 11 := by rw [← hby]; exact encB_len y
    obtain ⟨n, hn⟩ : ∃ n, encAll [x, y] = bx ++ by_ ∧ (bx ++ by_).length = n := ⟨_, by simp [encAll, hbx, hby], rfl⟩
    obtain ⟨bz, hbz⟩ : ∃ bz, fixB z = bz := ⟨_, rfl⟩
    have happ := str_append bx by_
    have Hbx := Lib.hid hbx
    have Hby := Lib.hid hby
    have Hbz := Lib.hid hbz
    have Hn := Lib.hid hn
    obtain ⟨gn, gp, ge, hg⟩ : ∃ gn gp ge, getB l at_ = (gn, gp, ge) := ⟨_, _, _, rfl⟩
    obtain ⟨on, oe, ho⟩ : ∃ on oe, ofB l at_ = (on, oe) := ⟨_, _, rfl⟩
    have Hg := Lib.hid hg
    have Ho := Lib.hid ho
    have hsz : (⟨l.toArray⟩ : ByteArray).size = m0 := by rw [← Hll.out]; simp [ByteArray.size]
    have Hsz := Lib.hid hsz
    have hst := str_at Hr0.out hB0
    have hm0 : m0 ≤ maxLen := by omega
    clear hg ho hsz hn hbx hby hbz
    go_enter Try.func7, Try.ntmps7
    go_wp2_with (first
      | (go_at_call 26; refine (Get_is _ _ _ _ _ _ _ _ _ _ Hg.out Hr0.out hmc0 hcl0).mono ?_; rintro e w5 ⟨rfl, rfl⟩)
      | (go_at_call 28; refine (Of_is _ _ _ _ _ _ _ _ _ Ho.out Hr0.out hm0).mono ?_; rintro e w5 ⟨rfl, rfl⟩)
      | (go_at_call 27; refine (refGet_is _ _ _ _ _ _ Hg.out (by rw [Hsz.out]; omega)).mono ?_; rintro e w5 ⟨rfl, rfl⟩)
      | (go_at_call 29; refine (refOf_is _ _ _ _ _ Ho.out (by rw [Hsz.out]; omega)).mono ?_; rintro e w5 ⟨rfl, hb5⟩))
    have hB5 := hb5.drew
    clear hb5 hst
    refine wp_region_any (by kernel_rfl) ?_
    refine wpAny_loose Grow (Vs [is (.bool true), is (.bool true), is (.int .u64 (x : Int)), is (.int .u64 (y : Int)), row 1 2 [.int .u64 (x : Int), .int .u64 (y : Int)], row 1 n ((bx ++ by_).map bv), is (.string ⟨(bx ++ by_).toArray⟩), is (.int .u64 (x : Int)), is (.string ⟨bx.toArray⟩), is (.int .u64 (y : Int)), is (.string ⟨by_.toArray⟩), is (.string ⟨(bx ++ by_).toArray⟩), is (.bool true), is (.bool true), is (.bool true), is (.int .u64 (gn : Int)), is (.int .u64 (gn : Int)), is (.bool true), is (.bool true), is (.bool true), is (.int .i64 gp), is (.int .i64 gp), is (.bool true), is (.bool true), is (.bool true), is (.int .i64 ge), is (.int .i64 ge), is (.bool true), is (.bool true), is (.bool true), is (.int .u32 (z : Int)), row 1 4 (bz.map bv), is (.string ⟨bz.toArray⟩), is (.int .u32 (z : Int)), is (.string ⟨bz.toArray⟩), is (.bool true), is (.bool true), is (.bool true), is (.int .u32 (on : Int)), is (.int .u32 (on : Int)), is (.bool true), is (.bool true), is (.bool true), is (.int .i64 oe), is (.int .i64 oe), is (.bool true), is (.bool true), is (.bool true)]) _ _ (by kernel_rfl) (Below.refl _ _) (fun _ _ => Grow.trans) (stb_all (by repeat' (first | exact stb_is _ | exact stb_row _ _ _ | (refine List.forall_mem_cons.2 ⟨?_, ?_⟩) | (intro p hp; cases hp)))) ?_ ?_
    · refine steps_of ?_
      refine steps_cons ?_ ?_
      · refine step_on rfl rfl ?_
        intro ev w5 hS hc hf hold hval a K ha hK
        go_simp
        refine (told16_any _).mono ?_
        rintro e w6 ⟨rfl, hb6⟩
        exact hK _ _ hb6 rfl
      refine steps_cons ?_ ?_
      · refine step_on rfl rfl ?_
        intro ev w5 hS hc hf hold hval a K ha hK
        have e53 : ev (.tmp 53) = .bool true := hval 0 53 (by kernel_rfl) rfl
        go_simp
        exact hK _ _ (Below.refl _ _) rfl
      refine steps_cons ?_ ?_
      · refine step_guard (d := 54) (b := true) rfl rfl rfl (by kernel_rfl) (fun _ _ _ h => h) ?_
        intro ev w5 hS hc hf hold hval a K ha hK
        have e0 : ev (.tmp 0) = .int .u64 (x : Int) := hold 0 (by kernel_rfl)
        go_simp
        exact hK _ _ (Below.refl _ _) rfl
      refine steps_cons ?_ ?_
      · refine step_guard (d := 54) (b := true) rfl rfl rfl (by kernel_rfl) (fun _ _ _ h => h) ?_
        intro ev w5 hS hc hf hold hval a K ha hK
        have e1 : ev (.tmp 1) = .int .u64 (y : Int) := hold 1 (by kernel_rfl)
        go_simp
        exact hK _ _ (Below.refl _ _) rfl
      refine steps_cons ?_ ?_
      · refine step_guard (d := 54) (b := true) rfl rfl rfl (by kernel_rfl) (fun _ _ _ h => h) ?_
        intro ev w5 hS hc hf hold hval a K ha hK
        have e55 : ev (.tmp 55) = .int .u64 (x : Int) := hval 2 55 (by kernel_rfl) rfl
        have e56 : ev (.tmp 56) = .int .u64 (y : Int) := hval 3 56 (by kernel_rfl) rfl
        go_simp
        exact hK _ _ ((Below.refl _ _).alloc (Nat.le_refl _) _) ⟨_, _, rfl, Rd.made _ _ 1 2 _ rfl, by omega, by unfold maxLen; omega⟩
      refine steps_cons ?_ ?_
      · refine step_guard (d := 54) (b := true) rfl rfl rfl (by kernel_rfl) (fun _ _ _ h => h) ?_
        intro ev w5 hS hc hf hold hval a K ha hK
        obtain ⟨A57, c57, e57, hr57, hk57, hm57⟩ : row 1 2 [.int .u64 (x : Int), .int .u64 (y : Int)] (ev (.tmp 57)) w5 := hval 4 57 (by kernel_rfl) rfl
        go_simp
        refine (Put_is _ _ _ _ [x, y] _ (bx ++ by_) n Hn.out.1 Hn.out.2 hr57 (Nat.le_refl _) (by simp; exact ⟨Hx.out, Hy.out⟩) (by omega)).mono ?_
        rintro e w7 ⟨A7, c7, rfl, hm7, hb7⟩
        exact hK _ _ hb7 ⟨_, _, rfl, hm7.rd, hm7.cap, hm7.max⟩
      refine steps_cons ?_ ?_
      · refine step_guard (d := 54) (b := true) rfl rfl rfl (by kernel_rfl) (fun _ _ _ h => h) ?_
        intro ev w5 hS hc hf hold hval a K ha hK
        obtain ⟨A58, c58, e58, hr58, hk58, hm58⟩ : row 1 n ((bx ++ by_).map bv) (ev (.tmp 58)) w5 := hval 5 58 (by kernel_rfl) rfl
        have hs59 := str_at hr58 (Below.refl _ _)
        go_simp
        exact hK _ _ (Below.refl _ _) rfl
      refine steps_cons ?_ ?_
      · refine step_guard (d := 54) (b := true) rfl rfl rfl (by kernel_rfl) (fun _ _ _ h => h) ?_
        intro ev w5 hS hc hf hold hval a K ha hK
        have e0 : ev (.tmp 0) = .int .u64 (x : Int) := hold 0 (by kernel_rfl)
        go_simp
        exact hK _ _ (Below.refl _ _) rfl
      refine steps_cons ?_ ?_
      · refine step_guard (d := 54) (b := true) rfl rfl rfl (by kernel_rfl) (fun _ _ _ h => h) ?_
        intro ev w5 hS hc hf hold hval a K ha hK
        have e60 : ev (.tmp 60) = .int .u64 (x : Int) := hval 7 60 (by kernel_rfl) rfl
        go_simp
        refine (refPut_is x _ bx Hbx.out Hx.out).mono ?_
        rintro e w8 ⟨rfl, hb8⟩
        exact hK _ _ hb8 rfl
      refine steps_cons ?_ ?_
      · refine step_guard (d := 54) (b := true) rfl rfl rfl (by kernel_rfl) (fun _ _ _ h => h) ?_
        intro ev w5 hS hc hf hold hval a K ha hK
        have e1 : ev (.tmp 1) = .int .u64 (y : Int) := hold 1 (by kernel_rfl)
        go_simp
        exact hK _ _ (Below.refl _ _) rfl
      refine steps_cons ?_ ?_
      · refine step_guard (d := 54) (b := true) rfl rfl rfl (by kernel_rfl) (fun _ _ _ h => h) ?_
        intro ev w5 hS hc hf hold hval a K ha hK
        have e62 : ev (.tmp 62) = .int .u64 (y : Int) := hval 9 62 (by kernel_rfl) rfl
        go_simp
        refine (refPut_is y _ by_ Hby.out Hy.out).mono ?_
        rintro e w8 ⟨rfl, hb8⟩
        exact hK _ _ hb8 rfl
      refine steps_cons ?_ ?_
      · refine step_guard (d := 54) (b := true) rfl rfl rfl (by kernel_rfl) (fun _ _ _ h => h) ?_
        intro ev w5 hS hc hf hold hval a K ha hK
        have e61 : ev (.tmp 61) = .string ⟨bx.toArray⟩ := hval 8 61 (by kernel_rfl) rfl
        have e63 : ev (.tmp 63) = .string ⟨by_.toArray⟩ := hval 10 63 (by kernel_rfl) rfl
        go_simp
        rw [if_neg (by omega)]
        exact hK _ _ (Below.refl _ _) rfl
      refine steps_cons ?_ ?_
      · refine step_guard (d := 54) (b := true) rfl rfl rfl (by kernel_rfl) (fun _ _ _ h => h) ?_
        intro ev w5 hS hc hf hold hval a K ha hK
        have e59 : ev (.tmp 59) = .string ⟨(bx ++ by_).toArray⟩ := hval 6 59 (by kernel_rfl) rfl
        have e64 : ev (.tmp 64) = .string ⟨(bx ++ by_).toArray⟩ := hval 11 64 (by kernel_rfl) rfl
        go_simp
        exact hK _ _ (Below.refl _ _) rfl
      refine steps_cons ?_ ?_
      · refine step_on rfl rfl ?_
        intro ev w5 hS hc hf hold hval a K ha hK
        have e54 : ev (.tmp 54) = .bool true := hval 1 54 (by kernel_rfl) rfl
        have e65 : ev (.tmp 65) = .bool true := hval 12 65 (by kernel_rfl) rfl
        go_simp
        exact hK _ _ (Below.refl _ _) rfl
      refine steps_cons ?_ ?_
      · refine step_on rfl rfl ?_
        intro ev w5 hS hc hf hold hval a K ha hK
        have e66 : ev (.tmp 66) = .bool true := hval 13 66 (by kernel_rfl) rfl
        go_simp
        exact hK _ _ (Below.refl _ _) rfl
      refine steps_cons ?_ ?_
      · refine step_guard (d := 67) (b := true) rfl rfl rfl (by kernel_rfl) (fun _ _ _ h => h) ?_
        intro ev w5 hS hc hf hold hval a K ha hK
        have e11 : ev (.tmp 11) = .int .u64 (gn : Int) := hold 11 (by kernel_rfl)
        go_simp
        exact hK _ _ (Below.refl _ _) rfl
      refine steps_cons ?_ ?_
      · refine step_guard (d := 67) (b := true) rfl rfl rfl (by kernel_rfl) (fun _ _ _ h => h) ?_
        intro ev w5 hS hc hf hold hval a K ha hK
        have e14 : ev (.tmp 14) = .int .u64 (gn : Int) := hold 14 (by kernel_rfl)
        go_simp
        exact hK _ _ (Below.refl _ _) rfl
      refine steps_cons ?_ ?_
      · refine step_guard (d := 67) (b := true) rfl rfl rfl (by kernel_rfl) (fun _ _ _ h => h) ?_
        intro ev w5 hS hc hf hold hval a K ha hK
        have e68 : ev (.tmp 68) = .int .u64 (gn : Int) := hval 15 68 (by kernel_rfl) rfl
        have e69 : ev (.tmp 69) = .int .u64 (gn : Int) := hval 16 69 (by kernel_rfl) rfl
        go_simp
        exact hK _ _ (Below.refl _ _) rfl
      refine steps_cons ?_ ?_
      · refine step_on rfl rfl ?_
        intro ev w5 hS hc hf hold hval a K ha hK
        have e67 : ev (.tmp 67) = .bool true := hval 14 67 (by kernel_rfl) rfl
        have e70 : ev (.tmp 70) = .bool true := hval 17 70 (by kernel_rfl) rfl
        go_simp
        exact hK _ _ (Below.refl _ _) rfl
      refine steps_cons ?_ ?_
      · refine step_on rfl rfl ?_
        intro ev w5 hS hc hf hold hval a K ha hK
        have e71 : ev (.tmp 71) = .bool true := hval 18 71 (by kernel_rfl) rfl
        go_simp
        exact hK _ _ (Below.refl _ _) rfl
      refine steps_cons ?_ ?_
      · refine step_guard (d := 72) (b := true) rfl rfl rfl (by kernel_rfl) (fun _ _ _ h => h) ?_
        intro ev w5 hS hc hf hold hval a K ha hK
        have e12 : ev (.tmp 12) = .int .i64 gp := hold 12 (by kernel_rfl)
        go_simp
        exact hK _ _ (Below.refl _ _) rfl
      refine steps_cons ?_ ?_
      · refine step_guard (d := 72) (b := true) rfl rfl rfl (by kernel_rfl) (fun _ _ _ h => h) ?_
        intro ev w5 hS hc hf hold hval a K ha hK
        have e15 : ev (.tmp 15) = .int .i64 gp := hold 15 (by kernel_rfl)
        go_simp
        exact hK _ _ (Below.refl _ _) rfl
      refine steps_cons ?_ ?_
      · refine step_guard (d := 72) (b := true) rfl rfl rfl (by kernel_rfl) (fun _ _ _ h => h) ?_
        intro ev w5 hS hc hf hold hval a K ha hK
        have e73 : ev (.tmp 73) = .int .i64 gp := hval 20 73 (by kernel_rfl) rfl
        have e74 : ev (.tmp 74) = .int .i64 gp := hval 21 74 (by kernel_rfl) rfl
        go_simp
        exact hK _ _ (Below.refl _ _) rfl
      refine steps_cons ?_ ?_
      · refine step_on rfl rfl ?_
        intro ev w5 hS hc hf hold hval a K ha hK
        have e72 : ev (.tmp 72) = .bool true := hval 19 72 (by kernel_rfl) rfl
        have e75 : ev (.tmp 75) = .bool true := hval 22 75 (by kernel_rfl) rfl
        go_simp
        exact hK _ _ (Below.refl _ _) rfl
      refine steps_cons ?_ ?_
      · refine step_on rfl rfl ?_
        intro ev w5 hS hc hf hold hval a K ha hK
        have e76 : ev (.tmp 76) = .bool true := hval 23 76 (by kernel_rfl) rfl
        go_simp
        exact hK _ _ (Below.refl _ _) rfl
      refine steps_cons ?_ ?_
      · refine step_guard (d := 77) (b := true) rfl rfl rfl (by kernel_rfl) (fun _ _ _ h => h) ?_
        intro ev w5 hS hc hf hold hval a K ha hK
        have e13 : ev (.tmp 13) = .int .i64 ge := hold 13 (by kernel_rfl)
        go_simp
        exact hK _ _ (Below.refl _ _) rfl
      refine steps_cons ?_ ?_
      · refine step_guard (d := 77) (b := true) rfl rfl rfl (by kernel_rfl) (fun _ _ _ h => h) ?_
        intro ev w5 hS hc hf hold hval a K ha hK
        have e16 : ev (.tmp 16) = .int .i64 ge := hold 16 (by kernel_rfl)
        go_simp
        exact hK _ _ (Below.refl _ _) rfl
      refine steps_cons ?_ ?_
      · refine step_guard (d := 77) (b := true) rfl rfl rfl (by kernel_rfl) (fun _ _ _ h => h) ?_
        intro ev w5 hS hc hf hold hval a K ha hK
        have e78 : ev (.tmp 78) = .int .i64 ge := hval 25 78 (by kernel_rfl) rfl
        have e79 : ev (.tmp 79) = .int .i64 ge := hval 26 79 (by kernel_rfl) rfl
        go_simp
        exact hK _ _ (Below.refl _ _) rfl
      refine steps_cons ?_ ?_
      · refine step_on rfl rfl ?_
        intro ev w5 hS hc hf hold hval a K ha hK
        have e77 : ev (.tmp 77) = .bool true := hval 24 77 (by kernel_rfl) rfl
        have e80 : ev (.tmp 80) = .bool true := hval 27 80 (by kernel_rfl) rfl
        go_simp
        exact hK _ _ (Below.refl _ _) rfl
      refine steps_cons ?_ ?_
      · refine step_on rfl rfl ?_
        intro ev w5 hS hc hf hold hval a K ha hK
        have e81 : ev (.tmp 81) = .bool true := hval 28 81 (by kernel_rfl) rfl
        go_simp
        exact hK _ _ (Below.refl _ _) rfl
      refine steps_cons ?_ ?_
      · refine step_guard (d := 82) (b := true) rfl rfl rfl (by kernel_rfl) (fun _ _ _ h => h) ?_
        intro ev w5 hS hc hf hold hval a K ha hK
        have e2 : ev (.tmp 2) = .int .u32 (z : Int) := hold 2 (by kernel_rfl)
        go_simp
        exact hK _ _ (Below.refl _ _) rfl
      refine steps_cons ?_ ?_
      · refine step_guard (d := 82) (b := true) rfl rfl rfl (by kernel_rfl) (fun _ _ _ h => h) ?_
        intro ev w5 hS hc hf hold hval a K ha hK
        have e83 : ev (.tmp 83) = .int .u32 (z : Int) := hval 30 83 (by kernel_rfl) rfl
        go_simp
        refine (Fixed_is z _ bz Hbz.out).mono ?_
        rintro e w10 ⟨A10, c10, rfl, hm10, hb10⟩
        exact hK _ _ hb10 ⟨_, _, rfl, hm10.rd, hm10.cap, hm10.max⟩
      refine steps_cons ?_ ?_
      · refine step_guard (d := 82) (b := true) rfl rfl rfl (by kernel_rfl) (fun _ _ _ h => h) ?_
        intro ev w5 hS hc hf hold hval a K ha hK
        obtain ⟨A84, c84, e84, hr84, hk84, hm84⟩ : row 1 4 (bz.map bv) (ev (.tmp 84)) w5 := hval 31 84 (by kernel_rfl) rfl
        have hs85 := str_at hr84 (Below.refl _ _)
        go_simp
        exact hK _ _ (Below.refl _ _) rfl
      refine steps_cons ?_ ?_
      · refine step_guard (d := 82) (b := true) rfl rfl rfl (by kernel_rfl) (fun _ _ _ h => h) ?_
        intro ev w5 hS hc hf hold hval a K ha hK
        have e2 : ev (.tmp 2) = .int .u32 (z : Int) := hold 2 (by kernel_rfl)
        go_simp
        exact hK _ _ (Below.refl _ _) rfl
      refine steps_cons ?_ ?_
      · refine step_guard (d := 82) (b := true) rfl rfl rfl (by kernel_rfl) (fun _ _ _ h => h) ?_
        intro ev w5 hS hc hf hold hval a K ha hK
        have e86 : ev (.tmp 86) = .int .u32 (z : Int) := hval 33 86 (by kernel_rfl) rfl
        go_simp
        refine (refFixed_is z _ bz Hbz.out Hz.out).mono ?_
        rintro e w11 ⟨rfl, hb11⟩
        exact hK _ _ hb11 rfl
      refine steps_cons ?_ ?_
      · refine step_guard (d := 82) (b := true) rfl rfl rfl (by kernel_rfl) (fun _ _ _ h => h) ?_
        intro ev w5 hS hc hf hold hval a K ha hK
        have e85 : ev (.tmp 85) = .string ⟨bz.toArray⟩ := hval 32 85 (by kernel_rfl) rfl
        have e87 : ev (.tmp 87) = .string ⟨bz.toArray⟩ := hval 34 87 (by kernel_rfl) rfl
        go_simp
        exact hK _ _ (Below.refl _ _) rfl
      refine steps_cons ?_ ?_
      · refine step_on rfl rfl ?_
        intro ev w5 hS hc hf hold hval a K ha hK
        have e82 : ev (.tmp 82) = .bool true := hval 29 82 (by kernel_rfl) rfl
        have e88 : ev (.tmp 88) = .bool true := hval 35 88 (by kernel_rfl) rfl
        go_simp
        exact hK _ _ (Below.refl _ _) rfl
      refine steps_cons ?_ ?_
      · refine step_on rfl rfl ?_
        intro ev w5 hS hc hf hold hval a K ha hK
        have e89 : ev (.tmp 89) = .bool true := hval 36 89 (by kernel_rfl) rfl
        go_simp
        exact hK _ _ (Below.refl _ _) rfl
      refine steps_cons ?_ ?_
      · refine step_guard (d := 90) (b := true) rfl rfl rfl (by kernel_rfl) (fun _ _ _ h => h) ?_
        intro ev w5 hS hc hf hold hval a K ha hK
        have e17 : ev (.tmp 17) = .int .u32 (on : Int) := hold 17 (by kernel_rfl)
        go_simp
        exact hK _ _ (Below.refl _ _) rfl
      refine steps_cons ?_ ?_
      · refine step_guard (d := 90) (b := true) rfl rfl rfl (by kernel_rfl) (fun _ _ _ h => h) ?_
        intro ev w5 hS hc hf hold hval a K ha hK
        have e19 : ev (.tmp 19) = .int .u32 (on : Int) := hold 19 (by kernel_rfl)
        go_simp
        exact hK _ _ (Below.refl _ _) rfl
      refine steps_cons ?_ ?_
      · refine step_guard (d := 90) (b := true) rfl rfl rfl (by kernel_rfl) (fun _ _ _ h => h) ?_
        intro ev w5 hS hc hf hold hval a K ha hK
        have e91 : ev (.tmp 91) = .int .u32 (on : Int) := hval 38 91 (by kernel_rfl) rfl
        have e92 : ev (.tmp 92) = .int .u32 (on : Int) := hval 39 92 (by kernel_rfl) rfl
        go_simp
        exact hK _ _ (Below.refl _ _) rfl
      refine steps_cons ?_ ?_
      · refine step_on rfl rfl ?_
        intro ev w5 hS hc hf hold hval a K ha hK
        have e90 : ev (.tmp 90) = .bool true := hval 37 90 (by kernel_rfl) rfl
        have e93 : ev (.tmp 93) = .bool true := hval 40 93 (by kernel_rfl) rfl
        go_simp
        exact hK _ _ (Below.refl _ _) rfl
      refine steps_cons ?_ ?_
      · refine step_on rfl rfl ?_
        intro ev w5 hS hc hf hold hval a K ha hK
        have e94 : ev (.tmp 94) = .bool true := hval 41 94 (by kernel_rfl) rfl
        go_simp
        exact hK _ _ (Below.refl _ _) rfl
      refine steps_cons ?_ ?_
      · refine step_guard (d := 95) (b := true) rfl rfl rfl (by kernel_rfl) (fun _ _ _ h => h) ?_
        intro ev w5 hS hc hf hold hval a K ha hK
        have e18 : ev (.tmp 18) = .int .i64 oe := hold 18 (by kernel_rfl)
        go_simp
        exact hK _ _ (Below.refl _ _) rfl
      refine steps_cons ?_ ?_
      · refine step_guard (d := 95) (b := true) rfl rfl rfl (by kernel_rfl) (fun _ _ _ h => h) ?_
        intro ev w5 hS hc hf hold hval a K ha hK
        have e20 : ev (.tmp 20) = .int .i64 oe := hold 20 (by kernel_rfl)
        go_simp
        exact hK _ _ (Below.refl _ _) rfl
      refine steps_cons ?_ ?_
      · refine step_guard (d := 95) (b := true) rfl rfl rfl (by kernel_rfl) (fun _ _ _ h => h) ?_
        intro ev w5 hS hc hf hold hval a K ha hK
        have e96 : ev (.tmp 96) = .int .i64 oe := hval 43 96 (by kernel_rfl) rfl
        have e97 : ev (.tmp 97) = .int .i64 oe := hval 44 97 (by kernel_rfl) rfl
        go_simp
        exact hK _ _ (Below.refl _ _) rfl
      refine steps_cons ?_ ?_
      · refine step_on rfl rfl ?_
        intro ev w5 hS hc hf hold hval a K ha hK
        have e95 : ev (.tmp 95) = .bool true := hval 42 95 (by kernel_rfl) rfl
        have e98 : ev (.tmp 98) = .bool true := hval 45 98 (by kernel_rfl) rfl
        go_simp
        exact hK _ _ (Below.refl _ _) rfl
      refine steps_cons ?_ ?_
      · refine step_on rfl rfl ?_
        intro ev w5 hS hc hf hold hval a K ha hK
        have e99 : ev (.tmp 99) = .bool true := hval 46 99 (by kernel_rfl) rfl
        go_simp
        exact hK _ _ (Below.refl _ _) rfl
      exact steps_nil
    · intro a w6 hS hsz hdf hold hval
      have e10 : a.eval (.tmp 10) = .bool true := hval 47 _ 10 rfl rfl
      have hact := act_lit a 100 (hsz.trans rfl)
      rw [hdf] at hact
      simp only [List.range, List.range.loop, List.map] at hact
      rw [e10] at hact
      rw [hact]
      have hB6 := hB5.trans (Below.mono hS (Below.size hB5))
      clear hact e10 hsz hdf hold hval
      generalize a.eval = ev
      go_wp2
      go_ret
      exact ⟨rfl, hB6⟩
  · go_enter Try.func7, Try.ntmps7
    go_wp2_with fail
    refine (told16_any _).mono ?_
    rintro e w5 ⟨rfl, hb5⟩
    go_wp2_with fail
    go_ret
    exact ⟨rfl, hb5⟩
end Go.Proofs.Ythcoldomeedbnaa
