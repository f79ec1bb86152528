/- The walk of the law ModelSets. No conditions. -/
import Derived.Test.YtmebhlopmgfobaaModTold
namespace Go.Proofs.Ytmebhlopmgfobaa
open Go.RowKit
set_option linter.unusedVariables false
set_option linter.unusedSimpArgs false
theorem do_first (T : List UInt8) (most : Int) (h : (T.length : Int) ≤ most) : doM [] most 1 0 0 T = (T, ⟨0, 0, [], []⟩) := by
  unfold doM
  rw [if_pos rfl, if_neg (by decide), if_neg (by simp; omega)]
  simp
theorem do_set_out (T D : List UInt8) (most : Int) (k : Nat) (h : T.length < k + D.length) : doM T most 3 k 0 D = (T, ⟨2, 0, [], []⟩) := by
  unfold doM
  rw [if_neg (by decide), if_neg (by decide), if_neg (by decide), if_pos rfl, if_pos (by unfold hasB; exact decide_eq_false (by omega))]
theorem do_set_in (T D : List UInt8) (most : Int) (k : Nat) (h : k + D.length ≤ T.length) : doM T most 3 k 0 D = (T.take k ++ (D ++ T.drop (k + D.length)), ⟨0, 0, [], []⟩) := by
  unfold doM
  rw [if_neg (by decide), if_neg (by decide), if_neg (by decide), if_pos rfl, if_neg (by unfold hasB; rw [decide_eq_true (by omega)]; decide)]
  simp
theorem str_cat (x y : List UInt8) : Value.string ((⟨x.toArray⟩ : ByteArray) ++ ⟨y.toArray⟩) = .string ⟨(x ++ y).toArray⟩ := congrArg Value.string (by
  apply ByteArray.ext
  rw [ByteArray.data_append]
  simp)
theorem ms_end {w W w6 : World} {g gp : Nat} {T : List UInt8} {most : Int} (M : MS w W g gp T most) (h : Grow W w6) : Below w.heap.size w w6 := M.low.trans (Below.mono h M.low.size)
theorem rd_row {w : World} {e : TypeId} {B n c : Nat} {A : Option Addr} {xs : List Value} (h : Made w B e 1 A n c xs) : row 1 n xs (.slice A n c) w := ⟨A, c, rfl, h.rd, h.cap, h.max⟩
theorem rd_apart {w : World} {A : Option Addr} {n gp sz B : Nat} {xs : List Value} (h : Rd w B sz A n xs) (hg : B ≤ gp) : 0 < n → ∀ a, A = some a → a.block ≠ gp := by
  intro hn a ha
  obtain ⟨b, off, e, hb, _⟩ := h.2 hn
  rw [ha] at e
  cases e
  simp only
  omega
set_option maxRecDepth 100000 in
set_option maxHeartbeats 4000000 in
theorem walkModelSets (w : World) (A0 : Option Addr) (m0 c0 : Nat) (t : List UInt8) (hr0 : Rd w w.heap.size 1 A0 m0 (t.map bv)) (hmc0 : m0 ≤ c0) (hcl0 : c0 ≤ maxLen) (at_ : Int) (ha : (Lit.int .i64 at_).wf = true)
    (A2 : Option Addr) (m2 c2 : Nat) (d : List UInt8) (hr2 : Rd w w.heap.size 1 A2 m2 (d.map bv)) (hmc2 : m2 ≤ c2) (hcl2 : c2 ≤ maxLen) :
    Calls Try.prog 3 #[.slice A0 m0 c0, .int .i64 at_, .slice A2 m2 c2] w fun e w' => e = .returned (.bool true) ∧ Below w.heap.size w w' := by
  have kf := run_code
  have l0 : t.length = m0 := by simpa using hr0.1
  have l2 : d.length = m2 := by simpa using hr2.1
  have Hr0 := Lib.hid hr0
  have Hr2 := Lib.hid hr2
  have L0 := Lib.hid l0
  have L2 := Lib.hid l2
  clear hr0 hr2 l0 l2
  by_cases h0 : m0 > 60
  · have e0 : decide ((m0 : Int) > 60) = true := by simp; omega
    go_enter Try.func3, Try.ntmps3
    go_wp2_with fail
    refine (told20_any _).mono ?_
    rintro e w1 ⟨rfl, hb1⟩
    go_wp2_with fail
    go_ret
    exact ⟨rfl, hb1⟩
  by_cases h2 : m2 > 20
  · have e0 : decide ((m0 : Int) > 60) = false := by simp; omega
    have e2 : decide ((m2 : Int) > 20) = true := by simp; omega
    go_enter Try.func3, Try.ntmps3
    go_wp2_with fail
    refine (told20_any _).mono ?_
    rintro e w1 ⟨rfl, hb1⟩
    go_wp2_with fail
    go_ret
    exact ⟨rfl, hb1⟩
  have e0 : decide ((m0 : Int) > 60) = false := by simp; omega
  have e2 : decide ((m2 : Int) > 20) = false := by simp; omega
  obtain ⟨k, hk, hkm⟩ := umod_ex at_ ((m0 : Int) + 3) (by omega)
  go_enter Try.func3, Try.ntmps3
  go_wp2_with fail
  refine (New_ok 60 _ (by omega) (by omega)).mono ?_
  intro e w1 hnew
  obtain ⟨g, gp, rfl, M1, hg1, hgp1⟩ := ms_new w w w1 60 (Below.refl _ _) hnew
  clear hnew
  have hgl := M1.pl.lt
  go_wp2_with fail
  refine (Do_ms M1 _ _ _ _ 1 0 0 t t [] [] 0 0 0 0 (do_first t 60 (by have := L0.out; omega)) rfl rfl (Hr0.out.below M1.low) M1.low.size (rd_apart Hr0.out M1.gp0) (by simp) (by omega) (by omega) (by omega) (by omega)).mono ?_
  rintro e w2 ⟨B1, d1, B2, d2, rfl, N2⟩
  have M2 := N2.ms
  go_wp2_with fail
  by_cases hout : m0 < k + m2
  · have hle : decide ((k : Int) + (m2 : Int) > (m0 : Int)) = true := by simp; omega
    refine (Do_ms M2 _ _ _ _ 3 k 0 d t [] [] 2 0 0 0 (do_set_out t d 60 k (by have := L0.out; have := L2.out; omega)) rfl rfl (Hr2.out.below M2.low) M2.low.size (rd_apart Hr2.out M2.gp0) (by have := L0.out; omega) (by omega) (by omega) (by omega) (by omega)).mono ?_
    rintro e w3 ⟨C1, e1, C2, e3, rfl, N3⟩
    have M3 := N3.ms
    clear N2 N3 M1 M2
    go_wp2_with fail
    obtain ⟨W, hW⟩ : ∃ W, w3.alloc (.cells #[.int .i64 2, .int .i64 0, .slice C1 0 e1, .slice C2 0 e3] 29) = W := ⟨_, rfl⟩
    obtain ⟨s, hs⟩ : ∃ s, w3.heap.size = s := ⟨_, rfl⟩
    have hres := Bk.new w3 29 #[.int .i64 2, .int .i64 0, .slice C1 0 e1, .slice C2 0 e3]
    have M := M3.alloc (.cells #[.int .i64 2, .int .i64 0, .slice C1 0 e1, .slice C2 0 e3] 29)
    rw [hW, hs] at hres
    rw [hW] at M
    rw [hW, hs]
    clear hW hs M3
    refine wp_region_any (by kernel_rfl) ?_
    refine wpAny_loose2 [58, 59, 60, 61, 62, 63, 64, 65, 66, 67, 68, 69, 70, 71, 6] Grow (Vs [is (.bool true), is (.bool true), is (.pointer (some ⟨s, 0, none⟩)), is (.int .i64 2), is (.bool true), is (.bool true), is (.bool true), is (.pointer (some ⟨g, 0, none⟩)), row 1 m0 (t.map bv), is (.string ⟨t.toArray⟩), is (.slice A0 m0 c0), is (.string ⟨t.toArray⟩), is (.bool true), is (.bool true), is (.bool true)]) _ _ rfl (by kernel_rfl) (Below.refl _ _) (fun _ _ => Grow.trans) (stb_all (by repeat' (first | exact stb_is _ | exact stb_row _ _ _ | (refine List.forall_mem_cons.2 ⟨?_, ?_⟩) | (intro p hp; cases hp)))) ?_ ?_
    · refine steps_of ?_
      refine steps_cons ?_ ?_
      · refine step_on rfl rfl ?_
        intro ev w5 hS hc hf hold hval a K ha hK
        replace hS : Grow W w5 := ⟨hS.os, hS.tape, hS.output, hS.size, hS.block⟩
        go_simp
        refine (told20_any w5).mono ?_
        rintro e w8 ⟨rfl, hb8⟩
        exact hK _ _ hb8 rfl
      refine steps_cons ?_ ?_
      · refine step_on rfl rfl ?_
        intro ev w5 hS hc hf hold hval a K ha hK
        have e58 : ev (.tmp 58) = .bool true := hval 0 58 (by kernel_rfl) rfl
        replace hS : Grow W w5 := ⟨hS.os, hS.tape, hS.output, hS.size, hS.block⟩
        go_simp
        exact hK _ _ (Below.refl _ _) rfl
      refine steps_cons ?_ ?_
      · refine step_guard (d := 59) (b := true) rfl rfl rfl (by kernel_rfl) (fun _ _ _ h => h) ?_
        intro ev w5 hS hc hf hold hval a K ha hK
        have e10 : ev (.tmp 10) = .pointer (some ⟨s, 0, none⟩) := hold 10 (by kernel_rfl)
        replace hS : Grow W w5 := ⟨hS.os, hS.tape, hS.output, hS.size, hS.block⟩
        go_simp
        exact hK _ _ (Below.refl _ _) rfl
      refine steps_cons ?_ ?_
      · refine step_guard (d := 59) (b := true) rfl rfl rfl (by kernel_rfl) (fun _ _ _ h => h) ?_
        intro ev w5 hS hc hf hold hval a K ha hK
        have e60 : ev (.tmp 60) = .pointer (some ⟨s, 0, none⟩) := hval 2 60 (by kernel_rfl) rfl
        replace hS : Grow W w5 := ⟨hS.os, hS.tape, hS.output, hS.size, hS.block⟩
        have c61 : w5.cell? ⟨s, 0, none⟩ = some (.int .i64 2) := ((hres.below hS hres.lt).cell 0).trans rfl
        go_simp
        exact hK _ _ (Below.refl _ _) rfl
      refine steps_cons ?_ ?_
      · refine step_guard (d := 59) (b := true) rfl rfl rfl (by kernel_rfl) (fun _ _ _ h => h) ?_
        intro ev w5 hS hc hf hold hval a K ha hK
        have e61 : ev (.tmp 61) = .int .i64 2 := hval 3 61 (by kernel_rfl) rfl
        replace hS : Grow W w5 := ⟨hS.os, hS.tape, hS.output, hS.size, hS.block⟩
        go_simp
        exact hK _ _ (Below.refl _ _) rfl
      refine steps_cons ?_ ?_
      · refine step_on rfl rfl ?_
        intro ev w5 hS hc hf hold hval a K ha hK
        have e59 : ev (.tmp 59) = .bool true := hval 1 59 (by kernel_rfl) rfl
        have e62 : ev (.tmp 62) = .bool true := hval 4 62 (by kernel_rfl) rfl
        replace hS : Grow W w5 := ⟨hS.os, hS.tape, hS.output, hS.size, hS.block⟩
        go_simp
        exact hK _ _ (Below.refl _ _) rfl
      refine steps_cons ?_ ?_
      · refine step_on rfl rfl ?_
        intro ev w5 hS hc hf hold hval a K ha hK
        have e63 : ev (.tmp 63) = .bool true := hval 5 63 (by kernel_rfl) rfl
        replace hS : Grow W w5 := ⟨hS.os, hS.tape, hS.output, hS.size, hS.block⟩
        go_simp
        exact hK _ _ (Below.refl _ _) rfl
      refine steps_cons ?_ ?_
      · refine step_guard (d := 64) (b := true) rfl rfl rfl (by kernel_rfl) (fun _ _ _ h => h) ?_
        intro ev w5 hS hc hf hold hval a K ha hK
        have e7 : ev (.tmp 7) = .pointer (some ⟨g, 0, none⟩) := hold 7 (by kernel_rfl)
        replace hS : Grow W w5 := ⟨hS.os, hS.tape, hS.output, hS.size, hS.block⟩
        go_simp
        exact hK _ _ (Below.refl _ _) rfl
      refine steps_cons ?_ ?_
      · refine step_guard (d := 64) (b := true) rfl rfl rfl (by kernel_rfl) (fun _ _ _ h => h) ?_
        intro ev w5 hS hc hf hold hval a K ha hK
        have e65 : ev (.tmp 65) = .pointer (some ⟨g, 0, none⟩) := hval 7 65 (by kernel_rfl) rfl
        replace hS : Grow W w5 := ⟨hS.os, hS.tape, hS.output, hS.size, hS.block⟩
        go_simp
        refine (Text_ms (M.grow hS) m0 L0.out (by have := L0.out; omega)).mono ?_
        rintro e w8 ⟨A9, c9, rfl, hm9, hb9⟩
        exact hK _ _ hb9 (rd_row hm9)
      refine steps_cons ?_ ?_
      · refine step_guard (d := 64) (b := true) rfl rfl rfl (by kernel_rfl) (fun _ _ _ h => h) ?_
        intro ev w5 hS hc hf hold hval a K ha hK
        obtain ⟨A66, c66, e66, hr66, hk66, hm66⟩ : row 1 m0 (t.map bv) (ev (.tmp 66)) w5 := hval 8 66 (by kernel_rfl) rfl
        replace hS : Grow W w5 := ⟨hS.os, hS.tape, hS.output, hS.size, hS.block⟩
        have s67 := strOf hr66
        go_simp
        exact hK _ _ (Below.refl _ _) rfl
      refine steps_cons ?_ ?_
      · refine step_guard (d := 64) (b := true) rfl rfl rfl (by kernel_rfl) (fun _ _ _ h => h) ?_
        intro ev w5 hS hc hf hold hval a K ha hK
        have e0 : ev (.tmp 0) = .slice A0 m0 c0 := hold 0 (by kernel_rfl)
        replace hS : Grow W w5 := ⟨hS.os, hS.tape, hS.output, hS.size, hS.block⟩
        go_simp
        exact hK _ _ (Below.refl _ _) rfl
      refine steps_cons ?_ ?_
      · refine step_guard (d := 64) (b := true) rfl rfl rfl (by kernel_rfl) (fun _ _ _ h => h) ?_
        intro ev w5 hS hc hf hold hval a K ha hK
        have e68 : ev (.tmp 68) = .slice A0 m0 c0 := hval 10 68 (by kernel_rfl) rfl
        replace hS : Grow W w5 := ⟨hS.os, hS.tape, hS.output, hS.size, hS.block⟩
        have s69 := strOf ((Hr0.out.below M.low).below (Below.mono hS M.low.size))
        go_simp
        exact hK _ _ (Below.refl _ _) rfl
      refine steps_cons ?_ ?_
      · refine step_guard (d := 64) (b := true) rfl rfl rfl (by kernel_rfl) (fun _ _ _ h => h) ?_
        intro ev w5 hS hc hf hold hval a K ha hK
        have e67 : ev (.tmp 67) = .string ⟨t.toArray⟩ := hval 9 67 (by kernel_rfl) rfl
        have e69 : ev (.tmp 69) = .string ⟨t.toArray⟩ := hval 11 69 (by kernel_rfl) rfl
        replace hS : Grow W w5 := ⟨hS.os, hS.tape, hS.output, hS.size, hS.block⟩
        go_simp
        exact hK _ _ (Below.refl _ _) (bool_eq (by simp))
      refine steps_cons ?_ ?_
      · refine step_on rfl rfl ?_
        intro ev w5 hS hc hf hold hval a K ha hK
        have e64 : ev (.tmp 64) = .bool true := hval 6 64 (by kernel_rfl) rfl
        have e70 : ev (.tmp 70) = .bool true := hval 12 70 (by kernel_rfl) rfl
        replace hS : Grow W w5 := ⟨hS.os, hS.tape, hS.output, hS.size, hS.block⟩
        go_simp
        exact hK _ _ (Below.refl _ _) rfl
      refine steps_cons ?_ ?_
      · refine step_on rfl rfl ?_
        intro ev w5 hS hc hf hold hval a K ha hK
        have e71 : ev (.tmp 71) = .bool true := hval 13 71 (by kernel_rfl) rfl
        replace hS : Grow W w5 := ⟨hS.os, hS.tape, hS.output, hS.size, hS.block⟩
        go_simp
        exact hK _ _ (Below.refl _ _) rfl
      exact steps_nil
    · intro ev w6 hS hval
      replace hS : Grow W w6 := ⟨hS.os, hS.tape, hS.output, hS.size, hS.block⟩
      have e6 : ev (.tmp 6) = .bool true := hval 14 6 rfl
      simp only [putsOf, List.foldl_cons, List.foldl_nil, Act.put, List.setIfInBounds_toArray, List.set_cons_zero, List.set_cons_succ]
      rw [e6]
      clear hval
      have hfin := ms_end M hS
      go_wp2
      go_ret
      exact ⟨rfl, hfin⟩
  · have hle : decide ((k : Int) + (m2 : Int) > (m0 : Int)) = false := by simp; omega
    obtain ⟨q, hq⟩ : ∃ q, k + m2 = q := ⟨_, rfl⟩
    obtain ⟨T2, hT2⟩ : ∃ T2, t.take k ++ (d ++ t.drop q) = T2 := ⟨_, rfl⟩
    have hN : T2.length = m0 := by
      rw [← hT2]
      have := L0.out
      have := L2.out
      simp only [List.length_append, List.length_take, List.length_drop]
      omega
    have hstep : doM t 60 3 k 0 d = (T2, ⟨0, 0, [], []⟩) := by
      rw [do_set_in t d 60 k (by have := L0.out; have := L2.out; omega), L2.out, hq, hT2]
    have HT2 := Lib.hid hT2
    have HN := Lib.hid hN
    have hc1 : ∀ w5 : World, Rd w5 w.heap.size 1 A0 m0 (t.map bv) → Rd w5 w.heap.size 1 (cutA A0 c0 0 1) k ((t.take k).map bv) := fun w5 h => by
      have := h.cut_hi0 (k := k) (cap := c0) (by omega)
      rwa [Nat.mul_one, ← List.map_take] at this
    have hc2 : ∀ w5 : World, Rd w5 w.heap.size 1 A0 m0 (t.map bv) → Rd w5 w.heap.size 1 (cutA A0 c0 q 1) (m0 - q) ((t.drop q).map bv) := fun w5 h => by
      have := h.cut (k := q) (cap := c0) (by omega) hmc0
      rwa [Nat.mul_one, ← List.map_drop] at this
    have Hcut1 := Lib.hid hc1
    have Hcut2 := Lib.hid hc2
    have hcut1 := run_cut_hi (P := Try.prog) 22 5 1 Try.underlying22 size_u8 A0 m0 c0 k (by omega)
    have hcut2 := run_cut_lo (P := Try.prog) 22 5 1 Try.underlying22 size_u8 A0 m0 c0 q (by omega)
    clear hc1 hc2 hT2 hN
    refine (Do_ms M2 _ _ _ _ 3 k 0 d T2 [] [] 0 0 0 0 hstep rfl rfl (Hr2.out.below M2.low) M2.low.size (rd_apart Hr2.out M2.gp0) (by have := L0.out; omega) (by omega) (by omega) (by omega) (by omega)).mono ?_
    rintro e w3 ⟨C1, e1, C2, e3, rfl, N3⟩
    have M3 := N3.ms
    clear N2 N3 M1 M2 hstep
    go_wp2_with fail
    obtain ⟨W, hW⟩ : ∃ W, w3.alloc (.cells #[.int .i64 0, .int .i64 0, .slice C1 0 e1, .slice C2 0 e3] 29) = W := ⟨_, rfl⟩
    obtain ⟨s, hs⟩ : ∃ s, w3.heap.size = s := ⟨_, rfl⟩
    have hres := Bk.new w3 29 #[.int .i64 0, .int .i64 0, .slice C1 0 e1, .slice C2 0 e3]
    have M := M3.alloc (.cells #[.int .i64 0, .int .i64 0, .slice C1 0 e1, .slice C2 0 e3] 29)
    rw [hW, hs] at hres
    rw [hW] at M
    rw [hW, hs]
    clear hW hs M3
    refine wp_region_any (by kernel_rfl) ?_
    refine wpAny_loose2 [72, 73, 74, 75, 76, 77, 78, 79, 80, 81, 82, 83, 84, 85, 86, 87, 88, 89, 90, 91, 92, 93, 94, 95, 96, 97, 98, 6] Grow (Vs [is (.bool true), is (.bool true), is (.pointer (some ⟨s, 0, none⟩)), is (.int .i64 0), is (.bool true), is (.bool true), is (.bool true), is (.pointer (some ⟨g, 0, none⟩)), row 1 m0 (T2.map bv), is (.string ⟨T2.toArray⟩), is (.slice A0 m0 c0), is (.int .i64 (k : Int)), is (.slice (cutA A0 c0 0 1) k c0), is (.string ⟨(t.take k).toArray⟩), is (.slice A2 m2 c2), is (.string ⟨d.toArray⟩), is (.string ⟨(t.take k ++ d).toArray⟩), is (.slice A0 m0 c0), is (.int .i64 (k : Int)), is (.slice A2 m2 c2), is (.int .i64 (m2 : Int)), is (.int .i64 (q : Int)), is (.slice (cutA A0 c0 q 1) (m0 - q) (c0 - q)), is (.string ⟨(t.drop q).toArray⟩), is (.string ⟨T2.toArray⟩), is (.bool true), is (.bool true), is (.bool true)]) _ _ rfl (by kernel_rfl) (Below.refl _ _) (fun _ _ => Grow.trans) (stb_all (by repeat' (first | exact stb_is _ | exact stb_row _ _ _ | (refine List.forall_mem_cons.2 ⟨?_, ?_⟩) | (intro p hp; cases hp)))) ?_ ?_
    · refine steps_of ?_
      refine steps_cons ?_ ?_
      · refine step_on rfl rfl ?_
        intro ev w5 hS hc hf hold hval a K ha hK
        replace hS : Grow W w5 := ⟨hS.os, hS.tape, hS.output, hS.size, hS.block⟩
        go_simp
        refine (told20_any w5).mono ?_
        rintro e w8 ⟨rfl, hb8⟩
        exact hK _ _ hb8 rfl
      refine steps_cons ?_ ?_
      · refine step_on rfl rfl ?_
        intro ev w5 hS hc hf hold hval a K ha hK
        have e72 : ev (.tmp 72) = .bool true := hval 0 72 (by kernel_rfl) rfl
        replace hS : Grow W w5 := ⟨hS.os, hS.tape, hS.output, hS.size, hS.block⟩
        go_simp
        exact hK _ _ (Below.refl _ _) rfl
      refine steps_cons ?_ ?_
      · refine step_guard (d := 73) (b := true) rfl rfl rfl (by kernel_rfl) (fun _ _ _ h => h) ?_
        intro ev w5 hS hc hf hold hval a K ha hK
        have e10 : ev (.tmp 10) = .pointer (some ⟨s, 0, none⟩) := hold 10 (by kernel_rfl)
        replace hS : Grow W w5 := ⟨hS.os, hS.tape, hS.output, hS.size, hS.block⟩
        go_simp
        exact hK _ _ (Below.refl _ _) rfl
      refine steps_cons ?_ ?_
      · refine step_guard (d := 73) (b := true) rfl rfl rfl (by kernel_rfl) (fun _ _ _ h => h) ?_
        intro ev w5 hS hc hf hold hval a K ha hK
        have e74 : ev (.tmp 74) = .pointer (some ⟨s, 0, none⟩) := hval 2 74 (by kernel_rfl) rfl
        replace hS : Grow W w5 := ⟨hS.os, hS.tape, hS.output, hS.size, hS.block⟩
        have c75 : w5.cell? ⟨s, 0, none⟩ = some (.int .i64 0) := ((hres.below hS hres.lt).cell 0).trans rfl
        go_simp
        exact hK _ _ (Below.refl _ _) rfl
      refine steps_cons ?_ ?_
      · refine step_guard (d := 73) (b := true) rfl rfl rfl (by kernel_rfl) (fun _ _ _ h => h) ?_
        intro ev w5 hS hc hf hold hval a K ha hK
        have e75 : ev (.tmp 75) = .int .i64 0 := hval 3 75 (by kernel_rfl) rfl
        replace hS : Grow W w5 := ⟨hS.os, hS.tape, hS.output, hS.size, hS.block⟩
        go_simp
        exact hK _ _ (Below.refl _ _) rfl
      refine steps_cons ?_ ?_
      · refine step_on rfl rfl ?_
        intro ev w5 hS hc hf hold hval a K ha hK
        have e73 : ev (.tmp 73) = .bool true := hval 1 73 (by kernel_rfl) rfl
        have e76 : ev (.tmp 76) = .bool true := hval 4 76 (by kernel_rfl) rfl
        replace hS : Grow W w5 := ⟨hS.os, hS.tape, hS.output, hS.size, hS.block⟩
        go_simp
        exact hK _ _ (Below.refl _ _) rfl
      refine steps_cons ?_ ?_
      · refine step_on rfl rfl ?_
        intro ev w5 hS hc hf hold hval a K ha hK
        have e77 : ev (.tmp 77) = .bool true := hval 5 77 (by kernel_rfl) rfl
        replace hS : Grow W w5 := ⟨hS.os, hS.tape, hS.output, hS.size, hS.block⟩
        go_simp
        exact hK _ _ (Below.refl _ _) rfl
      refine steps_cons ?_ ?_
      · refine step_guard (d := 78) (b := true) rfl rfl rfl (by kernel_rfl) (fun _ _ _ h => h) ?_
        intro ev w5 hS hc hf hold hval a K ha hK
        have e7 : ev (.tmp 7) = .pointer (some ⟨g, 0, none⟩) := hold 7 (by kernel_rfl)
        replace hS : Grow W w5 := ⟨hS.os, hS.tape, hS.output, hS.size, hS.block⟩
        go_simp
        exact hK _ _ (Below.refl _ _) rfl
      refine steps_cons ?_ ?_
      · refine step_guard (d := 78) (b := true) rfl rfl rfl (by kernel_rfl) (fun _ _ _ h => h) ?_
        intro ev w5 hS hc hf hold hval a K ha hK
        have e79 : ev (.tmp 79) = .pointer (some ⟨g, 0, none⟩) := hval 7 79 (by kernel_rfl) rfl
        replace hS : Grow W w5 := ⟨hS.os, hS.tape, hS.output, hS.size, hS.block⟩
        go_simp
        refine (Text_ms (M.grow hS) m0 HN.out (by have := HN.out; omega)).mono ?_
        rintro e w8 ⟨A9, c9, rfl, hm9, hb9⟩
        exact hK _ _ hb9 (rd_row hm9)
      refine steps_cons ?_ ?_
      · refine step_guard (d := 78) (b := true) rfl rfl rfl (by kernel_rfl) (fun _ _ _ h => h) ?_
        intro ev w5 hS hc hf hold hval a K ha hK
        obtain ⟨A80, c80, e80, hr80, hk80, hm80⟩ : row 1 m0 (T2.map bv) (ev (.tmp 80)) w5 := hval 8 80 (by kernel_rfl) rfl
        replace hS : Grow W w5 := ⟨hS.os, hS.tape, hS.output, hS.size, hS.block⟩
        have s81 := strOf hr80
        go_simp
        exact hK _ _ (Below.refl _ _) rfl
      refine steps_cons ?_ ?_
      · refine step_guard (d := 78) (b := true) rfl rfl rfl (by kernel_rfl) (fun _ _ _ h => h) ?_
        intro ev w5 hS hc hf hold hval a K ha hK
        have e0 : ev (.tmp 0) = .slice A0 m0 c0 := hold 0 (by kernel_rfl)
        replace hS : Grow W w5 := ⟨hS.os, hS.tape, hS.output, hS.size, hS.block⟩
        go_simp
        exact hK _ _ (Below.refl _ _) rfl
      refine steps_cons ?_ ?_
      · refine step_guard (d := 78) (b := true) rfl rfl rfl (by kernel_rfl) (fun _ _ _ h => h) ?_
        intro ev w5 hS hc hf hold hval a K ha hK
        have e9 : ev (.tmp 9) = .int .i64 (k : Int) := hold 9 (by kernel_rfl)
        replace hS : Grow W w5 := ⟨hS.os, hS.tape, hS.output, hS.size, hS.block⟩
        go_simp
        exact hK _ _ (Below.refl _ _) rfl
      refine steps_cons ?_ ?_
      · refine step_guard (d := 78) (b := true) rfl rfl rfl (by kernel_rfl) (fun _ _ _ h => h) ?_
        intro ev w5 hS hc hf hold hval a K ha hK
        have e82 : ev (.tmp 82) = .slice A0 m0 c0 := hval 10 82 (by kernel_rfl) rfl
        have e83 : ev (.tmp 83) = .int .i64 (k : Int) := hval 11 83 (by kernel_rfl) rfl
        replace hS : Grow W w5 := ⟨hS.os, hS.tape, hS.output, hS.size, hS.block⟩
        go_simp
        exact hK _ _ (Below.refl _ _) rfl
      refine steps_cons ?_ ?_
      · refine step_guard (d := 78) (b := true) rfl rfl rfl (by kernel_rfl) (fun _ _ _ h => h) ?_
        intro ev w5 hS hc hf hold hval a K ha hK
        have e84 : ev (.tmp 84) = .slice (cutA A0 c0 0 1) k c0 := hval 12 84 (by kernel_rfl) rfl
        replace hS : Grow W w5 := ⟨hS.os, hS.tape, hS.output, hS.size, hS.block⟩
        have s85 := strOf (Hcut1.out w5 ((Hr0.out.below M.low).below (Below.mono hS M.low.size)))
        go_simp
        exact hK _ _ (Below.refl _ _) rfl
      refine steps_cons ?_ ?_
      · refine step_guard (d := 78) (b := true) rfl rfl rfl (by kernel_rfl) (fun _ _ _ h => h) ?_
        intro ev w5 hS hc hf hold hval a K ha hK
        have e2 : ev (.tmp 2) = .slice A2 m2 c2 := hold 2 (by kernel_rfl)
        replace hS : Grow W w5 := ⟨hS.os, hS.tape, hS.output, hS.size, hS.block⟩
        go_simp
        exact hK _ _ (Below.refl _ _) rfl
      refine steps_cons ?_ ?_
      · refine step_guard (d := 78) (b := true) rfl rfl rfl (by kernel_rfl) (fun _ _ _ h => h) ?_
        intro ev w5 hS hc hf hold hval a K ha hK
        have e86 : ev (.tmp 86) = .slice A2 m2 c2 := hval 14 86 (by kernel_rfl) rfl
        replace hS : Grow W w5 := ⟨hS.os, hS.tape, hS.output, hS.size, hS.block⟩
        have s87 := strOf ((Hr2.out.below M.low).below (Below.mono hS M.low.size))
        go_simp
        exact hK _ _ (Below.refl _ _) rfl
      refine steps_cons ?_ ?_
      · refine step_guard (d := 78) (b := true) rfl rfl rfl (by kernel_rfl) (fun _ _ _ h => h) ?_
        intro ev w5 hS hc hf hold hval a K ha hK
        have e85 : ev (.tmp 85) = .string ⟨(t.take k).toArray⟩ := hval 13 85 (by kernel_rfl) rfl
        have e87 : ev (.tmp 87) = .string ⟨d.toArray⟩ := hval 15 87 (by kernel_rfl) rfl
        replace hS : Grow W w5 := ⟨hS.os, hS.tape, hS.output, hS.size, hS.block⟩
        go_simp
        rw [if_neg (by have := L0.out; have := L2.out; simp; omega)]
        exact hK _ _ (Below.refl _ _) (str_cat _ _)
      refine steps_cons ?_ ?_
      · refine step_guard (d := 78) (b := true) rfl rfl rfl (by kernel_rfl) (fun _ _ _ h => h) ?_
        intro ev w5 hS hc hf hold hval a K ha hK
        have e0 : ev (.tmp 0) = .slice A0 m0 c0 := hold 0 (by kernel_rfl)
        replace hS : Grow W w5 := ⟨hS.os, hS.tape, hS.output, hS.size, hS.block⟩
        go_simp
        exact hK _ _ (Below.refl _ _) rfl
      refine steps_cons ?_ ?_
      · refine step_guard (d := 78) (b := true) rfl rfl rfl (by kernel_rfl) (fun _ _ _ h => h) ?_
        intro ev w5 hS hc hf hold hval a K ha hK
        have e9 : ev (.tmp 9) = .int .i64 (k : Int) := hold 9 (by kernel_rfl)
        replace hS : Grow W w5 := ⟨hS.os, hS.tape, hS.output, hS.size, hS.block⟩
        go_simp
        exact hK _ _ (Below.refl _ _) rfl
      refine steps_cons ?_ ?_
      · refine step_guard (d := 78) (b := true) rfl rfl rfl (by kernel_rfl) (fun _ _ _ h => h) ?_
        intro ev w5 hS hc hf hold hval a K ha hK
        have e2 : ev (.tmp 2) = .slice A2 m2 c2 := hold 2 (by kernel_rfl)
        replace hS : Grow W w5 := ⟨hS.os, hS.tape, hS.output, hS.size, hS.block⟩
        go_simp
        exact hK _ _ (Below.refl _ _) rfl
      refine steps_cons ?_ ?_
      · refine step_guard (d := 78) (b := true) rfl rfl rfl (by kernel_rfl) (fun _ _ _ h => h) ?_
        intro ev w5 hS hc hf hold hval a K ha hK
        have e91 : ev (.tmp 91) = .slice A2 m2 c2 := hval 19 91 (by kernel_rfl) rfl
        replace hS : Grow W w5 := ⟨hS.os, hS.tape, hS.output, hS.size, hS.block⟩
        go_simp
        exact hK _ _ (Below.refl _ _) rfl
      refine steps_cons ?_ ?_
      · refine step_guard (d := 78) (b := true) rfl rfl rfl (by kernel_rfl) (fun _ _ _ h => h) ?_
        intro ev w5 hS hc hf hold hval a K ha hK
        have e90 : ev (.tmp 90) = .int .i64 (k : Int) := hval 18 90 (by kernel_rfl) rfl
        have e92 : ev (.tmp 92) = .int .i64 (m2 : Int) := hval 20 92 (by kernel_rfl) rfl
        replace hS : Grow W w5 := ⟨hS.os, hS.tape, hS.output, hS.size, hS.block⟩
        go_simp
        exact hK _ _ (Below.refl _ _) (i64_eq (by rw [IntKind.wrap_i64]; omega))
      refine steps_cons ?_ ?_
      · refine step_guard (d := 78) (b := true) rfl rfl rfl (by kernel_rfl) (fun _ _ _ h => h) ?_
        intro ev w5 hS hc hf hold hval a K ha hK
        have e89 : ev (.tmp 89) = .slice A0 m0 c0 := hval 17 89 (by kernel_rfl) rfl
        have e93 : ev (.tmp 93) = .int .i64 (q : Int) := hval 21 93 (by kernel_rfl) rfl
        replace hS : Grow W w5 := ⟨hS.os, hS.tape, hS.output, hS.size, hS.block⟩
        go_simp
        exact hK _ _ (Below.refl _ _) rfl
      refine steps_cons ?_ ?_
      · refine step_guard (d := 78) (b := true) rfl rfl rfl (by kernel_rfl) (fun _ _ _ h => h) ?_
        intro ev w5 hS hc hf hold hval a K ha hK
        have e94 : ev (.tmp 94) = .slice (cutA A0 c0 q 1) (m0 - q) (c0 - q) := hval 22 94 (by kernel_rfl) rfl
        replace hS : Grow W w5 := ⟨hS.os, hS.tape, hS.output, hS.size, hS.block⟩
        have s95 := strOf (Hcut2.out w5 ((Hr0.out.below M.low).below (Below.mono hS M.low.size)))
        go_simp
        exact hK _ _ (Below.refl _ _) rfl
      refine steps_cons ?_ ?_
      · refine step_guard (d := 78) (b := true) rfl rfl rfl (by kernel_rfl) (fun _ _ _ h => h) ?_
        intro ev w5 hS hc hf hold hval a K ha hK
        have e88 : ev (.tmp 88) = .string ⟨(t.take k ++ d).toArray⟩ := hval 16 88 (by kernel_rfl) rfl
        have e95 : ev (.tmp 95) = .string ⟨(t.drop q).toArray⟩ := hval 23 95 (by kernel_rfl) rfl
        replace hS : Grow W w5 := ⟨hS.os, hS.tape, hS.output, hS.size, hS.block⟩
        go_simp
        rw [if_neg (by have := L0.out; have := L2.out; simp; omega)]
        exact hK _ _ (Below.refl _ _) ((str_cat _ _).trans (by rw [List.append_assoc, HT2.out]))
      refine steps_cons ?_ ?_
      · refine step_guard (d := 78) (b := true) rfl rfl rfl (by kernel_rfl) (fun _ _ _ h => h) ?_
        intro ev w5 hS hc hf hold hval a K ha hK
        have e81 : ev (.tmp 81) = .string ⟨T2.toArray⟩ := hval 9 81 (by kernel_rfl) rfl
        have e96 : ev (.tmp 96) = .string ⟨T2.toArray⟩ := hval 24 96 (by kernel_rfl) rfl
        replace hS : Grow W w5 := ⟨hS.os, hS.tape, hS.output, hS.size, hS.block⟩
        go_simp
        exact hK _ _ (Below.refl _ _) (bool_eq (by simp))
      refine steps_cons ?_ ?_
      · refine step_on rfl rfl ?_
        intro ev w5 hS hc hf hold hval a K ha hK
        have e78 : ev (.tmp 78) = .bool true := hval 6 78 (by kernel_rfl) rfl
        have e97 : ev (.tmp 97) = .bool true := hval 25 97 (by kernel_rfl) rfl
        replace hS : Grow W w5 := ⟨hS.os, hS.tape, hS.output, hS.size, hS.block⟩
        go_simp
        exact hK _ _ (Below.refl _ _) rfl
      refine steps_cons ?_ ?_
      · refine step_on rfl rfl ?_
        intro ev w5 hS hc hf hold hval a K ha hK
        have e98 : ev (.tmp 98) = .bool true := hval 26 98 (by kernel_rfl) rfl
        replace hS : Grow W w5 := ⟨hS.os, hS.tape, hS.output, hS.size, hS.block⟩
        go_simp
        exact hK _ _ (Below.refl _ _) rfl
      exact steps_nil
    · intro ev w6 hS hval
      replace hS : Grow W w6 := ⟨hS.os, hS.tape, hS.output, hS.size, hS.block⟩
      have e6 : ev (.tmp 6) = .bool true := hval 27 6 rfl
      simp only [putsOf, List.foldl_cons, List.foldl_nil, Act.put, List.setIfInBounds_toArray, List.set_cons_zero, List.set_cons_succ]
      rw [e6]
      clear hval
      have hfin := ms_end M hS
      go_wp2
      go_ret
      exact ⟨rfl, hfin⟩
end Go.Proofs.Ytmebhlopmgfobaa
