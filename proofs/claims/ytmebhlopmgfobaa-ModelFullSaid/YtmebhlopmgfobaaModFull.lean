/- The walk of the law ModelFull. No conditions. -/
import Derived.Test.YtmebhlopmgfobaaModSplices
namespace Go.Proofs.Ytmebhlopmgfobaa
open Go.RowKit
set_option linter.unusedVariables false
set_option linter.unusedSimpArgs false
/-- So many bytes 0. -/
def zs (n : Nat) : List UInt8 := List.replicate n 0
theorem zs_len (n : Nat) : (zs n).length = n := List.length_replicate ..
theorem do_full (T D : List UInt8) (most : Int) (k : Nat) (h : k ≤ T.length) (hm : most - (T.length : Int) < (D.length : Int)) : doM T most 1 k 0 D = (T, ⟨3, 0, [], []⟩) := by
  unfold doM
  rw [if_pos rfl, if_neg (by unfold hasB; rw [decide_eq_true (by omega)]; decide), if_pos hm]
theorem do_far (T D : List UInt8) (most p : Int) (h : (T.length : Int) < p) : doM T most 1 p 0 D = (T, ⟨2, 0, [], []⟩) := by
  unfold doM
  rw [if_pos rfl, if_pos (by unfold hasB; exact decide_eq_false (by omega))]
theorem run_zs (n : Nat) (hn : n ≤ 1099511627776) (w : World) : (Instr.makeSlice 22 (.int .i64 (n : Int)) (.int .i64 (n : Int))).run Try.prog w = .ok (.slice (some ⟨w.heap.size, 0, none⟩) n n) (w.alloc (.cells (madeCells #[.int .u8 0] n) 5)) := by
  obtain ⟨i0, hi0, hz0, hz1, hz2⟩ := info_parts u8_info
  have := run_make (P := Try.prog) w 22 5 i0 (.int .u8 0) Try.underlying22 hi0 hz0 .i64 .i64 n n (by omega) (Int.le_refl _) (by rw [hz2]; omega) (by omega)
  rw [this, hz1]
  simp [Value.cells]
theorem rd_zs (w : World) (n g : Nat) (hg : g = w.heap.size) : Rd (w.alloc (.cells (madeCells #[.int .u8 0] n) 5)) (w.heap.size + 1) 1 (some ⟨g, 0, none⟩) n ((zs n).map bv) := by
  have h := rd_mark w 5 (madeCells #[.int .u8 0] n) (0, 0) n g (by simp [madeCells]) hg
  have e : (zs n).map bv = List.replicate n (Value.int .u8 0) := by
    unfold zs
    rw [List.map_replicate]
    rfl
  rw [e, ← toList_madeCells_one]
  exact h
set_option maxRecDepth 100000 in
set_option maxHeartbeats 4000000 in
theorem walkModelFull (w : World) (most : Int) (hmo : (Lit.int .i64 most).wf = true) (A1 : Option Addr) (m1 c1 : Nat) (t : List UInt8) (hr1 : Rd w w.heap.size 1 A1 m1 (t.map bv)) (hmc1 : m1 ≤ c1) (hcl1 : c1 ≤ maxLen) (at_ : Int) (ha : (Lit.int .i64 at_).wf = true) :
    Calls Try.prog 7 #[.int .i64 most, .slice A1 m1 c1, .int .i64 at_] w fun e w' => e = .returned (.bool true) ∧ Below w.heap.size w w' := by
  have kf := run_code
  have l1 : t.length = m1 := by simpa using hr1.1
  have Hr1 := Lib.hid hr1
  have L1 := Lib.hid l1
  clear hr1 l1
  obtain ⟨n, hn, hnm⟩ := umod_ex most 61 (by omega)
  have hn60 : n ≤ 60 := by omega
  clear hnm
  by_cases h60 : m1 > 60
  · have e0 : decide ((m1 : Int) > 60) = true := by simp; omega
    go_enter Try.func7, Try.ntmps7
    go_wp2_with fail
    refine (New_ok n _ (by omega) (by omega)).mono ?_
    intro e w1 hnew
    obtain ⟨g, gp, rfl, M1, hg1, hgp1⟩ := ms_new w w w1 n (Below.refl _ _) hnew
    clear hnew
    go_wp2_with fail
    refine (told20_any _).mono ?_
    rintro e w2 ⟨rfl, hb2⟩
    have hfin := ms_end M1 hb2
    go_wp2_with fail
    go_ret
    exact ⟨rfl, hfin⟩
  have e0 : decide ((m1 : Int) > 60) = false := by simp; omega
  by_cases hfit : m1 ≤ n
  · have e1 : decide ((m1 : Int) ≤ (n : Int)) = true := by simp; omega
    obtain ⟨k, hk, hkm⟩ := umod_ex at_ ((m1 : Int) + 1) (by omega)
    obtain ⟨r, hr⟩ : ∃ r : Nat, n - m1 = r := ⟨_, rfl⟩
    have hrr : (n : Int) - (m1 : Int) = (r : Int) := by omega
    have hr2 : (r : Int) + 1 = ((r + 1 : Nat) : Int) := by omega
    obtain ⟨r2, hr3⟩ : ∃ r2, r + 1 = r2 := ⟨_, rfl⟩
    rw [hr3] at hr2
    obtain ⟨u, hu⟩ : ∃ u, m1 + 1 = u := ⟨_, rfl⟩
    have huu : (m1 : Int) + 1 = (u : Int) := by omega
    rw [huu] at hk
    have kz := run_zs r (by omega)
    have kz2 := run_zs r2 (by omega)
    have kz3 : ∀ w, (Instr.makeSlice 22 (.int .i64 99) (.int .i64 99)).run Try.prog w = .ok (.slice (some ⟨w.heap.size, 0, none⟩) 99 99) (w.alloc (.cells (madeCells #[.int .u8 0] 99) 5)) := run_zs 99 (by omega)
    obtain ⟨T2, hT2⟩ : ∃ T2, t.take k ++ (zs r ++ t.drop k) = T2 := ⟨_, rfl⟩
    have hN : T2.length = n := by
      rw [← hT2]
      have := L1.out
      have := zs_len r
      simp only [List.length_append, List.length_take, List.length_drop]
      omega
    have p1 := Lib.hid (do_first t n (by have := L1.out; omega))
    have p2 := Lib.hid (do_full t (zs r2) n k (by have := L1.out; omega) (by rw [zs_len, L1.out]; omega))
    have p3 := Lib.hid (do_far t (zs 99) n u (by rw [L1.out]; omega))
    have p4 : doM t n 1 k 0 (zs r) = (T2, ⟨0, 0, [], []⟩) := by rw [do_ins t (zs r) n k (by have := L1.out; omega) (by rw [zs_len, L1.out]; omega), hT2]
    have P4 := Lib.hid p4
    have HN := Lib.hid hN
    have hk60 : k ≤ 60 := by omega
    clear p4 hN hT2
    go_enter Try.func7, Try.ntmps7
    go_wp2_with fail
    refine (New_ok n _ (by omega) (by omega)).mono ?_
    intro e w1 hnew
    obtain ⟨g, gp, rfl, M1, hg1, hgp1⟩ := ms_new w w w1 n (Below.refl _ _) hnew
    clear hnew
    have hgl := M1.pl.lt
    go_wp2_with fail
    refine (Do_ms M1 _ _ _ _ 1 0 0 t t [] [] 0 0 0 0 p1.out rfl rfl (Hr1.out.below M1.low) M1.low.size (rd_apart Hr1.out M1.gp0) (by simp) (by omega) (by omega) (by omega) (by omega)).mono ?_
    rintro e w2 ⟨B1, b1, B2, b2, rfl, N2⟩
    have hs2 := N2.keep.size
    go_wp2_with fail
    refine (Do_ms (MS.alloc (N2.ms.alloc _) _) _ _ _ _ 1 k 0 (zs r2) t [] [] 3 0 0 0 p2.out rfl rfl (rd_zs (w2.alloc _) r2 _ (by simp)) (by simp) (fun _ a ha => by cases ha; simp only; omega) (by have := L1.out; omega) (by omega) (by omega) (by omega) (by omega)).mono ?_
    rintro e w3 ⟨C1, d1, C2, d2, rfl, N3⟩
    have hs3 := N3.keep.size
    simp only [World.size_alloc] at hs3
    go_wp2_with fail
    refine (Do_ms (MS.alloc (N3.ms.alloc _) _) _ _ _ _ 1 u 0 (zs 99) t [] [] 2 0 0 0 p3.out rfl rfl (rd_zs (w3.alloc _) 99 _ (by simp)) (by simp) (fun _ a ha => by cases ha; simp only; omega) (by have := L1.out; omega) (by omega) (by omega) (by omega) (by omega)).mono ?_
    rintro e w4 ⟨D1, f1, D2, f2, rfl, N4⟩
    have hs4 := N4.keep.size
    simp only [World.size_alloc] at hs4
    have a4 := N4.bk ((Bk.new w3 _ _).alloc _) (by omega)
    go_wp2_with fail
    refine (Do_ms (MS.alloc (N4.ms.alloc _) _) _ _ _ _ 1 k 0 (zs r) T2 [] [] 0 0 0 0 P4.out rfl rfl (rd_zs (w4.alloc _) r _ (by simp)) (by simp) (fun _ a ha => by cases ha; simp only; omega) (by have := L1.out; omega) (by omega) (by omega) (by omega) (by omega)).mono ?_
    rintro e w5 ⟨E1, h1, E2, h2, rfl, N5⟩
    have hs5 := N5.keep.size
    simp only [World.size_alloc] at hs5
    have a5 := (N5.bk ((a4.alloc _).alloc _) (by omega)).alloc (.cells #[.int .i64 0, .int .i64 0, .slice E1 0 h1, .slice E2 0 h2] 29)
    have b5 := (N5.bk ((Bk.new w4 _ _).alloc _) (by omega)).alloc (.cells #[.int .i64 0, .int .i64 0, .slice E1 0 h1, .slice E2 0 h2] 29)
    have x5 := Bk.new w5 29 #[.int .i64 0, .int .i64 0, .slice E1 0 h1, .slice E2 0 h2]
    have M := N5.ms.alloc (.cells #[.int .i64 0, .int .i64 0, .slice E1 0 h1, .slice E2 0 h2] 29)
    clear a4 N2 N3 N4 N5 M1 p1 p2 p3 P4
    go_wp2_with fail
    refine (told20_any _).mono ?_
    rintro e w6 ⟨rfl, hb6⟩
    have a6 := a5.below hb6 a5.lt
    have b6 := b5.below hb6 b5.lt
    have x6 := x5.below hb6 x5.lt
    have M6 := M.grow hb6
    have q1 : w6.cell? ⟨w3.heap.size, 0, none⟩ = some (.int .i64 3) := a6.cell 0
    have q2 : w6.cell? ⟨w4.heap.size, 0, none⟩ = some (.int .i64 2) := b6.cell 0
    have q3 : w6.cell? ⟨w5.heap.size, 0, none⟩ = some (.int .i64 0) := x6.cell 0
    clear a5 b5 x5 a6 b6 x6 M hb6
    go_wp2_with fail
    refine (Text_ms M6 n HN.out (by have := HN.out; omega)).mono ?_
    rintro e w7 ⟨F1, k1, rfl, hm7, hb7⟩
    have hfin := ms_end M6 hb7
    go_wp2_with fail
    go_ret
    exact ⟨rfl, hfin⟩
  · have e1 : decide ((m1 : Int) ≤ (n : Int)) = false := by simp; omega
    have p1 := Lib.hid (do_full [] t n 0 (Nat.zero_le _) (by have := L1.out; simp; omega))
    go_enter Try.func7, Try.ntmps7
    go_wp2_with fail
    refine (New_ok n _ (by omega) (by omega)).mono ?_
    intro e w1 hnew
    obtain ⟨g, gp, rfl, M1, hg1, hgp1⟩ := ms_new w w w1 n (Below.refl _ _) hnew
    clear hnew
    have hgl := M1.pl.lt
    go_wp2_with fail
    refine (Do_ms M1 _ _ _ _ 1 0 0 t [] [] [] 3 0 0 0 p1.out rfl rfl (Hr1.out.below M1.low) M1.low.size (rd_apart Hr1.out M1.gp0) (by simp) (by omega) (by omega) (by omega) (by omega)).mono ?_
    rintro e w2 ⟨B1, b1, B2, b2, rfl, N2⟩
    have M := N2.ms.alloc (.cells #[.int .i64 3, .int .i64 0, .slice B1 0 b1, .slice B2 0 b2] 29)
    go_wp2_with fail
    refine (told20_any _).mono ?_
    rintro e w6 ⟨rfl, hb6⟩
    have M6 := M.grow hb6
    go_wp2_with fail
    refine (Text_ms M6 0 rfl (by simp)).mono ?_
    rintro e w7 ⟨F1, k1, rfl, hm7, hb7⟩
    have hfin := ms_end M6 hb7
    go_wp2_with fail
    go_ret
    exact ⟨rfl, hfin⟩
end Go.Proofs.Ytmebhlopmgfobaa
