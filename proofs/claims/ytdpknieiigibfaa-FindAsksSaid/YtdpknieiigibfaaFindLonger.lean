/- The walk of FindLonger: all patterns of one byte more are as many as the pattern, but for where it ends the text. Conditions: the list's length is a length. -/
import Derived.Test.YtdpknieiigibfaaFnOcc2
import Derived.Lib.MinMax
namespace Go.Proofs.Ytdpknieiigibfaa
open Go.RowKit
set_option linter.unusedVariables false
set_option linter.unusedSimpArgs false
theorem strOf {w : World} {B n : Nat} {A : Option Addr} {l : List UInt8} (hr : Rd w B 1 A n (l.map bv)) : ∀ c, (convert 23 9 (.slice A n c)).run Try.prog w = .ok (.string ⟨l.toArray⟩) w :=
  fun c => run_str_rd (P := Try.prog) 23 9 5 Try.underlying23 Try.underlying5 Try.underlying9 hr
theorem size_u8 : ∀ w, (sizeOf 5).run Try.prog w = .ok 1 w := fun w => by
  obtain ⟨i0, hi0, hz0, hz1, hz2⟩ := info_parts u8_info
  simp [sizeOf, typeInfo, hi0, hz1]
theorem parts_mix (W : World) (A : Option Addr) (n c : Nat) (l : List UInt8) (ch : UInt8) (v : Value) (h : Rd W W.heap.size 1 A n (l.map bv)) (hv : bv ch = v) :
    Rd ((W.alloc (.cells #[v] 5)).alloc (.cells #[.slice A n c, .slice (some ⟨W.heap.size, 0, none⟩) 1 1] 23)) (W.heap.size + 2) 1 (some ⟨W.heap.size + 1, 0, none⟩) 2 ([(⟨A, n, c, l⟩ : Sl), ⟨some ⟨W.heap.size, 0, none⟩, 1, 1, [ch]⟩].map slV) ∧
    (∀ s ∈ [(⟨A, n, c, l⟩ : Sl), ⟨some ⟨W.heap.size, 0, none⟩, 1, 1, [ch]⟩], Rd ((W.alloc (.cells #[v] 5)).alloc (.cells #[.slice A n c, .slice (some ⟨W.heap.size, 0, none⟩) 1 1] 23)) (W.heap.size + 2) 1 s.A s.n (s.l.map bv)) := by
  constructor
  · have := Rd.made (W.alloc (.cells #[v] 5)) 23 1 2 #[.slice A n c, .slice (some ⟨W.heap.size, 0, none⟩) 1 1] rfl
    simp only [World.size_alloc] at this
    exact this
  · intro s hs
    simp at hs
    rcases hs with rfl | rfl
    · exact ((h.alloc (by omega) _).alloc (by simp) _).mono (by omega)
    · have h1 := rd_mark W 5 #[v] (0, 0) 1 rfl
      have e : (#[v] : Array Value).toList = [ch].map bv := by simp [hv]
      rw [e] at h1
      exact (h1.alloc (by simp) _).mono (by omega)
set_option maxRecDepth 100000 in
set_option maxHeartbeats 4000000 in
theorem FindLonger_any (A : Option Addr) (n c : Nat) (l : List Int) (at_ long : Int) (w : World) (hr : Rd w w.heap.size 1 A n (l.map iv)) (hn : n ≤ maxLen) :
    Calls Try.prog 5 #[.slice A n c, .int .i64 at_, .int .i64 long] w fun e w' => e = .returned (.bool true) ∧ Below w.heap.size w w' := by
  have Hr := Lib.hid hr
  clear hr
  go_enter Try.func5, Try.ntmps5
  go_wp2_with fail
  refine (Text_any A n c w.heap.size l 60 true w Hr.out (Nat.le_refl _) hn (by omega)).mono ?_
  rintro e w1 ⟨t, A1, c1, ht60, hfew, rfl, hm1, hb1⟩
  obtain ⟨n1, hn1⟩ : ∃ n1, t.length = n1 := ⟨_, rfl⟩
  rw [hn1] at hm1 ht60
  rw [hn1]
  have hfew2 : ∀ c ∈ t, 97 ≤ c.toNat ∧ c.toNat < 100 := fun c hc => by have := hfew rfl c hc; omega
  have Hn1 := Lib.hid hn1
  have Hm1 := Lib.hid hm1
  have Hb1 := Lib.hid hb1
  have Hfew := Lib.hid hfew2
  clear hn1 hm1 hb1 hfew hfew2 Hr
  go_wp2_with fail
  have hbA : Below w1.heap.size w1 (w1.alloc (.cells #[.slice A1 n1 c1] 23)) := (Below.refl _ _).alloc (Nat.le_refl _) _
  have hrd := Rd.made w1 23 1 1 #[.slice A1 n1 c1] rfl
  have hm1A := Hm1.out.below hbA
  refine (TxtNew_any 4 _ 1 1 _ [⟨A1, n1, c1, t⟩] t (by simp [catS]) _ hrd (fun s hs => by simp at hs; subst hs; exact hm1A.rd) (Nat.le_refl _) (by omega) (by rw [Hn1.out]; omega) (by omega) (by omega)).mono ?_
  rintro e w3 ⟨gl, rfl, hgl, htx, hb3⟩
  have hb23 := hbA.trans (hb3.mono hbA.size)
  have hbw3 := Hb1.out.trans (hb23.mono Hb1.out.size)
  have hm13 := Hm1.out.below hb23
  have htx3 := htx.mono (B' := w.heap.size) (by have := Hb1.out.size; have := hbA.size; omega)
  have Hm1' := Lib.hid hm13
  have Hb3 := Lib.hid hbw3
  have Ht := Lib.hid htx3
  clear hrd hm1A hb3 hbA hb23 hbw3 hm13 htx3 htx hgl Hb1 Hm1
  obtain ⟨k, hk1, hk2⟩ := umod_ex at_ ((n1 : Int) + 1) (by omega)
  obtain ⟨m0, hm01, hm02⟩ := umod_ex long 4 (by omega)
  obtain ⟨m, hm⟩ : ∃ m, min m0 (n1 - k) = m := ⟨_, rfl⟩
  obtain ⟨h, hh⟩ : ∃ h, k + m = h := ⟨_, rfl⟩
  have hkn : k ≤ n1 := by omega
  have hmn : k + m ≤ n1 := by omega
  have hm3 : m ≤ 3 := by omega
  have e1 : IntKind.i64.wrap ((n1 : Int) + 1) = (n1 : Int) + 1 := by rw [IntKind.wrap_i64]; omega
  have e2 : IntKind.u64.wrap ((n1 : Int) + 1) = (n1 : Int) + 1 := by rw [IntKind.wrap_u64]; omega
  have e3 : IntKind.i64.wrap (k : Int) = (k : Int) := by rw [IntKind.wrap_i64]; omega
  have e4 : IntKind.i64.wrap (m0 : Int) = (m0 : Int) := by rw [IntKind.wrap_i64]; omega
  have e5 : IntKind.i64.wrap ((n1 : Int) - (k : Int)) = (n1 : Int) - (k : Int) := by rw [IntKind.wrap_i64]; omega
  have e6 : min (m0 : Int) ((n1 : Int) - (k : Int)) = (m : Int) := by omega
  have e7 : IntKind.i64.wrap ((k : Int) + (m : Int)) = (h : Int) := by rw [IntKind.wrap_i64]; omega
  have hc1 := Hm1'.out.cap
  have kc := run_cut_lohi (P := Try.prog) 23 5 1 Try.underlying23 size_u8 A1 n1 c1 k h (by omega) (by omega)
  have hhk : h - k = m := by omega
  rw [hhk] at kc
  obtain ⟨q, hq⟩ : ∃ q, (t.drop k).take m = q := ⟨_, rfl⟩
  have hql : q.length = m := by rw [← hq, List.length_take, List.length_drop, Hn1.out]; omega
  have hocc1 := occ_cut (t := t) k m (by rw [Hn1.out]; omega)
  rw [hq] at hocc1
  have hall := sumP_all t q Hfew.out (by rw [Hn1.out, hql]; omega)
  have hle3 := occ_le (symL t) (symB q)
  rw [symL_len, Hn1.out] at hle3
  have hsle : ∀ j, occ (symL t) (symB q ++ [98 + j]) ≤ occ (symL t) (symB q) := fun j => occ_snoc_le t q (98 + j)
  have hz : occ (symL t) (symB q ++ [123]) = 0 := occ_none t q 123 (by omega) (fun c hc => by have := Hfew.out c hc; omega)
  obtain ⟨x, hx⟩ : ∃ x, occ (symL t) (symB q) = x := ⟨_, rfl⟩
  rw [hx] at hall hocc1 hle3 hsle
  rw [Hn1.out, hql] at hall
  have hP : ∀ w2 : World, VB w.heap.size w3 w2 → Rd w2 w2.heap.size 1 (cutA A1 c1 k 1) m (q.map bv) := fun w2 hv => by
    have h0 := (hv.1.made Hm1'.out (by decide) (by decide)).rd
    have h1 := (h0.cut (k := k) (cap := c1) (by omega) hc1).cut_hi (k := m) (by omega)
    rw [Nat.mul_one, Nat.mul_one, ← List.map_drop, ← List.map_take, hq] at h1
    exact h1
  have HP := Lib.hid hP
  have Hx := Lib.hid hx
  have Hql := Lib.hid hql
  have Hx1 := Lib.hid hocc1
  have Hle3 := Lib.hid hle3
  have Hsle := Lib.hid hsle
  have Hall := Lib.hid hall
  have Hz := Lib.hid hz
  have Hmn := Lib.hid hmn
  have Hm3 := Lib.hid hm3
  clear hk2 hm02 hm hh hkn hmn hm3 hc1 hhk hq hql hocc1 hall hle3 hsle hz hx hP
  go_wp2_with fail
  clear e1 e2 e3 e4 e5 e6 e7 kc hk1 hm01
  have hbA : Below w3.heap.size w3 (w3.alloc (.cells #[.slice (cutA A1 c1 k 1) m (c1 - k)] 23)) := (Below.refl _ _).alloc (Nat.le_refl _) _
  have hrd := Rd.made w3 23 1 1 #[.slice (cutA A1 c1 k 1) m (c1 - k)] rfl
  refine (TxtCount_any w.heap.size gl t _ 1 1 _ [⟨cutA A1 c1 k 1, m, c1 - k, q⟩] q (by simp [catS]) _ (Ht.out.vis (Vis.of_below hbA)) hrd (fun s hs => by simp at hs; subst hs; exact HP.out _ (VisK.of_below hbA)) (Nat.le_refl _) (by omega) (by rw [Hql.out]; have := Hm3.out; omega)).mono ?_
  rintro e w4 ⟨rfl, hv4⟩
  rw [Hx.out]
  have hv34 := (VisK.of_below hbA).trans hv4
  clear hbA hrd hv4
  go_wp2_with fail
  go_loopw [14, 15] (fun s i wr => ∃ j : Nat, j ≤ 3 ∧ i = .int .i32 (97 + (j : Int)) ∧ s = .int .i64 ((sumP t q j : Nat) : Int) ∧ VB w.heap.size w3 wr) (fun _ i _ => 100 - (intOf i).toNat)
  case atStart => exact ⟨0, by omega, rfl, rfl, hv34⟩
  case round =>
    obtain ⟨j, hj, rfl, rfl, hv⟩ := hrel
    have htr := Ht.out.vis hv.1
    have Hv := Lib.hid hv
    have Htr := Lib.hid htr
    have hall := Hall.out
    have hle3 := Hle3.out
    have hsl := Hsle.out j
    clear hv htr
    by_cases hlt : j < 3
    · have hsj : sumP t q j + occ (symL t) (symB q ++ [98 + j]) ≤ sumP t q 3 := by
        obtain rfl | rfl | rfl : j = 0 ∨ j = 1 ∨ j = 2 := by omega
        · show sumP t q 1 ≤ sumP t q 1 + _ + _; omega
        · show sumP t q 2 ≤ sumP t q 2 + _; omega
        · exact Nat.le_refl _
      have hsn : sumP t q (j + 1) = sumP t q j + occ (symL t) (symB q ++ [98 + j]) := rfl
      obtain ⟨sj, hsj0⟩ : ∃ s, sumP t q j = s := ⟨_, rfl⟩
      obtain ⟨oj, hoj⟩ : ∃ o, occ (symL t) (symB q ++ [98 + j]) = o := ⟨_, rfl⟩
      rw [hoj] at hsl
      rw [hsj0, hoj] at hsj hsn
      rw [hsj0]
      have e1 : IntKind.u8.wrap (97 + (j : Int)) = 97 + (j : Int) := by rw [IntKind.wrap_u8]; omega
      have e2 : (97 : Int) + (j : Int) ≤ 99 := by omega
      have e3 : ¬ ((x : Int) < (oj : Int)) := by omega
      have e4 : IntKind.i64.wrap ((sj : Int) + (oj : Int)) = ((sj + oj : Nat) : Int) := by rw [IntKind.wrap_i64]; omega
      have e5 : IntKind.i32.wrap (97 + (j : Int) + 1) = 97 + ((j + 1 : Nat) : Int) := by rw [IntKind.wrap_i32]; omega
      obtain ⟨ch, hch⟩ := byte_ex (97 + (j : Int)) (by omega) (by omega)
      have hcb : bv ch = .int .u8 (97 + (j : Int)) := by unfold bv; rw [hch]
      have hsy : symB (q ++ [ch]) = symB q ++ [98 + j] := by simp [symB]; omega
      have Hcb := Lib.hid hcb
      have Hsy := Lib.hid hsy
      have Hoj := Lib.hid hoj
      have Hsn := Lib.hid hsn
      clear hch hcb hsy hoj hsn hsj hsj0 hsl hle3 hall
      go_wp2_with fail
      have hp := parts_mix wr (cutA A1 c1 k 1) m (c1 - k) q ch (.int .u8 (97 + (j : Int))) (HP.out _ Hv.out) Hcb.out
      have hbp : Below wr.heap.size wr ((wr.alloc (.cells #[.int .u8 (97 + (j : Int))] 5)).alloc (.cells #[.slice (cutA A1 c1 k 1) m (c1 - k), .slice (some ⟨wr.heap.size, 0, none⟩) 1 1] 23)) := ((Below.refl _ _).alloc (Nat.le_refl _) _).alloc (by simp) _
      refine (TxtCount_any w.heap.size gl t _ 2 2 (wr.heap.size + 2) [(⟨cutA A1 c1 k 1, m, c1 - k, q⟩ : Sl), ⟨some ⟨wr.heap.size, 0, none⟩, 1, 1, [ch]⟩] (q ++ [ch]) (by simp [catS]) _ (Htr.out.vis (Vis.of_below hbp)) hp.1 hp.2 (by simp) (by omega) (by simp [Hql.out]; have := Hm3.out; omega)).mono ?_
      rintro e w5 ⟨rfl, hv5⟩
      rw [Hsy.out, Hoj.out]
      have hv6 := Hv.out.trans ((VisK.of_below hbp).trans hv5)
      clear hp hbp hv5
      go_wp2_with fail
      go_roundw
      case rel => exact ⟨j + 1, by omega, by go_num, by rw [Hsn.out]; go_num, hv6⟩
      case measure => simp [intOf]; omega
    · obtain rfl : j = 3 := by omega
      obtain ⟨W, hW⟩ : ∃ W, W = wr := ⟨_, rfl⟩
      subst hW
      have hm1W := Hv.out.1.made Hm1'.out (by decide) (by decide)
      have hbW := Hb3.out.trans (VB.to_below Hv.out Hb3.out.size)
      obtain ⟨s3, hs3⟩ : ∃ s, sumP t q 3 = s := ⟨_, rfl⟩
      rw [hs3] at hall ⊢
      obtain ⟨BB, hBB⟩ : ∃ b, decide (t.drop (n1 - m) = q) = b := ⟨_, rfl⟩
      have hall2 : x = s3 + (if BB then 1 else 0) := by
        rw [← hBB, hall]
        by_cases hd : t.drop (n1 - m) = q
        · simp [hd]
        · simp [hd]
      obtain ⟨d, hd⟩ : ∃ d, n1 - m = d := ⟨_, rfl⟩
      rw [hd] at hBB
      have hdm : (n1 : Int) - (m : Int) = (d : Int) := by have := Hmn.out; omega
      have hdn : d ≤ n1 := by omega
      have hx61 : x ≤ 61 := by omega
      have Hx61 := Lib.hid hx61
      have Hm1W := Lib.hid hm1W
      have HbW := Lib.hid hbW
      have HBB := Lib.hid hBB
      have Hall2 := Lib.hid hall2
      have Hdm := Lib.hid hdm
      have Hdn := Lib.hid hdn
      have Hlt := hlt
      clear hx61 hm1W hbW hBB hall2 hd hdm hdn hs3 hall hle3 hsl hlt Hall Hle3 Hsle hj
      go_wp2_with fail
      refine wp_region_any (by kernel_rfl) ?_
      refine wpAny_loose2 [76, 77, 78, 79, 80, 81, 82, 83, 84, 85] (VB w.heap.size) (Vs [is (.slice A1 n1 c1), is (.slice A1 n1 c1), is (.int .i64 (n1 : Int)), is (.int .i64 (m : Int)), is (.int .i64 (d : Int)), is (.slice (cutA A1 c1 d 1) (n1 - d) (c1 - d)), is (.string ⟨(t.drop d).toArray⟩), is (.slice (cutA A1 c1 k 1) m (c1 - k)), is (.string ⟨q.toArray⟩), is (.bool BB)]) _ _ rfl (by kernel_rfl) (VisK.refl _ _) (fun _ _ => VisK.trans) (stbs_all (by repeat' (first | exact stbs_is _ _ | exact stbs_any _ | (refine List.forall_mem_cons.2 ⟨?_, ?_⟩) | (intro p hp; cases hp)))) ?_ ?_
      · refine steps_of ?_
        refine steps_cons ?_ ?_
        · refine step_on rfl rfl ?_
          intro ev w5 hS hc hf hold hval a K ha hK
          have e7 : ev (.tmp 7) = .slice A1 n1 c1 := hold 7 (by kernel_rfl)
          replace hS : (VB w.heap.size) W w5 := ⟨⟨hS.1.os, hS.1.tape, hS.1.output, hS.1.size, hS.1.block⟩, ⟨hS.2.os, hS.2.tape, hS.2.output, hS.2.size, hS.2.block⟩⟩
          go_simp
          exact hK _ _ ((VisK.refl _ _)) rfl
        refine steps_cons ?_ ?_
        · refine step_on rfl rfl ?_
          intro ev w5 hS hc hf hold hval a K ha hK
          have e7 : ev (.tmp 7) = .slice A1 n1 c1 := hold 7 (by kernel_rfl)
          replace hS : (VB w.heap.size) W w5 := ⟨⟨hS.1.os, hS.1.tape, hS.1.output, hS.1.size, hS.1.block⟩, ⟨hS.2.os, hS.2.tape, hS.2.output, hS.2.size, hS.2.block⟩⟩
          go_simp
          exact hK _ _ ((VisK.refl _ _)) rfl
        refine steps_cons ?_ ?_
        · refine step_on rfl rfl ?_
          intro ev w5 hS hc hf hold hval a K ha hK
          have e77 : ev (.tmp 77) = .slice A1 n1 c1 := hval 1 77 (by kernel_rfl) rfl
          replace hS : (VB w.heap.size) W w5 := ⟨⟨hS.1.os, hS.1.tape, hS.1.output, hS.1.size, hS.1.block⟩, ⟨hS.2.os, hS.2.tape, hS.2.output, hS.2.size, hS.2.block⟩⟩
          go_simp
          exact hK _ _ ((VisK.refl _ _)) rfl
        refine steps_cons ?_ ?_
        · refine step_on rfl rfl ?_
          intro ev w5 hS hc hf hold hval a K ha hK
          have e11 : ev (.tmp 11) = .int .i64 (m : Int) := hold 11 (by kernel_rfl)
          replace hS : (VB w.heap.size) W w5 := ⟨⟨hS.1.os, hS.1.tape, hS.1.output, hS.1.size, hS.1.block⟩, ⟨hS.2.os, hS.2.tape, hS.2.output, hS.2.size, hS.2.block⟩⟩
          go_simp
          exact hK _ _ ((VisK.refl _ _)) rfl
        refine steps_cons ?_ ?_
        · refine step_on rfl rfl ?_
          intro ev w5 hS hc hf hold hval a K ha hK
          have e78 : ev (.tmp 78) = .int .i64 (n1 : Int) := hval 2 78 (by kernel_rfl) rfl
          have e79 : ev (.tmp 79) = .int .i64 (m : Int) := hval 3 79 (by kernel_rfl) rfl
          replace hS : (VB w.heap.size) W w5 := ⟨⟨hS.1.os, hS.1.tape, hS.1.output, hS.1.size, hS.1.block⟩, ⟨hS.2.os, hS.2.tape, hS.2.output, hS.2.size, hS.2.block⟩⟩
          have hx1 : IntKind.i64.wrap ((n1 : Int) - (m : Int)) = (d : Int) := by rw [Hdm.out, IntKind.wrap_i64]; have := Hdn.out; omega
          go_simp
          exact hK _ _ ((VisK.refl _ _)) rfl
        refine steps_cons ?_ ?_
        · refine step_on rfl rfl ?_
          intro ev w5 hS hc hf hold hval a K ha hK
          have e76 : ev (.tmp 76) = .slice A1 n1 c1 := hval 0 76 (by kernel_rfl) rfl
          have e80 : ev (.tmp 80) = .int .i64 (d : Int) := hval 4 80 (by kernel_rfl) rfl
          replace hS : (VB w.heap.size) W w5 := ⟨⟨hS.1.os, hS.1.tape, hS.1.output, hS.1.size, hS.1.block⟩, ⟨hS.2.os, hS.2.tape, hS.2.output, hS.2.size, hS.2.block⟩⟩
          have kc := run_cut_lo (P := Try.prog) 23 5 1 Try.underlying23 Try.sizeOf5 A1 n1 c1 d Hdn.out
          go_simp
          exact hK _ _ ((VisK.refl _ _)) rfl
        refine steps_cons ?_ ?_
        · refine step_on rfl rfl ?_
          intro ev w5 hS hc hf hold hval a K ha hK
          have e81 : ev (.tmp 81) = .slice (cutA A1 c1 d 1) (n1 - d) (c1 - d) := hval 5 81 (by kernel_rfl) rfl
          replace hS : (VB w.heap.size) W w5 := ⟨⟨hS.1.os, hS.1.tape, hS.1.output, hS.1.size, hS.1.block⟩, ⟨hS.2.os, hS.2.tape, hS.2.output, hS.2.size, hS.2.block⟩⟩
          have hm1 := hS.1.made Hm1W.out (by decide) (by decide)
          have hc0 := hm1.rd.cut (k := d) (cap := c1) Hdn.out hm1.cap
          rw [Nat.mul_one, ← List.map_drop] at hc0
          have s82 := strOf hc0
          go_simp
          exact hK _ _ ((VisK.refl _ _)) rfl
        refine steps_cons ?_ ?_
        · refine step_on rfl rfl ?_
          intro ev w5 hS hc hf hold hval a K ha hK
          have e12 : ev (.tmp 12) = .slice (cutA A1 c1 k 1) m (c1 - k) := hold 12 (by kernel_rfl)
          replace hS : (VB w.heap.size) W w5 := ⟨⟨hS.1.os, hS.1.tape, hS.1.output, hS.1.size, hS.1.block⟩, ⟨hS.2.os, hS.2.tape, hS.2.output, hS.2.size, hS.2.block⟩⟩
          go_simp
          exact hK _ _ ((VisK.refl _ _)) rfl
        refine steps_cons ?_ ?_
        · refine step_on rfl rfl ?_
          intro ev w5 hS hc hf hold hval a K ha hK
          have e83 : ev (.tmp 83) = .slice (cutA A1 c1 k 1) m (c1 - k) := hval 7 83 (by kernel_rfl) rfl
          replace hS : (VB w.heap.size) W w5 := ⟨⟨hS.1.os, hS.1.tape, hS.1.output, hS.1.size, hS.1.block⟩, ⟨hS.2.os, hS.2.tape, hS.2.output, hS.2.size, hS.2.block⟩⟩
          have s84 := strOf (HP.out _ (Hv.out.trans hS))
          go_simp
          exact hK _ _ ((VisK.refl _ _)) rfl
        refine steps_cons ?_ ?_
        · refine step_on rfl rfl ?_
          intro ev w5 hS hc hf hold hval a K ha hK
          have e82 : ev (.tmp 82) = .string ⟨(t.drop d).toArray⟩ := hval 6 82 (by kernel_rfl) rfl
          have e84 : ev (.tmp 84) = .string ⟨q.toArray⟩ := hval 8 84 (by kernel_rfl) rfl
          replace hS : (VB w.heap.size) W w5 := ⟨⟨hS.1.os, hS.1.tape, hS.1.output, hS.1.size, hS.1.block⟩, ⟨hS.2.os, hS.2.tape, hS.2.output, hS.2.size, hS.2.block⟩⟩
          go_simp
          exact hK _ _ (VisK.refl _ _) (bool_eq (by rw [← HBB.out, Bool.eq_iff_iff]; simp))
        exact steps_nil
      · intro ev w6 hS hval
        replace hS : (VB w.heap.size) W w6 := ⟨⟨hS.1.os, hS.1.tape, hS.1.output, hS.1.size, hS.1.block⟩, ⟨hS.2.os, hS.2.tape, hS.2.output, hS.2.size, hS.2.block⟩⟩
        have e85 : ev (.tmp 85) = .bool BB := hval 9 85 rfl
        simp only [putsOf, List.foldl_cons, List.foldl_nil, Act.put, List.setIfInBounds_toArray, List.set_cons_zero, List.set_cons_succ]
        rw [e85]
        clear hval
        have hv0 := Hv.out.trans hS
        have hb0 := HbW.out.trans (VB.to_below hS HbW.out.size)
        have ht0 := Ht.out.vis hv0.1
        have hP0 := HP.out _ hv0
        have Hb0 := Lib.hid hb0
        have Ht0 := Lib.hid ht0
        have HP0 := Lib.hid hP0
        clear hv0 hb0 ht0 hP0
        cases BB with
        | true =>
          have hall3 : x = s3 + 1 := Hall2.out
          clear HBB
          have hx2 : IntKind.i64.wrap ((x : Int) - 1) = (s3 : Int) := by rw [IntKind.wrap_i64]; have := Hx61.out; omega
          have hx3 : decide ((x : Int) ≥ 1) = true := by have := Hx1.out; simp; omega
          clear hall3
          go_wp2_with fail
          refine (Told13_any _).mono ?_
          rintro e w5 ⟨rfl, hb5⟩
          have hb6 := Hb0.out.trans (hb5.mono Hb0.out.size)
          have ht6 := Ht0.out.vis (Vis.of_below hb5)
          have hm6 := (HP0.out.below hb5).mono hb5.size
          have Hb6 := Lib.hid hb6
          have Ht6 := Lib.hid ht6
          have Hm6 := Lib.hid hm6
          clear hb6 ht6 hm6 hb5
          go_wp2_with fail
          have hp := parts_mix w5 (cutA A1 c1 k 1) m (c1 - k) q 122 (.int .u8 122) Hm6.out rfl
          have hbp : Below w5.heap.size w5 ((w5.alloc (.cells #[.int .u8 122] 5)).alloc (.cells #[.slice (cutA A1 c1 k 1) m (c1 - k), .slice (some ⟨w5.heap.size, 0, none⟩) 1 1] 23)) := ((Below.refl _ _).alloc (Nat.le_refl _) _).alloc (by simp) _
          have hsy : symB (q ++ [122]) = symB q ++ [123] := by simp [symB]
          refine (TxtCount_any w.heap.size gl t _ 2 2 (w5.heap.size + 2) [(⟨cutA A1 c1 k 1, m, c1 - k, q⟩ : Sl), ⟨some ⟨w5.heap.size, 0, none⟩, 1, 1, [122]⟩] (q ++ [122]) (by simp [catS]) _ (Ht6.out.vis (Vis.of_below hbp)) hp.1 hp.2 (by simp) (by omega) (by simp [Hql.out]; have := Hm3.out; omega)).mono ?_
          rintro e w8 ⟨rfl, hv8⟩
          rw [hsy, Hz.out]
          have hb9 := Hb6.out.trans ((hbp.mono Hb6.out.size).trans (VB.to_below hv8 (by have := hbp.size; have := Hb6.out.size; omega)))
          have Hb9 := Lib.hid hb9
          clear hb9 hp hbp hv8 hsy
          go_wp2_with fail
          go_ret
          exact ⟨rfl, Hb9.out⟩
        | false =>
          have hall3 : x = s3 + 0 := Hall2.out
          clear HBB
          have hx2 : IntKind.i64.wrap (x : Int) = (s3 : Int) := by rw [IntKind.wrap_i64]; have := Hx61.out; omega
          have hx3 : decide ((x : Int) ≥ 1) = true := by have := Hx1.out; simp; omega
          clear hall3
          go_wp2_with fail
          refine (Told13_any _).mono ?_
          rintro e w5 ⟨rfl, hb5⟩
          have hb6 := Hb0.out.trans (hb5.mono Hb0.out.size)
          have ht6 := Ht0.out.vis (Vis.of_below hb5)
          have hm6 := (HP0.out.below hb5).mono hb5.size
          have Hb6 := Lib.hid hb6
          have Ht6 := Lib.hid ht6
          have Hm6 := Lib.hid hm6
          clear hb6 ht6 hm6 hb5
          go_wp2_with fail
          have hp := parts_mix w5 (cutA A1 c1 k 1) m (c1 - k) q 122 (.int .u8 122) Hm6.out rfl
          have hbp : Below w5.heap.size w5 ((w5.alloc (.cells #[.int .u8 122] 5)).alloc (.cells #[.slice (cutA A1 c1 k 1) m (c1 - k), .slice (some ⟨w5.heap.size, 0, none⟩) 1 1] 23)) := ((Below.refl _ _).alloc (Nat.le_refl _) _).alloc (by simp) _
          have hsy : symB (q ++ [122]) = symB q ++ [123] := by simp [symB]
          refine (TxtCount_any w.heap.size gl t _ 2 2 (w5.heap.size + 2) [(⟨cutA A1 c1 k 1, m, c1 - k, q⟩ : Sl), ⟨some ⟨w5.heap.size, 0, none⟩, 1, 1, [122]⟩] (q ++ [122]) (by simp [catS]) _ (Ht6.out.vis (Vis.of_below hbp)) hp.1 hp.2 (by simp) (by omega) (by simp [Hql.out]; have := Hm3.out; omega)).mono ?_
          rintro e w8 ⟨rfl, hv8⟩
          rw [hsy, Hz.out]
          have hb9 := Hb6.out.trans ((hbp.mono Hb6.out.size).trans (VB.to_below hv8 (by have := hbp.size; have := Hb6.out.size; omega)))
          have Hb9 := Lib.hid hb9
          clear hb9 hp hbp hv8 hsy
          go_wp2_with fail
          go_ret
          exact ⟨rfl, Hb9.out⟩
end Go.Proofs.Ytdpknieiigibfaa
