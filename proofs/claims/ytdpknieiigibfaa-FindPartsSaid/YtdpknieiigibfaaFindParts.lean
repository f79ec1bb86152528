/- The walk of FindParts: a pattern in parts is the pattern; all letters' counts are all rows but the end's. Conditions: the lists' lengths are lengths. -/
import Derived.Test.YtdpknieiigibfaaFnOcc
namespace Go.Proofs.Ytdpknieiigibfaa
open Go.RowKit
set_option linter.unusedVariables false
set_option linter.unusedSimpArgs false
set_option maxRecDepth 100000 in
set_option maxHeartbeats 4000000 in
theorem FindParts_any (A : Option Addr) (n c : Nat) (l : List Int) (few : Bool) (A' : Option Addr) (n' c' : Nat) (l' : List Int) (cut : Int) (w : World) (hr : Rd w w.heap.size 1 A n (l.map iv)) (hn : n ≤ maxLen) (hr' : Rd w w.heap.size 1 A' n' (l'.map iv)) (hn' : n' ≤ maxLen) :
    Calls Try.prog 3 #[.slice A n c, .bool few, .slice A' n' c', .int .i64 cut] w fun e w' => e = .returned (.bool true) ∧ Below w.heap.size w w' := by
  have Hr := Lib.hid hr
  have Hr' := Lib.hid hr'
  clear hr hr'
  go_enter Try.func3, Try.ntmps3
  go_wp2_with fail
  refine (Text_any A n c w.heap.size l 60 few w Hr.out (Nat.le_refl _) hn (by omega)).mono ?_
  rintro e w1 ⟨t, A1, c1, ht60, _, rfl, hm1, hb1⟩
  have Hm1 := Lib.hid hm1
  have Hb1 := Lib.hid hb1
  clear hm1 hb1
  go_wp2_with fail
  refine (Text_any A' n' c' w.heap.size l' 5 few w1 (Hr'.out.below Hb1.out) Hb1.out.size hn' (by omega)).mono ?_
  rintro e w2 ⟨q, A2, c2, hq5, _, rfl, hm2, hb2⟩
  have hb12 := Hb1.out.trans (hb2.mono Hb1.out.size)
  have hm12 := Hm1.out.below hb2
  have Hm1' := Lib.hid hm12
  have Hm2 := Lib.hid hm2
  have Hb2 := Lib.hid hb12
  clear hm12 hm2 hb12 hb2 Hm1 Hb1
  obtain ⟨n1, hn1⟩ : ∃ n1, t.length = n1 := ⟨_, rfl⟩
  obtain ⟨n2, hn2⟩ : ∃ n2, q.length = n2 := ⟨_, rfl⟩
  rw [hn1] at Hm1' ht60
  rw [hn2] at Hm2 hq5
  rw [hn1, hn2]
  have Hn1 := Lib.hid hn1
  have Hn2 := Lib.hid hn2
  clear hn1 hn2
  go_wp2_with fail
  have hbA : Below w2.heap.size w2 (w2.alloc (.cells #[.slice A1 n1 c1] 23)) := (Below.refl _ _).alloc (Nat.le_refl _) _
  have hrd := Rd.made w2 23 1 1 #[.slice A1 n1 c1] rfl
  have hm1A := Hm1'.out.below hbA
  refine (TxtNew_any 4 _ 1 1 _ [⟨A1, n1, c1, t⟩] t (by simp [catS]) _ hrd (fun s hs => by simp at hs; subst hs; exact hm1A.rd) (Nat.le_refl _) (by omega) (by rw [Hn1.out]; omega) (by omega) (by omega)).mono ?_
  rintro e w3 ⟨gl, rfl, hgl, htx, hb3⟩
  have hb23 := hbA.trans (hb3.mono hbA.size)
  have hbw3 := Hb2.out.trans (hb23.mono Hb2.out.size)
  have hm13 := Hm1'.out.below hb23
  have hm23 := Hm2.out.below hb23
  have htx3 := htx.mono (B' := w.heap.size) (by have := Hb2.out.size; have := hbA.size; omega)
  have Hm1 := Lib.hid hm13
  have Hm23 := Lib.hid hm23
  have Hb3 := Lib.hid hbw3
  have Ht := Lib.hid htx3
  clear hrd hm1A hb3 hbA hb23 hbw3 hm13 hm23 htx3 htx hgl Hb2 Hm1' Hm2
  obtain ⟨k, hk1, hk2⟩ := umod_ex cut ((n2 : Int) + 1) (by omega)
  have e1 : IntKind.i64.wrap ((n2 : Int) + 1) = (n2 : Int) + 1 := by rw [IntKind.wrap_i64]; omega
  have e2 : IntKind.u64.wrap ((n2 : Int) + 1) = (n2 : Int) + 1 := by rw [IntKind.wrap_u64]; omega
  have e3 : IntKind.i64.wrap (k : Int) = (k : Int) := by rw [IntKind.wrap_i64]; omega
  have hkn : k ≤ n2 := by omega
  have Hk := Lib.hid hkn
  clear hk2 hkn
  go_wp2_with fail
  clear e1 e2 e3 hk1
  go_loopw [14, 15] (fun s i wr => ∃ j : Nat, j ≤ 256 ∧ i = .int .i64 j ∧ s = .int .i64 ((sumO t j : Nat) : Int) ∧ VB w.heap.size w3 wr) (fun _ i _ => 256 - (intOf i).toNat)
  case atStart => exact ⟨0, by omega, rfl, rfl, VisK.refl _ _⟩
  case round =>
    obtain ⟨j, hj, rfl, rfl, hv⟩ := hrel
    have htr := Ht.out.vis hv.1
    have Hv := Lib.hid hv
    have Htr := Lib.hid htr
    clear hv htr
    have hso := sumO_le t j
    rw [Hn1.out] at hso
    obtain ⟨sj, hsj⟩ : ∃ s, sumO t j = s := ⟨_, rfl⟩
    rw [hsj] at hso ⊢
    have Hsj := Lib.hid hsj
    clear hsj
    by_cases hlt : j < 256
    · have e1 : IntKind.u8.wrap (j : Int) = (j : Int) := by rw [IntKind.wrap_u8]; omega
      obtain ⟨ch, hch⟩ := byte_ex (j : Int) (by omega) (by omega)
      have hsy : symB [ch] = [j + 1] := by simp [symB]; omega
      have hoc := occ_le (symL t) [j + 1]
      rw [symL_len, Hn1.out] at hoc
      obtain ⟨oj, hoj⟩ : ∃ o, occ (symL t) [j + 1] = o := ⟨_, rfl⟩
      rw [hoj] at hoc
      have hsn : sumO t (j + 1) = sj + oj := by
        show sumO t j + occ (symL t) [j + 1] = _
        rw [Hsj.out, hoj]
      have Hsn := Lib.hid hsn
      have Hch := Lib.hid hch
      have Hsy := Lib.hid hsy
      have Hoj := Lib.hid hoj
      clear hch hsy hsn hoj
      go_wp2_with fail
      have hp := parts_one wr #[.int .u8 (j : Int)] (0, 0) [ch] 1 (by simp [bv, Hch.out]) rfl
      have hbp : Below wr.heap.size wr ((wr.alloc (.cells #[.int .u8 (j : Int)] 5)).alloc (.cells #[.slice (some ⟨wr.heap.size, 0, none⟩) 1 1] 23)) := ((Below.refl _ _).alloc (Nat.le_refl _) _).alloc (by simp) _
      refine (TxtCount_any w.heap.size gl t _ 1 1 (wr.heap.size + 2) [(⟨some ⟨wr.heap.size, 0, none⟩, 1, 1, [ch]⟩ : Sl)] [ch] rfl _ (Htr.out.vis (Vis.of_below hbp)) hp.1 hp.2 (by simp) (by omega) (by simp)).mono ?_
      rintro e w5 ⟨rfl, hv5⟩
      rw [Hsy.out, Hoj.out]
      have hv6 := Hv.out.trans ((VisK.of_below hbp).trans hv5)
      clear hp hbp hv5
      go_wp2_with fail
      go_roundw
      case rel => exact ⟨j + 1, by omega, by go_num, by rw [Hsn.out]; go_num, hv6⟩
      case measure => simp [intOf]; omega
    · obtain rfl : j = 256 := by omega
      have hall := sumO_all t
      rw [Hsj.out, Hn1.out] at hall
      obtain rfl : n1 = sj := hall.symm
      obtain ⟨W, hW⟩ : ∃ W, W = wr := ⟨_, rfl⟩
      subst hW
      have hm1W := Hv.out.1.made Hm1.out (by decide) (by decide)
      have hm2W := Hv.out.1.made Hm23.out (by decide) (by decide)
      have hbW := Hb3.out.trans (VB.to_below Hv.out Hb3.out.size)
      have hcat : catS [⟨cutA A2 c2 0 1, k, c2, q.take k⟩, ⟨none, 0, 0, []⟩, ⟨cutA A2 c2 k 1, n2 - k, c2 - k, q.drop k⟩] = q := by simp [catS]
      obtain ⟨x, hx⟩ : ∃ x, occ (symL t) (symB q) = x := ⟨_, rfl⟩
      obtain ⟨y, hyy⟩ : ∃ x, occ (symL t) (symB t) = x := ⟨_, rfl⟩
      have hy : 1 ≤ y := by
        rw [← hyy]
        exact occ_pos (p := 0) (Nat.zero_le _) (fun i c h => by rw [Nat.zero_add]; exact h)
      have hkc : k ≤ c2 := Nat.le_trans Hk.out hm2W.cap
      have Hm1 := Lib.hid hm1W
      have Hm2 := Lib.hid hm2W
      have Hcat := Lib.hid hcat
      have Hx := Lib.hid hx
      have Hyy := Lib.hid hyy
      have Hy := Lib.hid hy
      have Hkc := Lib.hid hkc
      have HbW := Lib.hid hbW
      have Ht := Htr
      clear hm1W hm2W hcat hx hyy hy hkc hbW Hv Htr
      go_wp2_with fail
      refine wp_region_any (by kernel_rfl) ?_
      refine wpAny_loose2 [54, 55, 56, 57, 58, 59, 60, 61, 62, 63, 64, 65, 66, 67, 68, 69, 70, 71, 72, 73, 74, 75, 76, 77, 78, 79, 80, 81, 82, 83, 8] (VB w.heap.size) (Vs [is (.bool true), is (.bool true), is (.pointer (some ⟨gl, 0, none⟩)), is (.slice A2 n2 c2), is (.int .i64 (k : Int)), is (.slice (cutA A2 c2 0 1) k c2), is (.slice A2 n2 c2), is (.int .i64 (k : Int)), is (.slice (cutA A2 c2 k 1) (n2 - k) (c2 - k)), fun v w2 => ∃ g, v = .slice (some ⟨g, 0, none⟩) 3 3 ∧ Bk w2 g 23 #[.slice (cutA A2 c2 0 1) k c2, .slice none 0 0, .slice (cutA A2 c2 k 1) (n2 - k) (c2 - k)], is (.int .i64 (x : Int)), is (.pointer (some ⟨gl, 0, none⟩)), is (.slice A2 n2 c2), fun v w2 => ∃ g, v = .slice (some ⟨g, 0, none⟩) 1 1 ∧ Bk w2 g 23 #[.slice A2 n2 c2], is (.int .i64 (x : Int)), is (.bool true), is (.bool true), is (.bool true), is (.int .i64 (n1 : Int)), is (.slice A1 n1 c1), is (.int .i64 (n1 : Int)), is (.bool true), is (.bool true), is (.bool true), is (.pointer (some ⟨gl, 0, none⟩)), is (.slice A1 n1 c1), fun v w2 => ∃ g, v = .slice (some ⟨g, 0, none⟩) 1 1 ∧ Bk w2 g 23 #[.slice A1 n1 c1], is (.int .i64 (y : Int)), is (.bool true), is (.bool true), is (.bool true)]) _ _ rfl (by kernel_rfl) (VisK.refl _ _) (fun _ _ => VisK.trans) (stbs_all (by repeat' (first | exact stbs_is _ _ | exact stbs_any _ | exact fun _ _ _ ⟨g, h1, h2⟩ k => ⟨g, h1, k.1.bk h2 (by decide) (by decide)⟩ | (refine List.forall_mem_cons.2 ⟨?_, ?_⟩) | (intro p hp; cases hp)))) ?_ ?_
      · refine steps_of ?_
        refine steps_cons ?_ ?_
        · refine step_on rfl rfl ?_
          intro ev w5 hS hc hf hold hval a K ha hK
          replace hS : (VB w.heap.size) W w5 := ⟨⟨hS.1.os, hS.1.tape, hS.1.output, hS.1.size, hS.1.block⟩, ⟨hS.2.os, hS.2.tape, hS.2.output, hS.2.size, hS.2.block⟩⟩
          go_simp
          refine (Told13_any w5).mono ?_
          rintro e w8 ⟨rfl, hb8⟩
          exact hK _ _ (VisK.of_below hb8) rfl
        refine steps_cons ?_ ?_
        · refine step_on rfl rfl ?_
          intro ev w5 hS hc hf hold hval a K ha hK
          have e54 : ev (.tmp 54) = .bool true := hval 0 54 (by kernel_rfl) rfl
          replace hS : (VB w.heap.size) W w5 := ⟨⟨hS.1.os, hS.1.tape, hS.1.output, hS.1.size, hS.1.block⟩, ⟨hS.2.os, hS.2.tape, hS.2.output, hS.2.size, hS.2.block⟩⟩
          go_simp
          exact hK _ _ ((VisK.refl _ _)) rfl
        refine steps_cons ?_ ?_
        · refine step_guard (d := 55) (b := true) rfl rfl rfl (by kernel_rfl) (fun _ _ _ h => h) ?_
          intro ev w5 hS hc hf hold hval a K ha hK
          have e11 : ev (.tmp 11) = .pointer (some ⟨gl, 0, none⟩) := hold 11 (by kernel_rfl)
          replace hS : (VB w.heap.size) W w5 := ⟨⟨hS.1.os, hS.1.tape, hS.1.output, hS.1.size, hS.1.block⟩, ⟨hS.2.os, hS.2.tape, hS.2.output, hS.2.size, hS.2.block⟩⟩
          go_simp
          exact hK _ _ ((VisK.refl _ _)) rfl
        refine steps_cons ?_ ?_
        · refine step_guard (d := 55) (b := true) rfl rfl rfl (by kernel_rfl) (fun _ _ _ h => h) ?_
          intro ev w5 hS hc hf hold hval a K ha hK
          have e10 : ev (.tmp 10) = .slice A2 n2 c2 := hold 10 (by kernel_rfl)
          replace hS : (VB w.heap.size) W w5 := ⟨⟨hS.1.os, hS.1.tape, hS.1.output, hS.1.size, hS.1.block⟩, ⟨hS.2.os, hS.2.tape, hS.2.output, hS.2.size, hS.2.block⟩⟩
          go_simp
          exact hK _ _ ((VisK.refl _ _)) rfl
        refine steps_cons ?_ ?_
        · refine step_guard (d := 55) (b := true) rfl rfl rfl (by kernel_rfl) (fun _ _ _ h => h) ?_
          intro ev w5 hS hc hf hold hval a K ha hK
          have e13 : ev (.tmp 13) = .int .i64 (k : Int) := hold 13 (by kernel_rfl)
          replace hS : (VB w.heap.size) W w5 := ⟨⟨hS.1.os, hS.1.tape, hS.1.output, hS.1.size, hS.1.block⟩, ⟨hS.2.os, hS.2.tape, hS.2.output, hS.2.size, hS.2.block⟩⟩
          go_simp
          exact hK _ _ ((VisK.refl _ _)) rfl
        refine steps_cons ?_ ?_
        · refine step_guard (d := 55) (b := true) rfl rfl rfl (by kernel_rfl) (fun _ _ _ h => h) ?_
          intro ev w5 hS hc hf hold hval a K ha hK
          have e57 : ev (.tmp 57) = .slice A2 n2 c2 := hval 3 57 (by kernel_rfl) rfl
          have e58 : ev (.tmp 58) = .int .i64 (k : Int) := hval 4 58 (by kernel_rfl) rfl
          replace hS : (VB w.heap.size) W w5 := ⟨⟨hS.1.os, hS.1.tape, hS.1.output, hS.1.size, hS.1.block⟩, ⟨hS.2.os, hS.2.tape, hS.2.output, hS.2.size, hS.2.block⟩⟩
          have kc := run_cut_hi (P := Try.prog) 23 5 1 Try.underlying23 Try.sizeOf5 A2 n2 c2 k Hkc.out
          go_simp
          exact hK _ _ ((VisK.refl _ _)) rfl
        refine steps_cons ?_ ?_
        · refine step_guard (d := 55) (b := true) rfl rfl rfl (by kernel_rfl) (fun _ _ _ h => h) ?_
          intro ev w5 hS hc hf hold hval a K ha hK
          have e10 : ev (.tmp 10) = .slice A2 n2 c2 := hold 10 (by kernel_rfl)
          replace hS : (VB w.heap.size) W w5 := ⟨⟨hS.1.os, hS.1.tape, hS.1.output, hS.1.size, hS.1.block⟩, ⟨hS.2.os, hS.2.tape, hS.2.output, hS.2.size, hS.2.block⟩⟩
          go_simp
          exact hK _ _ ((VisK.refl _ _)) rfl
        refine steps_cons ?_ ?_
        · refine step_guard (d := 55) (b := true) rfl rfl rfl (by kernel_rfl) (fun _ _ _ h => h) ?_
          intro ev w5 hS hc hf hold hval a K ha hK
          have e13 : ev (.tmp 13) = .int .i64 (k : Int) := hold 13 (by kernel_rfl)
          replace hS : (VB w.heap.size) W w5 := ⟨⟨hS.1.os, hS.1.tape, hS.1.output, hS.1.size, hS.1.block⟩, ⟨hS.2.os, hS.2.tape, hS.2.output, hS.2.size, hS.2.block⟩⟩
          go_simp
          exact hK _ _ ((VisK.refl _ _)) rfl
        refine steps_cons ?_ ?_
        · refine step_guard (d := 55) (b := true) rfl rfl rfl (by kernel_rfl) (fun _ _ _ h => h) ?_
          intro ev w5 hS hc hf hold hval a K ha hK
          have e60 : ev (.tmp 60) = .slice A2 n2 c2 := hval 6 60 (by kernel_rfl) rfl
          have e61 : ev (.tmp 61) = .int .i64 (k : Int) := hval 7 61 (by kernel_rfl) rfl
          replace hS : (VB w.heap.size) W w5 := ⟨⟨hS.1.os, hS.1.tape, hS.1.output, hS.1.size, hS.1.block⟩, ⟨hS.2.os, hS.2.tape, hS.2.output, hS.2.size, hS.2.block⟩⟩
          have kc := run_cut_lo (P := Try.prog) 23 5 1 Try.underlying23 Try.sizeOf5 A2 n2 c2 k Hk.out
          go_simp
          exact hK _ _ ((VisK.refl _ _)) rfl
        refine steps_cons ?_ ?_
        · refine step_guard (d := 55) (b := true) rfl rfl rfl (by kernel_rfl) (fun _ _ _ h => h) ?_
          intro ev w5 hS hc hf hold hval a K ha hK
          have e59 : ev (.tmp 59) = .slice (cutA A2 c2 0 1) k c2 := hval 5 59 (by kernel_rfl) rfl
          have e62 : ev (.tmp 62) = .slice (cutA A2 c2 k 1) (n2 - k) (c2 - k) := hval 8 62 (by kernel_rfl) rfl
          replace hS : (VB w.heap.size) W w5 := ⟨⟨hS.1.os, hS.1.tape, hS.1.output, hS.1.size, hS.1.block⟩, ⟨hS.2.os, hS.2.tape, hS.2.output, hS.2.size, hS.2.block⟩⟩
          go_simp
          exact hK _ _ ((VisK.refl _ _).alloc _) ⟨_, rfl, Bk.new _ _ _⟩
        refine steps_cons ?_ ?_
        · refine step_guard (d := 55) (b := true) rfl rfl rfl (by kernel_rfl) (fun _ _ _ h => h) ?_
          intro ev w5 hS hc hf hold hval a K ha hK
          have e56 : ev (.tmp 56) = .pointer (some ⟨gl, 0, none⟩) := hval 2 56 (by kernel_rfl) rfl
          have p63 : (fun v w2 => ∃ g, v = .slice (some ⟨g, 0, none⟩) 3 3 ∧ Bk w2 g 23 #[.slice (cutA A2 c2 0 1) k c2, .slice none 0 0, .slice (cutA A2 c2 k 1) (n2 - k) (c2 - k)]) (ev (.tmp 63)) w5 := hval 9 63 (by kernel_rfl) rfl
          replace hS : (VB w.heap.size) W w5 := ⟨⟨hS.1.os, hS.1.tape, hS.1.output, hS.1.size, hS.1.block⟩, ⟨hS.2.os, hS.2.tape, hS.2.output, hS.2.size, hS.2.block⟩⟩
          obtain ⟨g63, e63, hb63⟩ := p63
          go_simp
          have hm1 := hS.1.made Hm1.out (by decide) (by decide)
          have hm2 := hS.1.made Hm2.out (by decide) (by decide)
          have hr9 := rd_bk hb63 3 rfl
          refine (TxtCount_any w.heap.size gl t (some ⟨g63, 0, none⟩) 3 3 w5.heap.size [⟨cutA A2 c2 0 1, k, c2, q.take k⟩, ⟨none, 0, 0, []⟩, ⟨cutA A2 c2 k 1, n2 - k, c2 - k, q.drop k⟩] q Hcat.out w5 (Ht.out.vis hS.1) hr9 ?_ (Nat.le_refl _) (by omega) (by rw [Hn2.out]; omega)).mono ?_
          · intro s hs
            simp at hs
            rcases hs with rfl | rfl | rfl
            · exact (by simpa [← List.map_take] using hm2.rd.cut_hi0 (cap := c2) Hk.out)
            · exact Rd.nil _ _ _ _
            · exact (by simpa [← List.map_drop] using hm2.rd.cut Hk.out hm2.cap)
          · rintro e w8 ⟨rfl, hv8⟩
            rw [Hx.out]
            exact hK _ _ hv8 rfl
        refine steps_cons ?_ ?_
        · refine step_guard (d := 55) (b := true) rfl rfl rfl (by kernel_rfl) (fun _ _ _ h => h) ?_
          intro ev w5 hS hc hf hold hval a K ha hK
          have e11 : ev (.tmp 11) = .pointer (some ⟨gl, 0, none⟩) := hold 11 (by kernel_rfl)
          replace hS : (VB w.heap.size) W w5 := ⟨⟨hS.1.os, hS.1.tape, hS.1.output, hS.1.size, hS.1.block⟩, ⟨hS.2.os, hS.2.tape, hS.2.output, hS.2.size, hS.2.block⟩⟩
          go_simp
          exact hK _ _ ((VisK.refl _ _)) rfl
        refine steps_cons ?_ ?_
        · refine step_guard (d := 55) (b := true) rfl rfl rfl (by kernel_rfl) (fun _ _ _ h => h) ?_
          intro ev w5 hS hc hf hold hval a K ha hK
          have e10 : ev (.tmp 10) = .slice A2 n2 c2 := hold 10 (by kernel_rfl)
          replace hS : (VB w.heap.size) W w5 := ⟨⟨hS.1.os, hS.1.tape, hS.1.output, hS.1.size, hS.1.block⟩, ⟨hS.2.os, hS.2.tape, hS.2.output, hS.2.size, hS.2.block⟩⟩
          go_simp
          exact hK _ _ ((VisK.refl _ _)) rfl
        refine steps_cons ?_ ?_
        · refine step_guard (d := 55) (b := true) rfl rfl rfl (by kernel_rfl) (fun _ _ _ h => h) ?_
          intro ev w5 hS hc hf hold hval a K ha hK
          have e66 : ev (.tmp 66) = .slice A2 n2 c2 := hval 12 66 (by kernel_rfl) rfl
          replace hS : (VB w.heap.size) W w5 := ⟨⟨hS.1.os, hS.1.tape, hS.1.output, hS.1.size, hS.1.block⟩, ⟨hS.2.os, hS.2.tape, hS.2.output, hS.2.size, hS.2.block⟩⟩
          go_simp
          exact hK _ _ ((VisK.refl _ _).alloc _) ⟨_, rfl, Bk.new _ _ _⟩
        refine steps_cons ?_ ?_
        · refine step_guard (d := 55) (b := true) rfl rfl rfl (by kernel_rfl) (fun _ _ _ h => h) ?_
          intro ev w5 hS hc hf hold hval a K ha hK
          have e65 : ev (.tmp 65) = .pointer (some ⟨gl, 0, none⟩) := hval 11 65 (by kernel_rfl) rfl
          have p67 : (fun v w2 => ∃ g, v = .slice (some ⟨g, 0, none⟩) 1 1 ∧ Bk w2 g 23 #[.slice A2 n2 c2]) (ev (.tmp 67)) w5 := hval 13 67 (by kernel_rfl) rfl
          replace hS : (VB w.heap.size) W w5 := ⟨⟨hS.1.os, hS.1.tape, hS.1.output, hS.1.size, hS.1.block⟩, ⟨hS.2.os, hS.2.tape, hS.2.output, hS.2.size, hS.2.block⟩⟩
          obtain ⟨g67, e67, hb67⟩ := p67
          go_simp
          have hm1 := hS.1.made Hm1.out (by decide) (by decide)
          have hm2 := hS.1.made Hm2.out (by decide) (by decide)
          have hr9 := rd_bk hb67 1 rfl
          refine (TxtCount_any w.heap.size gl t (some ⟨g67, 0, none⟩) 1 1 w5.heap.size [⟨A2, n2, c2, q⟩] q (by simp [catS]) w5 (Ht.out.vis hS.1) hr9 ?_ (Nat.le_refl _) (by omega) (by rw [Hn2.out]; omega)).mono ?_
          · intro s hs
            simp at hs
            subst hs
            exact hm2.rd
          · rintro e w8 ⟨rfl, hv8⟩
            rw [Hx.out]
            exact hK _ _ hv8 rfl
        refine steps_cons ?_ ?_
        · refine step_guard (d := 55) (b := true) rfl rfl rfl (by kernel_rfl) (fun _ _ _ h => h) ?_
          intro ev w5 hS hc hf hold hval a K ha hK
          have e64 : ev (.tmp 64) = .int .i64 (x : Int) := hval 10 64 (by kernel_rfl) rfl
          have e68 : ev (.tmp 68) = .int .i64 (x : Int) := hval 14 68 (by kernel_rfl) rfl
          replace hS : (VB w.heap.size) W w5 := ⟨⟨hS.1.os, hS.1.tape, hS.1.output, hS.1.size, hS.1.block⟩, ⟨hS.2.os, hS.2.tape, hS.2.output, hS.2.size, hS.2.block⟩⟩
          go_simp
          exact hK _ _ ((VisK.refl _ _)) rfl
        refine steps_cons ?_ ?_
        · refine step_on rfl rfl ?_
          intro ev w5 hS hc hf hold hval a K ha hK
          have e55 : ev (.tmp 55) = .bool true := hval 1 55 (by kernel_rfl) rfl
          have e69 : ev (.tmp 69) = .bool true := hval 15 69 (by kernel_rfl) rfl
          replace hS : (VB w.heap.size) W w5 := ⟨⟨hS.1.os, hS.1.tape, hS.1.output, hS.1.size, hS.1.block⟩, ⟨hS.2.os, hS.2.tape, hS.2.output, hS.2.size, hS.2.block⟩⟩
          go_simp
          exact hK _ _ ((VisK.refl _ _)) rfl
        refine steps_cons ?_ ?_
        · refine step_on rfl rfl ?_
          intro ev w5 hS hc hf hold hval a K ha hK
          have e70 : ev (.tmp 70) = .bool true := hval 16 70 (by kernel_rfl) rfl
          replace hS : (VB w.heap.size) W w5 := ⟨⟨hS.1.os, hS.1.tape, hS.1.output, hS.1.size, hS.1.block⟩, ⟨hS.2.os, hS.2.tape, hS.2.output, hS.2.size, hS.2.block⟩⟩
          go_simp
          exact hK _ _ ((VisK.refl _ _)) rfl
        refine steps_cons ?_ ?_
        · refine step_guard (d := 71) (b := true) rfl rfl rfl (by kernel_rfl) (fun _ _ _ h => h) ?_
          intro ev w5 hS hc hf hold hval a K ha hK
          have e14 : ev (.tmp 14) = .int .i64 (n1 : Int) := hold 14 (by kernel_rfl)
          replace hS : (VB w.heap.size) W w5 := ⟨⟨hS.1.os, hS.1.tape, hS.1.output, hS.1.size, hS.1.block⟩, ⟨hS.2.os, hS.2.tape, hS.2.output, hS.2.size, hS.2.block⟩⟩
          go_simp
          exact hK _ _ ((VisK.refl _ _)) rfl
        refine steps_cons ?_ ?_
        · refine step_guard (d := 71) (b := true) rfl rfl rfl (by kernel_rfl) (fun _ _ _ h => h) ?_
          intro ev w5 hS hc hf hold hval a K ha hK
          have e9 : ev (.tmp 9) = .slice A1 n1 c1 := hold 9 (by kernel_rfl)
          replace hS : (VB w.heap.size) W w5 := ⟨⟨hS.1.os, hS.1.tape, hS.1.output, hS.1.size, hS.1.block⟩, ⟨hS.2.os, hS.2.tape, hS.2.output, hS.2.size, hS.2.block⟩⟩
          go_simp
          exact hK _ _ ((VisK.refl _ _)) rfl
        refine steps_cons ?_ ?_
        · refine step_guard (d := 71) (b := true) rfl rfl rfl (by kernel_rfl) (fun _ _ _ h => h) ?_
          intro ev w5 hS hc hf hold hval a K ha hK
          have e73 : ev (.tmp 73) = .slice A1 n1 c1 := hval 19 73 (by kernel_rfl) rfl
          replace hS : (VB w.heap.size) W w5 := ⟨⟨hS.1.os, hS.1.tape, hS.1.output, hS.1.size, hS.1.block⟩, ⟨hS.2.os, hS.2.tape, hS.2.output, hS.2.size, hS.2.block⟩⟩
          go_simp
          exact hK _ _ ((VisK.refl _ _)) rfl
        refine steps_cons ?_ ?_
        · refine step_guard (d := 71) (b := true) rfl rfl rfl (by kernel_rfl) (fun _ _ _ h => h) ?_
          intro ev w5 hS hc hf hold hval a K ha hK
          have e72 : ev (.tmp 72) = .int .i64 (n1 : Int) := hval 18 72 (by kernel_rfl) rfl
          have e74 : ev (.tmp 74) = .int .i64 (n1 : Int) := hval 20 74 (by kernel_rfl) rfl
          replace hS : (VB w.heap.size) W w5 := ⟨⟨hS.1.os, hS.1.tape, hS.1.output, hS.1.size, hS.1.block⟩, ⟨hS.2.os, hS.2.tape, hS.2.output, hS.2.size, hS.2.block⟩⟩
          go_simp
          exact hK _ _ ((VisK.refl _ _)) rfl
        refine steps_cons ?_ ?_
        · refine step_on rfl rfl ?_
          intro ev w5 hS hc hf hold hval a K ha hK
          have e71 : ev (.tmp 71) = .bool true := hval 17 71 (by kernel_rfl) rfl
          have e75 : ev (.tmp 75) = .bool true := hval 21 75 (by kernel_rfl) rfl
          replace hS : (VB w.heap.size) W w5 := ⟨⟨hS.1.os, hS.1.tape, hS.1.output, hS.1.size, hS.1.block⟩, ⟨hS.2.os, hS.2.tape, hS.2.output, hS.2.size, hS.2.block⟩⟩
          go_simp
          exact hK _ _ ((VisK.refl _ _)) rfl
        refine steps_cons ?_ ?_
        · refine step_on rfl rfl ?_
          intro ev w5 hS hc hf hold hval a K ha hK
          have e76 : ev (.tmp 76) = .bool true := hval 22 76 (by kernel_rfl) rfl
          replace hS : (VB w.heap.size) W w5 := ⟨⟨hS.1.os, hS.1.tape, hS.1.output, hS.1.size, hS.1.block⟩, ⟨hS.2.os, hS.2.tape, hS.2.output, hS.2.size, hS.2.block⟩⟩
          go_simp
          exact hK _ _ ((VisK.refl _ _)) rfl
        refine steps_cons ?_ ?_
        · refine step_guard (d := 77) (b := true) rfl rfl rfl (by kernel_rfl) (fun _ _ _ h => h) ?_
          intro ev w5 hS hc hf hold hval a K ha hK
          have e11 : ev (.tmp 11) = .pointer (some ⟨gl, 0, none⟩) := hold 11 (by kernel_rfl)
          replace hS : (VB w.heap.size) W w5 := ⟨⟨hS.1.os, hS.1.tape, hS.1.output, hS.1.size, hS.1.block⟩, ⟨hS.2.os, hS.2.tape, hS.2.output, hS.2.size, hS.2.block⟩⟩
          go_simp
          exact hK _ _ ((VisK.refl _ _)) rfl
        refine steps_cons ?_ ?_
        · refine step_guard (d := 77) (b := true) rfl rfl rfl (by kernel_rfl) (fun _ _ _ h => h) ?_
          intro ev w5 hS hc hf hold hval a K ha hK
          have e9 : ev (.tmp 9) = .slice A1 n1 c1 := hold 9 (by kernel_rfl)
          replace hS : (VB w.heap.size) W w5 := ⟨⟨hS.1.os, hS.1.tape, hS.1.output, hS.1.size, hS.1.block⟩, ⟨hS.2.os, hS.2.tape, hS.2.output, hS.2.size, hS.2.block⟩⟩
          go_simp
          exact hK _ _ ((VisK.refl _ _)) rfl
        refine steps_cons ?_ ?_
        · refine step_guard (d := 77) (b := true) rfl rfl rfl (by kernel_rfl) (fun _ _ _ h => h) ?_
          intro ev w5 hS hc hf hold hval a K ha hK
          have e79 : ev (.tmp 79) = .slice A1 n1 c1 := hval 25 79 (by kernel_rfl) rfl
          replace hS : (VB w.heap.size) W w5 := ⟨⟨hS.1.os, hS.1.tape, hS.1.output, hS.1.size, hS.1.block⟩, ⟨hS.2.os, hS.2.tape, hS.2.output, hS.2.size, hS.2.block⟩⟩
          go_simp
          exact hK _ _ ((VisK.refl _ _).alloc _) ⟨_, rfl, Bk.new _ _ _⟩
        refine steps_cons ?_ ?_
        · refine step_guard (d := 77) (b := true) rfl rfl rfl (by kernel_rfl) (fun _ _ _ h => h) ?_
          intro ev w5 hS hc hf hold hval a K ha hK
          have e78 : ev (.tmp 78) = .pointer (some ⟨gl, 0, none⟩) := hval 24 78 (by kernel_rfl) rfl
          have p80 : (fun v w2 => ∃ g, v = .slice (some ⟨g, 0, none⟩) 1 1 ∧ Bk w2 g 23 #[.slice A1 n1 c1]) (ev (.tmp 80)) w5 := hval 26 80 (by kernel_rfl) rfl
          replace hS : (VB w.heap.size) W w5 := ⟨⟨hS.1.os, hS.1.tape, hS.1.output, hS.1.size, hS.1.block⟩, ⟨hS.2.os, hS.2.tape, hS.2.output, hS.2.size, hS.2.block⟩⟩
          obtain ⟨g80, e80, hb80⟩ := p80
          go_simp
          have hm1 := hS.1.made Hm1.out (by decide) (by decide)
          have hm2 := hS.1.made Hm2.out (by decide) (by decide)
          have hr9 := rd_bk hb80 1 rfl
          refine (TxtCount_any w.heap.size gl t (some ⟨g80, 0, none⟩) 1 1 w5.heap.size [⟨A1, n1, c1, t⟩] t (by simp [catS]) w5 (Ht.out.vis hS.1) hr9 ?_ (Nat.le_refl _) (by omega) (by rw [Hn1.out]; omega)).mono ?_
          · intro s hs
            simp at hs
            subst hs
            exact hm1.rd
          · rintro e w8 ⟨rfl, hv8⟩
            rw [Hyy.out]
            exact hK _ _ hv8 rfl
        refine steps_cons ?_ ?_
        · refine step_guard (d := 77) (b := true) rfl rfl rfl (by kernel_rfl) (fun _ _ _ h => h) ?_
          intro ev w5 hS hc hf hold hval a K ha hK
          have e81 : ev (.tmp 81) = .int .i64 (y : Int) := hval 27 81 (by kernel_rfl) rfl
          replace hS : (VB w.heap.size) W w5 := ⟨⟨hS.1.os, hS.1.tape, hS.1.output, hS.1.size, hS.1.block⟩, ⟨hS.2.os, hS.2.tape, hS.2.output, hS.2.size, hS.2.block⟩⟩
          have hy := Hy.out
          have hyI : decide ((y : Int) ≥ 1) = true := by simp; omega
          go_simp
          exact hK _ _ ((VisK.refl _ _)) rfl
        refine steps_cons ?_ ?_
        · refine step_on rfl rfl ?_
          intro ev w5 hS hc hf hold hval a K ha hK
          have e77 : ev (.tmp 77) = .bool true := hval 23 77 (by kernel_rfl) rfl
          have e82 : ev (.tmp 82) = .bool true := hval 28 82 (by kernel_rfl) rfl
          replace hS : (VB w.heap.size) W w5 := ⟨⟨hS.1.os, hS.1.tape, hS.1.output, hS.1.size, hS.1.block⟩, ⟨hS.2.os, hS.2.tape, hS.2.output, hS.2.size, hS.2.block⟩⟩
          go_simp
          exact hK _ _ ((VisK.refl _ _)) rfl
        refine steps_cons ?_ ?_
        · refine step_on rfl rfl ?_
          intro ev w5 hS hc hf hold hval a K ha hK
          have e83 : ev (.tmp 83) = .bool true := hval 29 83 (by kernel_rfl) rfl
          replace hS : (VB w.heap.size) W w5 := ⟨⟨hS.1.os, hS.1.tape, hS.1.output, hS.1.size, hS.1.block⟩, ⟨hS.2.os, hS.2.tape, hS.2.output, hS.2.size, hS.2.block⟩⟩
          go_simp
          exact hK _ _ ((VisK.refl _ _)) rfl
        exact steps_nil
      · intro ev w6 hS hval
        replace hS : (VB w.heap.size) W w6 := ⟨⟨hS.1.os, hS.1.tape, hS.1.output, hS.1.size, hS.1.block⟩, ⟨hS.2.os, hS.2.tape, hS.2.output, hS.2.size, hS.2.block⟩⟩
        have e8 : ev (.tmp 8) = .bool true := hval 30 8 rfl
        simp only [putsOf, List.foldl_cons, List.foldl_nil, Act.put, List.setIfInBounds_toArray, List.set_cons_zero, List.set_cons_succ]
        rw [e8]
        clear hval
        go_wp2
        go_ret
        exact ⟨rfl, HbW.out.trans (VB.to_below hS HbW.out.size)⟩
end Go.Proofs.Ytdpknieiigibfaa
