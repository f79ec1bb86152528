/- The walk of FindAsks: how often a pattern stands, and in which rows, is what the document says. Conditions: the lists' lengths are lengths. -/
import Derived.Test.YtdpknieiigibfaaFnRefB
namespace Go.Proofs.Ytdpknieiigibfaa
open Go.RowKit
set_option linter.unusedVariables false
set_option linter.unusedSimpArgs false
theorem str_catR (x y : List UInt8) : Value.string ((⟨x.toArray⟩ : ByteArray) ++ ⟨y.toArray⟩) = .string ⟨(x ++ y).toArray⟩ := congrArg Value.string (by
  apply ByteArray.ext
  rw [ByteArray.data_append]
  simp)
theorem parts_ab (W : World) (A2 A3 : Option Addr) (n2 n3 c2 c3 : Nat) (pa pb : List UInt8) (h2 : Rd W W.heap.size 1 A2 n2 (pa.map bv)) (h3 : Rd W W.heap.size 1 A3 n3 (pb.map bv)) :
    Rd (W.alloc (.cells #[.slice A2 n2 c2, .slice A3 n3 c3] 23)) (W.alloc (.cells #[.slice A2 n2 c2, .slice A3 n3 c3] 23)).heap.size 1 (some ⟨W.heap.size, 0, none⟩) 2 ([(⟨A2, n2, c2, pa⟩ : Sl), ⟨A3, n3, c3, pb⟩].map slV) ∧
    (∀ s ∈ [(⟨A2, n2, c2, pa⟩ : Sl), ⟨A3, n3, c3, pb⟩], Rd (W.alloc (.cells #[.slice A2 n2 c2, .slice A3 n3 c3] 23)) (W.alloc (.cells #[.slice A2 n2 c2, .slice A3 n3 c3] 23)).heap.size 1 s.A s.n (s.l.map bv)) := by
  constructor
  · have := Rd.made W 23 1 2 #[.slice A2 n2 c2, .slice A3 n3 c3] rfl
    exact this
  · intro s hs
    simp at hs
    rcases hs with rfl | rfl
    · exact (h2.alloc (Nat.le_refl _) _).mono (by simp)
    · exact (h3.alloc (Nat.le_refl _) _).mono (by simp)
set_option maxRecDepth 100000 in
set_option maxHeartbeats 4000000 in
theorem FindAsks_any (A0 : Option Addr) (n0 c0 : Nat) (l0 : List Int) (few : Bool) (Ap : Option Addr) (np cp : Nat) (lp : List Int) (Aq : Option Addr) (nq cq : Nat) (lq : List Int) (w : World)
    (hr : Rd w w.heap.size 1 A0 n0 (l0.map iv)) (hn : n0 ≤ maxLen) (hrp : Rd w w.heap.size 1 Ap np (lp.map iv)) (hnp : np ≤ maxLen) (hrq : Rd w w.heap.size 1 Aq nq (lq.map iv)) (hnq : nq ≤ maxLen) :
    Calls Try.prog 4 #[.slice A0 n0 c0, .bool few, .slice Ap np cp, .slice Aq nq cq] w fun e w' => e = .returned (.bool true) ∧ Below w.heap.size w w' := by
  have Hr := Lib.hid hr
  have Hrp := Lib.hid hrp
  have Hrq := Lib.hid hrq
  clear hr hrp hrq
  go_enter Try.func4, Try.ntmps4
  go_wp2_with fail
  refine (Text_any A0 n0 c0 w.heap.size l0 80 few w Hr.out (Nat.le_refl _) hn (by omega)).mono ?_
  rintro e w1 ⟨t, A1, c1, ht, _, rfl, hm1, hb1⟩
  obtain ⟨n1, hn1⟩ : ∃ n1, t.length = n1 := ⟨_, rfl⟩
  rw [hn1] at hm1 ht
  rw [hn1]
  have Hn1 := Lib.hid hn1
  have Hm1 := Lib.hid hm1
  have Hb1 := Lib.hid hb1
  clear hn1 hm1 hb1 Hr
  go_wp2_with fail
  refine (Text_any Ap np cp w.heap.size lp 3 few w1 (Hrp.out.below Hb1.out) Hb1.out.size hnp (by omega)).mono ?_
  rintro e w2 ⟨pa, A2, c2, ha, _, rfl, hm2, hb2⟩
  obtain ⟨n2, hn2⟩ : ∃ n2, pa.length = n2 := ⟨_, rfl⟩
  rw [hn2] at hm2 ha
  rw [hn2]
  have hb12 := Hb1.out.trans (hb2.mono Hb1.out.size)
  have hm12 := Hm1.out.below hb2
  have Hn2 := Lib.hid hn2
  have Hm1' := Lib.hid hm12
  have Hm2 := Lib.hid hm2
  have Hb2 := Lib.hid hb12
  clear hn2 hm12 hm2 hb2 hb12 Hm1 Hrp Hb1
  go_wp2_with fail
  refine (Text_any Aq nq cq w.heap.size lq 3 few w2 (Hrq.out.below Hb2.out) Hb2.out.size hnq (by omega)).mono ?_
  rintro e w3 ⟨pb, A3, c3, hb, _, rfl, hm3, hb3⟩
  obtain ⟨n3, hn3⟩ : ∃ n3, pb.length = n3 := ⟨_, rfl⟩
  rw [hn3] at hm3 hb
  rw [hn3]
  have hb13 := Hb2.out.trans (hb3.mono Hb2.out.size)
  have hm13 := Hm1'.out.below hb3
  have hm23 := Hm2.out.below hb3
  have Hn3 := Lib.hid hn3
  have Hm1 := Lib.hid hm13
  have Hm2' := Lib.hid hm23
  have Hm3 := Lib.hid hm3
  have Hb3 := Lib.hid hb13
  clear hn3 hm13 hm23 hm3 hb3 hb13 Hm1' Hm2 Hrq Hb2
  go_wp2_with fail
  have hbA : Below w3.heap.size w3 (w3.alloc (.cells #[.slice A1 n1 c1] 23)) := (Below.refl _ _).alloc (Nat.le_refl _) _
  have hrd := Rd.made w3 23 1 1 #[.slice A1 n1 c1] rfl
  have hm1A := Hm1.out.below hbA
  refine (TxtNew_any 7 _ 1 1 _ [⟨A1, n1, c1, t⟩] t (by simp [catS]) _ hrd (fun s hs => by simp at hs; subst hs; exact hm1A.rd) (Nat.le_refl _) (by omega) (by rw [Hn1.out]; omega) (by omega) (by omega)).mono ?_
  rintro e w4 ⟨gl, rfl, hgl, htx, hb4⟩
  have hb34 := hbA.trans (hb4.mono hbA.size)
  have hbw4 := Hb3.out.trans (hb34.mono Hb3.out.size)
  have hm14 := Hm1.out.below hb34
  have hm24 := Hm2'.out.below hb34
  have hm34 := Hm3.out.below hb34
  have htx4 := htx.mono (B' := w.heap.size) (by have := Hb3.out.size; have := hbA.size; omega)
  have Hb4 := Lib.hid hbw4
  have Hm14 := Lib.hid hm14
  have Hm24 := Lib.hid hm24
  have Hm34 := Lib.hid hm34
  have Ht4 := Lib.hid htx4
  clear hrd hm1A hbA hb4 hb34 hbw4 hm14 hm24 hm34 htx htx4 hgl Hb3 Hm1 Hm2' Hm3
  go_wp2_with fail
  obtain ⟨p, hp⟩ : ∃ p, pa ++ pb = p := ⟨_, rfl⟩
  have hpl : p.length = n2 + n3 := by rw [← hp, List.length_append, Hn2.out, Hn3.out]
  have Hp := Lib.hid hp
  have Hpl := Lib.hid hpl
  clear hp hpl
  have hpa := parts_ab w4 A2 A3 n2 n3 c2 c3 pa pb Hm24.out.rd Hm34.out.rd
  have hbp : Below w4.heap.size w4 (w4.alloc (.cells #[.slice A2 n2 c2, .slice A3 n3 c3] 23)) := (Below.refl _ _).alloc (Nat.le_refl _) _
  refine (TxtRows_any w.heap.size gl t _ 2 2 _ [(⟨A2, n2, c2, pa⟩ : Sl), ⟨A3, n3, c3, pb⟩] p (by simp [catS, Hp.out]) _ (Ht4.out.vis (Vis.of_below hbp)) hpa.1 hpa.2 (Nat.le_refl _) (by omega) (by rw [Hpl.out]; omega)).mono ?_
  rintro e W ⟨rfl, hv5⟩
  have hle := Nq_le (symL t) true (symB p)
  rw [symL_len, Hn1.out] at hle
  have hoc := Nq_occ (symL t) (symB p)
  obtain ⟨N0, hN0⟩ : ∃ N, Nq (symL t) false (symB p) = N := ⟨_, rfl⟩
  obtain ⟨N1, hN1⟩ : ∃ N, Nq (symL t) true (symB p) = N := ⟨_, rfl⟩
  obtain ⟨oc, hoc0⟩ : ∃ N, occ (symL t) (symB p) = N := ⟨_, rfl⟩
  rw [hN1] at hle
  rw [hN0, hN1, hoc0] at hoc
  rw [hN0, hN1]
  have hvW := (VisK.of_below (F := fun pb => w.heap.size ≤ pb) hbp).trans hv5
  have hm1W := hvW.1.made Hm14.out (by decide) (by decide)
  have hm2W := hvW.1.made Hm24.out (by decide) (by decide)
  have hm3W := hvW.1.made Hm34.out (by decide) (by decide)
  have htW := Ht4.out.vis hvW.1
  have hbW := Hb4.out.trans (VB.to_below hvW Hb4.out.size)
  have HN0 := Lib.hid hN0
  have HN1 := Lib.hid hN1
  have Hoc0 := Lib.hid hoc0
  have Hoc := Lib.hid hoc
  have Hle := Lib.hid hle
  have Hm1 := Lib.hid hm1W
  have Hm2 := Lib.hid hm2W
  have Hm3 := Lib.hid hm3W
  have Ht := Lib.hid htW
  have HbW := Lib.hid hbW
  clear hpa hbp hv5 hvW hm1W hm2W hm3W htW hbW hN0 hN1 hoc0 hoc hle Hm14 Hm24 Hm34 Ht4 Hb4
  go_wp2_with fail
  refine wp_region_any (by kernel_rfl) ?_
  refine wpAny_loose2 [48, 49, 50, 51, 52, 53, 54, 55, 56, 57, 58, 47, 59, 60, 16, 17] (VB w.heap.size) (Vs [is (.slice A1 n1 c1), is (.string ⟨t.toArray⟩), is (.slice A1 n1 c1), is (.string ⟨t.toArray⟩), fun v w2 => ∃ A9 c9 L, v = .slice A9 (n1 + 1) c9 ∧ IsSuf (symL t) L ∧ Made w2 W.heap.size 3 1 A9 (n1 + 1) c9 (L.map sv), is (.slice A2 n2 c2), is (.string ⟨pa.toArray⟩), is (.slice A3 n3 c3), is (.string ⟨pb.toArray⟩), is (.string ⟨p.toArray⟩), is (.tuple #[.int .i64 (N0 : Int), .int .i64 (N1 : Int)]), is (.tuple #[.int .i64 (N0 : Int), .int .i64 (N1 : Int)]), is (.int .i64 (N0 : Int)), is (.int .i64 (N1 : Int)), is (.int .i64 (N0 : Int)), is (.int .i64 (N1 : Int))]) _ _ rfl (by kernel_rfl) (VisK.refl _ _) (fun _ _ => VisK.trans) (stbs_all (by repeat' (first | exact stbs_is _ _ | exact stbs_any _ | exact fun _ _ _ ⟨A9, c9, L, h1, h2, h3⟩ k => ⟨A9, c9, L, h1, h2, k.1.made h3 (by decide) (by decide)⟩ | (refine List.forall_mem_cons.2 ⟨?_, ?_⟩) | (intro p hp; cases hp)))) ?_ ?_
  · refine steps_of ?_
    refine steps_cons ?_ ?_
    · refine step_on rfl rfl ?_
      intro ev w5 hS hc hf hold hval a K ha hK
      have e9 : ev (.tmp 9) = .slice A1 n1 c1 := hold 9 (by kernel_rfl)
      replace hS : (VB w.heap.size) W w5 := ⟨⟨hS.1.os, hS.1.tape, hS.1.output, hS.1.size, hS.1.block⟩, ⟨hS.2.os, hS.2.tape, hS.2.output, hS.2.size, hS.2.block⟩⟩
      go_simp
      exact hK _ _ ((VisK.refl _ _)) rfl
    refine steps_cons ?_ ?_
    · refine step_on rfl rfl ?_
      intro ev w5 hS hc hf hold hval a K ha hK
      have e48 : ev (.tmp 48) = .slice A1 n1 c1 := hval 0 48 (by kernel_rfl) rfl
      replace hS : (VB w.heap.size) W w5 := ⟨⟨hS.1.os, hS.1.tape, hS.1.output, hS.1.size, hS.1.block⟩, ⟨hS.2.os, hS.2.tape, hS.2.output, hS.2.size, hS.2.block⟩⟩
      have hm9 := hS.1.made Hm1.out (by decide) (by decide)
      have s49 := strOf hm9.rd
      go_simp
      exact hK _ _ ((VisK.refl _ _)) rfl
    refine steps_cons ?_ ?_
    · refine step_on rfl rfl ?_
      intro ev w5 hS hc hf hold hval a K ha hK
      have e9 : ev (.tmp 9) = .slice A1 n1 c1 := hold 9 (by kernel_rfl)
      replace hS : (VB w.heap.size) W w5 := ⟨⟨hS.1.os, hS.1.tape, hS.1.output, hS.1.size, hS.1.block⟩, ⟨hS.2.os, hS.2.tape, hS.2.output, hS.2.size, hS.2.block⟩⟩
      go_simp
      exact hK _ _ ((VisK.refl _ _)) rfl
    refine steps_cons ?_ ?_
    · refine step_on rfl rfl ?_
      intro ev w5 hS hc hf hold hval a K ha hK
      have e50 : ev (.tmp 50) = .slice A1 n1 c1 := hval 2 50 (by kernel_rfl) rfl
      replace hS : (VB w.heap.size) W w5 := ⟨⟨hS.1.os, hS.1.tape, hS.1.output, hS.1.size, hS.1.block⟩, ⟨hS.2.os, hS.2.tape, hS.2.output, hS.2.size, hS.2.block⟩⟩
      have hm9 := hS.1.made Hm1.out (by decide) (by decide)
      have s51 := strOf hm9.rd
      go_simp
      exact hK _ _ ((VisK.refl _ _)) rfl
    refine steps_cons ?_ ?_
    · refine step_on rfl rfl ?_
      intro ev w5 hS hc hf hold hval a K ha hK
      have e51 : ev (.tmp 51) = .string ⟨t.toArray⟩ := hval 3 51 (by kernel_rfl) rfl
      replace hS : (VB w.heap.size) W w5 := ⟨⟨hS.1.os, hS.1.tape, hS.1.output, hS.1.size, hS.1.block⟩, ⟨hS.2.os, hS.2.tape, hS.2.output, hS.2.size, hS.2.block⟩⟩
      go_simp
      refine (RefRows_any t n1 w5 Hn1.out (by omega)).mono ?_
      rintro e w8 ⟨A9, c9, L, rfl, h2, h3, hb8⟩
      exact hK _ _ (VisK.of_below hb8) ⟨A9, c9, L, rfl, h2, ⟨own_mono h3.own hS.1.size, h3.rd, h3.cap, h3.max⟩⟩
    refine steps_cons ?_ ?_
    · refine step_on rfl rfl ?_
      intro ev w5 hS hc hf hold hval a K ha hK
      have e10 : ev (.tmp 10) = .slice A2 n2 c2 := hold 10 (by kernel_rfl)
      replace hS : (VB w.heap.size) W w5 := ⟨⟨hS.1.os, hS.1.tape, hS.1.output, hS.1.size, hS.1.block⟩, ⟨hS.2.os, hS.2.tape, hS.2.output, hS.2.size, hS.2.block⟩⟩
      go_simp
      exact hK _ _ ((VisK.refl _ _)) rfl
    refine steps_cons ?_ ?_
    · refine step_on rfl rfl ?_
      intro ev w5 hS hc hf hold hval a K ha hK
      have e53 : ev (.tmp 53) = .slice A2 n2 c2 := hval 5 53 (by kernel_rfl) rfl
      replace hS : (VB w.heap.size) W w5 := ⟨⟨hS.1.os, hS.1.tape, hS.1.output, hS.1.size, hS.1.block⟩, ⟨hS.2.os, hS.2.tape, hS.2.output, hS.2.size, hS.2.block⟩⟩
      have hm9 := hS.1.made Hm2.out (by decide) (by decide)
      have s54 := strOf hm9.rd
      go_simp
      exact hK _ _ ((VisK.refl _ _)) rfl
    refine steps_cons ?_ ?_
    · refine step_on rfl rfl ?_
      intro ev w5 hS hc hf hold hval a K ha hK
      have e11 : ev (.tmp 11) = .slice A3 n3 c3 := hold 11 (by kernel_rfl)
      replace hS : (VB w.heap.size) W w5 := ⟨⟨hS.1.os, hS.1.tape, hS.1.output, hS.1.size, hS.1.block⟩, ⟨hS.2.os, hS.2.tape, hS.2.output, hS.2.size, hS.2.block⟩⟩
      go_simp
      exact hK _ _ ((VisK.refl _ _)) rfl
    refine steps_cons ?_ ?_
    · refine step_on rfl rfl ?_
      intro ev w5 hS hc hf hold hval a K ha hK
      have e55 : ev (.tmp 55) = .slice A3 n3 c3 := hval 7 55 (by kernel_rfl) rfl
      replace hS : (VB w.heap.size) W w5 := ⟨⟨hS.1.os, hS.1.tape, hS.1.output, hS.1.size, hS.1.block⟩, ⟨hS.2.os, hS.2.tape, hS.2.output, hS.2.size, hS.2.block⟩⟩
      have hm9 := hS.1.made Hm3.out (by decide) (by decide)
      have s56 := strOf hm9.rd
      go_simp
      exact hK _ _ ((VisK.refl _ _)) rfl
    refine steps_cons ?_ ?_
    · refine step_on rfl rfl ?_
      intro ev w5 hS hc hf hold hval a K ha hK
      have e54 : ev (.tmp 54) = .string ⟨pa.toArray⟩ := hval 6 54 (by kernel_rfl) rfl
      have e56 : ev (.tmp 56) = .string ⟨pb.toArray⟩ := hval 8 56 (by kernel_rfl) rfl
      replace hS : (VB w.heap.size) W w5 := ⟨⟨hS.1.os, hS.1.tape, hS.1.output, hS.1.size, hS.1.block⟩, ⟨hS.2.os, hS.2.tape, hS.2.output, hS.2.size, hS.2.block⟩⟩
      go_simp
      rw [if_neg (by rw [Hn2.out, Hn3.out]; omega)]
      exact hK _ _ (VisK.refl _ _) ((str_catR pa pb).trans (by rw [Hp.out]))
    refine steps_cons ?_ ?_
    · refine step_on rfl rfl ?_
      intro ev w5 hS hc hf hold hval a K ha hK
      have e49 : ev (.tmp 49) = .string ⟨t.toArray⟩ := hval 1 49 (by kernel_rfl) rfl
      have p52 : (fun v w2 => ∃ A9 c9 L, v = .slice A9 (n1 + 1) c9 ∧ IsSuf (symL t) L ∧ Made w2 W.heap.size 3 1 A9 (n1 + 1) c9 (L.map sv)) (ev (.tmp 52)) w5 := hval 4 52 (by kernel_rfl) rfl
      have e57 : ev (.tmp 57) = .string ⟨p.toArray⟩ := hval 9 57 (by kernel_rfl) rfl
      replace hS : (VB w.heap.size) W w5 := ⟨⟨hS.1.os, hS.1.tape, hS.1.output, hS.1.size, hS.1.block⟩, ⟨hS.2.os, hS.2.tape, hS.2.output, hS.2.size, hS.2.block⟩⟩
      obtain ⟨A9, c9, L, e52, hsf, hmd⟩ := p52
      go_simp
      refine (RefFind_any t p n1 (n2 + n3) w5.heap.size A9 c9 L w5 Hn1.out Hpl.out (by omega) (by omega) hsf hmd.rd).mono ?_
      rintro e w8 ⟨rfl, q8, rfl⟩
      rw [HN0.out, HN1.out]
      exact hK _ _ (VisK.of_below (below_drewN (Below.refl _ _) q8)) rfl
    refine steps_cons ?_ ?_
    · refine step_on rfl rfl ?_
      intro ev w5 hS hc hf hold hval a K ha hK
      have e58 : ev (.tmp 58) = .tuple #[.int .i64 (N0 : Int), .int .i64 (N1 : Int)] := hval 10 58 (by kernel_rfl) rfl
      replace hS : (VB w.heap.size) W w5 := ⟨⟨hS.1.os, hS.1.tape, hS.1.output, hS.1.size, hS.1.block⟩, ⟨hS.2.os, hS.2.tape, hS.2.output, hS.2.size, hS.2.block⟩⟩
      go_simp
      exact hK _ _ ((VisK.refl _ _)) rfl
    refine steps_cons ?_ ?_
    · refine step_on rfl rfl ?_
      intro ev w5 hS hc hf hold hval a K ha hK
      have e47 : ev (.tmp 47) = .tuple #[.int .i64 (N0 : Int), .int .i64 (N1 : Int)] := hval 11 47 (by kernel_rfl) rfl
      replace hS : (VB w.heap.size) W w5 := ⟨⟨hS.1.os, hS.1.tape, hS.1.output, hS.1.size, hS.1.block⟩, ⟨hS.2.os, hS.2.tape, hS.2.output, hS.2.size, hS.2.block⟩⟩
      go_simp
      exact hK _ _ ((VisK.refl _ _)) rfl
    refine steps_cons ?_ ?_
    · refine step_on rfl rfl ?_
      intro ev w5 hS hc hf hold hval a K ha hK
      have e47 : ev (.tmp 47) = .tuple #[.int .i64 (N0 : Int), .int .i64 (N1 : Int)] := hval 11 47 (by kernel_rfl) rfl
      replace hS : (VB w.heap.size) W w5 := ⟨⟨hS.1.os, hS.1.tape, hS.1.output, hS.1.size, hS.1.block⟩, ⟨hS.2.os, hS.2.tape, hS.2.output, hS.2.size, hS.2.block⟩⟩
      go_simp
      exact hK _ _ ((VisK.refl _ _)) rfl
    refine steps_cons ?_ ?_
    · refine step_on rfl rfl ?_
      intro ev w5 hS hc hf hold hval a K ha hK
      have e59 : ev (.tmp 59) = .int .i64 (N0 : Int) := hval 12 59 (by kernel_rfl) rfl
      replace hS : (VB w.heap.size) W w5 := ⟨⟨hS.1.os, hS.1.tape, hS.1.output, hS.1.size, hS.1.block⟩, ⟨hS.2.os, hS.2.tape, hS.2.output, hS.2.size, hS.2.block⟩⟩
      go_simp
      exact hK _ _ ((VisK.refl _ _)) rfl
    refine steps_cons ?_ ?_
    · refine step_on rfl rfl ?_
      intro ev w5 hS hc hf hold hval a K ha hK
      have e60 : ev (.tmp 60) = .int .i64 (N1 : Int) := hval 13 60 (by kernel_rfl) rfl
      replace hS : (VB w.heap.size) W w5 := ⟨⟨hS.1.os, hS.1.tape, hS.1.output, hS.1.size, hS.1.block⟩, ⟨hS.2.os, hS.2.tape, hS.2.output, hS.2.size, hS.2.block⟩⟩
      go_simp
      exact hK _ _ ((VisK.refl _ _)) rfl
    exact steps_nil
  · intro ev w6 hS hval
    replace hS : (VB w.heap.size) W w6 := ⟨⟨hS.1.os, hS.1.tape, hS.1.output, hS.1.size, hS.1.block⟩, ⟨hS.2.os, hS.2.tape, hS.2.output, hS.2.size, hS.2.block⟩⟩
    have e16 : ev (.tmp 16) = .int .i64 (N0 : Int) := hval 14 16 rfl
    have e17 : ev (.tmp 17) = .int .i64 (N1 : Int) := hval 15 17 rfl
    simp only [putsOf, List.foldl_cons, List.foldl_nil, Act.put, List.setIfInBounds_toArray, List.set_cons_zero, List.set_cons_succ]
    rw [e16]
    rw [e17]
    clear hval
    have hv0 := hS
    have hb0 := HbW.out.trans (VB.to_below hS HbW.out.size)
    have ht0 := Ht.out.vis hv0.1
    have hm20 := hv0.1.made Hm2.out (by decide) (by decide)
    have hm30 := hv0.1.made Hm3.out (by decide) (by decide)
    have Hb0 := Lib.hid hb0
    have Ht0 := Lib.hid ht0
    have Hm20 := Lib.hid hm20
    have Hm30 := Lib.hid hm30
    clear hv0 hb0 ht0 hm20 hm30
    by_cases hEq : N0 = N1
    · have hoc9 : oc = 0 := by have := Hoc.out; omega
      have hleI : (N0 : Int) ≤ (n1 : Int) + 1 := by have := Hle.out; omega
      have hg0 : (0 : Int) ≤ (N0 : Int) := by omega
      have hw1 : IntKind.i64.wrap ((n1 : Int) + 1) = (n1 : Int) + 1 := by rw [IntKind.wrap_i64]; omega
      subst hEq
      rw [hoc9] at Hoc0
      clear hoc9
      go_wp2_with fail
      refine (Told13_any _).mono ?_
      rintro e w5 ⟨rfl, hb5⟩
      have hb6 := Hb0.out.trans (hb5.mono Hb0.out.size)
      have ht6 := Ht0.out.vis (Vis.of_below hb5)
      have hm26 := Hm20.out.below hb5
      have hm36 := Hm30.out.below hb5
      have Hb6 := Lib.hid hb6
      have Ht6 := Lib.hid ht6
      have Hm26 := Lib.hid hm26
      have Hm36 := Lib.hid hm36
      clear hb5 hb6 ht6 hm26 hm36
      go_wp2_with fail
      have hpa := parts_ab w5 A2 A3 n2 n3 c2 c3 pa pb Hm26.out.rd Hm36.out.rd
      have hbp : Below w5.heap.size w5 (w5.alloc (.cells #[.slice A2 n2 c2, .slice A3 n3 c3] 23)) := (Below.refl _ _).alloc (Nat.le_refl _) _
      refine (TxtCount_any w.heap.size gl t _ 2 2 _ [(⟨A2, n2, c2, pa⟩ : Sl), ⟨A3, n3, c3, pb⟩] p (by simp [catS, Hp.out]) _ (Ht6.out.vis (Vis.of_below hbp)) hpa.1 hpa.2 (Nat.le_refl _) (by omega) (by rw [Hpl.out]; omega)).mono ?_
      rintro e w8 ⟨rfl, hv8⟩
      rw [Hoc0.out]
      have hb9 := Hb6.out.trans ((hbp.mono Hb6.out.size).trans (VB.to_below hv8 (by have := hbp.size; have := Hb6.out.size; omega)))
      have Hb9 := Lib.hid hb9
      clear hb9 hbp hpa hv8
      go_wp2_with fail
      go_ret
      exact ⟨rfl, Hb9.out⟩
    · have hneI : ¬ (N0 : Int) = (N1 : Int) := by omega
      have hw1 : IntKind.i64.wrap ((N1 : Int) - (N0 : Int)) = (oc : Int) := by have := Hoc.out; have := Hle.out; rw [IntKind.wrap_i64]; omega
      clear hEq
      go_wp2_with fail
      refine (Told13_any _).mono ?_
      rintro e w5 ⟨rfl, hb5⟩
      have hb6 := Hb0.out.trans (hb5.mono Hb0.out.size)
      have ht6 := Ht0.out.vis (Vis.of_below hb5)
      have hm26 := Hm20.out.below hb5
      have hm36 := Hm30.out.below hb5
      have Hb6 := Lib.hid hb6
      have Ht6 := Lib.hid ht6
      have Hm26 := Lib.hid hm26
      have Hm36 := Lib.hid hm36
      clear hb5 hb6 ht6 hm26 hm36
      go_wp2_with fail
      have hpa := parts_ab w5 A2 A3 n2 n3 c2 c3 pa pb Hm26.out.rd Hm36.out.rd
      have hbp : Below w5.heap.size w5 (w5.alloc (.cells #[.slice A2 n2 c2, .slice A3 n3 c3] 23)) := (Below.refl _ _).alloc (Nat.le_refl _) _
      refine (TxtCount_any w.heap.size gl t _ 2 2 _ [(⟨A2, n2, c2, pa⟩ : Sl), ⟨A3, n3, c3, pb⟩] p (by simp [catS, Hp.out]) _ (Ht6.out.vis (Vis.of_below hbp)) hpa.1 hpa.2 (Nat.le_refl _) (by omega) (by rw [Hpl.out]; omega)).mono ?_
      rintro e w8 ⟨rfl, hv8⟩
      rw [Hoc0.out]
      have hb9 := Hb6.out.trans ((hbp.mono Hb6.out.size).trans (VB.to_below hv8 (by have := hbp.size; have := Hb6.out.size; omega)))
      have Hb9 := Lib.hid hb9
      clear hb9 hbp hpa hv8
      go_wp2_with fail
      go_ret
      exact ⟨rfl, Hb9.out⟩
end Go.Proofs.Ytdpknieiigibfaa
