/- The walk of scrimshawref16.PutRuns. Condition: at most a million symbols. -/
import Derived.Test.YthcoldomeedbnaaRefRun
import Derived.Test.YthcoldomeedbnaaRefNum2
import Derived.Test.YthcoldomeedbnaaLoose2
namespace Go.Proofs.Ythcoldomeedbnaa
open Go.RowKit
set_option linter.unusedVariables false
set_option maxRecDepth 100000 in
set_option maxHeartbeats 2000000 in
theorem refPutRuns_ok (A : Option Addr) (m c B : Nat) (l : List Int) (w : World) (bs : List UInt8) (h : putRuns l = some bs) (hr : Rd w B 1 A m (l.map iv)) (hB : B ≤ w.heap.size) (hm : m ≤ 1000000) :
    Calls Try.prog 37 #[.slice A m c] w fun e w' => e = .returned (.tuple #[.string ⟨bs.toArray⟩, .int .i64 0]) ∧ Below w.heap.size w w' := by
  have hll : l.length = m := by simpa using hr.1
  have hgood : ∀ x ∈ runsOf l, symOk x.1 := by
    unfold putRuns at h
    split at h
    · assumption
    · cases h
  have hbs : runBytes (runsOf l) = bs := by
    rw [putRuns, if_pos hgood] at h
    injection h
  have hd : decide (∀ x ∈ l, symOk x) = true := by rw [decide_eq_true_iff]; exact (good_iff l).2 hgood
  obtain ⟨r, hrr⟩ : ∃ r, runsOf l = r := ⟨_, rfl⟩
  obtain ⟨q, hq⟩ : ∃ q, r.length = q := ⟨_, rfl⟩
  have hqm : q ≤ m := by rw [← hq, ← hrr, ← hll]; exact runsOf_len l
  have hcnt : ∀ x ∈ r, x.2 ≤ m := fun x hx => by have := runsOf_mem l x (hrr ▸ hx); omega
  rw [hrr] at hgood hbs
  obtain ⟨eq, heq⟩ : ∃ eq, encB q = eq := ⟨_, rfl⟩
  have heql : eq.length ≤ 11 := by rw [← heq]; exact encB_len q
  have hbs2 : eq ++ r.flatMap runByte = bs := by rw [← hbs, runBytes, hq, heq]
  have Hrr := Lib.hid hrr
  have Hq := Lib.hid hq
  have Hgood := Lib.hid hgood
  have Hcnt := Lib.hid hcnt
  have Hbs := Lib.hid hbs2
  have Heq := Lib.hid heq
  have Hd := Lib.hid hd
  have Hr := Lib.hid (hr.mono hB)
  have hB0 := Below.refl w.heap.size w
  clear h hr hll hgood hbs hd hrr hq hcnt heq hbs2 hB
  go_enter Try.func37, Try.ntmps37
  go_wp2_with fail
  refine (refGood_any _ _ _ _ l _ Hr.out (by omega)).mono ?_
  rintro e w1 ⟨rfl, rfl⟩
  rw [Hd.out]
  go_wp2_with fail
  refine (refRuns_is _ _ _ _ l _ r q Hrr.out Hq.out Hr.out (Nat.le_refl _) (by omega)).mono ?_
  rintro e w2 ⟨A2, c2, rfl, hm2, hb2⟩
  have hs2 := hb2.size
  have Hr2 := Lib.hid hm2.rd
  clear hm2
  go_wp2_with fail
  refine (refPut_is q _ eq Heq.out (by omega)).mono ?_
  rintro e w3 ⟨rfl, hb3⟩
  have hB3 := hb2.trans (hb3.mono hs2)
  have hs3 := hB3.size
  have Hr3 := Lib.hid (Hr2.out.below hb3 |>.mono hb3.size)
  clear hb2 hb3 Hr2 Hr
  go_wp2
  go_loopw [5, 6] (fun v i wr => ∃ k : Nat, k ≤ q ∧ i = .int .i64 k ∧ v = .string ⟨(eq ++ (r.take k).flatMap runByte).toArray⟩ ∧ Below w.heap.size w wr ∧ Below w3.heap.size w3 wr) (fun _ i _ => q - (intOf i).toNat)
  case atStart => exact ⟨0, Nat.zero_le _, rfl, by simp, hB3, Below.refl _ _⟩
  case round =>
    obtain ⟨k, hk, rfl, rfl, hb, hb4⟩ := hrel
    have hsz := hb.size
    by_cases hlt : k < q
    · obtain ⟨x, hx⟩ : ∃ x, r[k]? = some x := ⟨r[k]'(by have := Hq.out; omega), List.getElem?_eq_getElem (by have := Hq.out; omega)⟩
      have hsx := Hgood.out x (List.mem_of_getElem? hx)
      have hnx := Hcnt.out x (List.mem_of_getElem? hx)
      obtain ⟨b, off, rfl, hbl0, hcell⟩ := (Hr3.out.below hb4 |>.mono hb4.size).2 (by omega)
      obtain ⟨s, n⟩ := x
      simp only at hsx hnx
      obtain ⟨sn, rfl⟩ := Int.eq_ofNat_of_zero_le hsx.1
      have hsn := hsx.2
      have d0 : wr.cell? ⟨b, off + k * 2, none⟩ = some (.int .i64 (sn : Int)) := hcell (k * 2 + 0) _ ((runCells_get r k 0 _ hx (by omega)).trans rfl)
      have d1 : wr.cell? ⟨b, off + k * 2 + 1, none⟩ = some (.int .i64 (n : Int)) := by rw [Nat.add_assoc]; exact hcell (k * 2 + 1) _ ((runCells_get r k 1 _ hx (by omega)).trans rfl)
      have hbl : b < wr.heap.size := hbl0
      have hnext := runBytes_snoc r k _ hx
      have hcurl := flatRun_len (r.take k)
      rw [List.length_take] at hcurl
      obtain ⟨es, hes⟩ : ∃ es, encB sn = es := ⟨_, rfl⟩
      obtain ⟨en, hen⟩ : ∃ en, encB n = en := ⟨_, rfl⟩
      have hesl : es.length ≤ 11 := by rw [← hes]; exact encB_len sn
      have henl : en.length ≤ 11 := by rw [← hen]; exact encB_len n
      have hrb : runByte ((sn : Int), n) = es ++ en := by rw [← hes, ← hen]; rfl
      have hnext2 : eq ++ (r.take (k + 1)).flatMap runByte = eq ++ (r.take k).flatMap runByte ++ (es ++ en) := by rw [hnext, hrb]; simp
      have hcurl2 : (eq ++ (r.take k).flatMap runByte).length ≤ 11 + 22 * q := by rw [List.length_append]; omega
      obtain ⟨cur, hcur⟩ : ∃ cur, eq ++ (r.take k).flatMap runByte = cur := ⟨_, rfl⟩
      rw [hcur] at hnext2 hcurl2
      rw [hcur]
      have happ1 := str_append cur es
      have happ2 := str_append (cur ++ es) en
      have Hes := Lib.hid hes
      have Hen := Lib.hid hen
      have Hsn := Lib.hid (show sn < 18446744073709551616 by omega)
      have Hn64 := Lib.hid (show n < 18446744073709551616 by omega)
      have Hnext := Lib.hid hnext2
      clear hx hnext hnext2 hcur hes hen hrb hcurl hsx hcell
      go_wp2
      refine wp_region_any (by kernel_rfl) ?_
      refine wpAny_loose2 [22, 23, 24, 25, 26, 27, 28, 29, 30, 31, 32, 33, 34, 35, 36, 37, 38, 5] Grow (Vs [is (.string ⟨cur.toArray⟩), is (.slice (some ⟨b, off, none⟩) q c2), is (.int .i64 (k : Int)), is (.pointer (some ⟨b, off + k * 2, none⟩)), is (.pointer (some ⟨b, off + k * 2, none⟩)), is (.int .i64 (sn : Int)), is (.int .u64 (sn : Int)), is (.string ⟨es.toArray⟩), is (.string ⟨(cur ++ es).toArray⟩), is (.slice (some ⟨b, off, none⟩) q c2), is (.int .i64 (k : Int)), is (.pointer (some ⟨b, off + k * 2, none⟩)), is (.pointer (some ⟨b, off + k * 2 + 1, none⟩)), is (.int .i64 (n : Int)), is (.int .u64 (n : Int)), is (.string ⟨en.toArray⟩), is (.string ⟨(cur ++ (es ++ en)).toArray⟩), is (.string ⟨(cur ++ (es ++ en)).toArray⟩)]) _ _ rfl (by kernel_rfl) (Below.refl _ _) (fun _ _ => Grow.trans) (stb_all (by repeat' (first | exact stb_is _ | exact stb_row _ _ _ | (refine List.forall_mem_cons.2 ⟨?_, ?_⟩) | (intro p hp; cases hp)))) ?_ ?_
      · refine steps_of ?_
        refine steps_cons ?_ ?_
        · refine step_on rfl rfl ?_
          intro ev w5 hS hc hf hold hval a K ha hK
          have e5 : ev (.tmp 5) = .string ⟨cur.toArray⟩ := hold 5 (by kernel_rfl)
          go_simp
          exact hK _ _ (Below.refl _ _) rfl
        refine steps_cons ?_ ?_
        · refine step_on rfl rfl ?_
          intro ev w5 hS hc hf hold hval a K ha hK
          have e4 : ev (.tmp 4) = .slice (some ⟨b, off, none⟩) q c2 := hold 4 (by kernel_rfl)
          go_simp
          exact hK _ _ (Below.refl _ _) rfl
        refine steps_cons ?_ ?_
        · refine step_on rfl rfl ?_
          intro ev w5 hS hc hf hold hval a K ha hK
          have e6 : ev (.tmp 6) = .int .i64 (k : Int) := hold 6 (by kernel_rfl)
          go_simp
          exact hK _ _ (Below.refl _ _) rfl
        refine steps_cons ?_ ?_
        · refine step_on rfl rfl ?_
          intro ev w5 hS hc hf hold hval a K ha hK
          have e23 : ev (.tmp 23) = .slice (some ⟨b, off, none⟩) q c2 := hval 1 23 (by kernel_rfl) rfl
          have e24 : ev (.tmp 24) = .int .i64 (k : Int) := hval 2 24 (by kernel_rfl) rfl
          go_simp
          exact hK _ _ (Below.refl _ _) rfl
        refine steps_cons ?_ ?_
        · refine step_on rfl rfl ?_
          intro ev w5 hS hc hf hold hval a K ha hK
          have e25 : ev (.tmp 25) = .pointer (some ⟨b, off + k * 2, none⟩) := hval 3 25 (by kernel_rfl) rfl
          go_simp
          exact hK _ _ (Below.refl _ _) rfl
        refine steps_cons ?_ ?_
        · refine step_on rfl rfl ?_
          intro ev w5 hS hc hf hold hval a K ha hK
          have e26 : ev (.tmp 26) = .pointer (some ⟨b, off + k * 2, none⟩) := hval 4 26 (by kernel_rfl) rfl
          have c27 : w5.cell? ⟨b, off + k * 2, none⟩ = some (.int .i64 (sn : Int)) := (Below.cell hS hbl).trans d0
          go_simp
          exact hK _ _ (Below.refl _ _) rfl
        refine steps_cons ?_ ?_
        · refine step_on rfl rfl ?_
          intro ev w5 hS hc hf hold hval a K ha hK
          have e27 : ev (.tmp 27) = .int .i64 (sn : Int) := hval 5 27 (by kernel_rfl) rfl
          go_simp
          exact hK _ _ (Below.refl _ _) (int_eq (by rw [IntKind.wrap_u64]; omega))
        refine steps_cons ?_ ?_
        · refine step_on rfl rfl ?_
          intro ev w5 hS hc hf hold hval a K ha hK
          have e28 : ev (.tmp 28) = .int .u64 (sn : Int) := hval 6 28 (by kernel_rfl) rfl
          go_simp
          refine (refPut_is sn _ es Hes.out Hsn.out).mono ?_
          rintro e w8 ⟨rfl, hb8⟩
          exact hK _ _ hb8 rfl
        refine steps_cons ?_ ?_
        · refine step_on rfl rfl ?_
          intro ev w5 hS hc hf hold hval a K ha hK
          have e22 : ev (.tmp 22) = .string ⟨cur.toArray⟩ := hval 0 22 (by kernel_rfl) rfl
          have e29 : ev (.tmp 29) = .string ⟨es.toArray⟩ := hval 7 29 (by kernel_rfl) rfl
          go_simp
          rw [if_neg (by omega)]
          exact hK _ _ (Below.refl _ _) rfl
        refine steps_cons ?_ ?_
        · refine step_on rfl rfl ?_
          intro ev w5 hS hc hf hold hval a K ha hK
          have e4 : ev (.tmp 4) = .slice (some ⟨b, off, none⟩) q c2 := hold 4 (by kernel_rfl)
          go_simp
          exact hK _ _ (Below.refl _ _) rfl
        refine steps_cons ?_ ?_
        · refine step_on rfl rfl ?_
          intro ev w5 hS hc hf hold hval a K ha hK
          have e6 : ev (.tmp 6) = .int .i64 (k : Int) := hold 6 (by kernel_rfl)
          go_simp
          exact hK _ _ (Below.refl _ _) rfl
        refine steps_cons ?_ ?_
        · refine step_on rfl rfl ?_
          intro ev w5 hS hc hf hold hval a K ha hK
          have e31 : ev (.tmp 31) = .slice (some ⟨b, off, none⟩) q c2 := hval 9 31 (by kernel_rfl) rfl
          have e32 : ev (.tmp 32) = .int .i64 (k : Int) := hval 10 32 (by kernel_rfl) rfl
          go_simp
          exact hK _ _ (Below.refl _ _) rfl
        refine steps_cons ?_ ?_
        · refine step_on rfl rfl ?_
          intro ev w5 hS hc hf hold hval a K ha hK
          have e33 : ev (.tmp 33) = .pointer (some ⟨b, off + k * 2, none⟩) := hval 11 33 (by kernel_rfl) rfl
          go_simp
          exact hK _ _ (Below.refl _ _) rfl
        refine steps_cons ?_ ?_
        · refine step_on rfl rfl ?_
          intro ev w5 hS hc hf hold hval a K ha hK
          have e34 : ev (.tmp 34) = .pointer (some ⟨b, off + k * 2 + 1, none⟩) := hval 12 34 (by kernel_rfl) rfl
          have c35 : w5.cell? ⟨b, off + k * 2 + 1, none⟩ = some (.int .i64 (n : Int)) := (Below.cell hS hbl).trans d1
          go_simp
          exact hK _ _ (Below.refl _ _) rfl
        refine steps_cons ?_ ?_
        · refine step_on rfl rfl ?_
          intro ev w5 hS hc hf hold hval a K ha hK
          have e35 : ev (.tmp 35) = .int .i64 (n : Int) := hval 13 35 (by kernel_rfl) rfl
          go_simp
          exact hK _ _ (Below.refl _ _) (int_eq (by rw [IntKind.wrap_u64]; omega))
        refine steps_cons ?_ ?_
        · refine step_on rfl rfl ?_
          intro ev w5 hS hc hf hold hval a K ha hK
          have e36 : ev (.tmp 36) = .int .u64 (n : Int) := hval 14 36 (by kernel_rfl) rfl
          go_simp
          refine (refPut_is n _ en Hen.out Hn64.out).mono ?_
          rintro e w8 ⟨rfl, hb8⟩
          exact hK _ _ hb8 rfl
        refine steps_cons ?_ ?_
        · refine step_on rfl rfl ?_
          intro ev w5 hS hc hf hold hval a K ha hK
          have e30 : ev (.tmp 30) = .string ⟨(cur ++ es).toArray⟩ := hval 8 30 (by kernel_rfl) rfl
          have e37 : ev (.tmp 37) = .string ⟨en.toArray⟩ := hval 15 37 (by kernel_rfl) rfl
          go_simp
          rw [if_neg (by omega)]
          exact hK _ _ (Below.refl _ _) rfl
        refine steps_cons ?_ ?_
        · refine step_on rfl rfl ?_
          intro ev w5 hS hc hf hold hval a K ha hK
          have e38 : ev (.tmp 38) = .string ⟨(cur ++ (es ++ en)).toArray⟩ := hval 16 38 (by kernel_rfl) rfl
          go_simp
          exact hK _ _ (Below.refl _ _) rfl
        exact steps_nil
      · intro ev w6 hS hval
        have e5 : ev (.tmp 5) = .string ⟨(cur ++ (es ++ en)).toArray⟩ := hval 17 5 rfl
        simp only [putsOf, List.foldl_cons, List.foldl_nil, Act.put, List.setIfInBounds_toArray, List.set_cons_zero, List.set_cons_succ]
        rw [e5]
        clear hval
        have hB6 := hb.drew.trans (Below.mono hS hsz)
        have hB7 := hb4.drew.trans (Below.mono hS hb4.size)
        generalize ev (Operand.tmp 22) = x22
        go_wp2
        go_roundw
        case rel => exact ⟨k + 1, by omega, by go_num, by rw [Hnext.out], hB6, hB7⟩
        case measure => simp [intOf]; omega
    · have hkq : k = q := by omega
      have hge : q ≤ k := by omega
      have htk : r.take k = r := List.take_of_length_le (by have := Hq.out; omega)
      rw [htk, Hbs.out]
      clear hkq htk
      go_wp2
      go_ret2
      exact ⟨rfl, hb⟩
theorem refPutRuns_bad (A : Option Addr) (m c B : Nat) (l : List Int) (w : World) (h : putRuns l = none) (hr : Rd w B 1 A m (l.map iv)) (hm : m ≤ 1000000) :
    Calls Try.prog 37 #[.slice A m c] w fun e w' => e = .returned (.tuple #[.string ⟨([] : List UInt8).toArray⟩, .int .i64 1]) ∧ w = w' := by
  have hd : decide (∀ x ∈ l, symOk x) = false := by
    rw [decide_eq_false_iff_not]
    intro hg
    rw [putRuns, if_pos ((good_iff l).1 hg)] at h
    cases h
  have Hd := Lib.hid hd
  have Hr := Lib.hid hr
  clear h hr hd
  go_enter Try.func37, Try.ntmps37
  go_wp2_with fail
  refine (refGood_any _ _ _ _ l _ Hr.out (by omega)).mono ?_
  rintro e w1 ⟨rfl, rfl⟩
  rw [Hd.out]
  go_wp2
  go_ret2
  exact ⟨rfl, rfl⟩
end Go.Proofs.Ythcoldomeedbnaa
