/- The walks of the plain text's 'find' and 'Text', of model.New and of the model's Text. Conditions: sizes of at most 2^40. -/
import Derived.Test.YtmebhlopmgfobaaModSpl
namespace Go.Proofs.Ytmebhlopmgfobaa
open Go.RowKit
set_option linter.unusedVariables false
set_option linter.unusedSimpArgs false
/-- Where D stands in T, among the first k places. -/
def findTo (T D : List UInt8) (k : Nat) : List Nat := (List.range k).filter fun i => D.isPrefixOf (T.drop i)
def findB (T D : List UInt8) : List Nat := findTo T D (T.length + 1 - D.length)
def nv (i : Nat) : Value := iv (i : Int)
theorem findTo_yes (T D : List UInt8) (k : Nat) (h : D.isPrefixOf (T.drop k) = true) : findTo T D (k + 1) = findTo T D k ++ [k] := by
  simp [findTo, List.range_succ, List.filter_append, h]
theorem findTo_no (T D : List UInt8) (k : Nat) (h : D.isPrefixOf (T.drop k) = false) : findTo T D (k + 1) = findTo T D k := by
  simp [findTo, List.range_succ, List.filter_append, h]
theorem findTo_le (T D : List UInt8) (k : Nat) : (findTo T D k).length ≤ k := by
  have := List.length_filter_le (fun i => D.isPrefixOf (T.drop i)) (List.range k)
  rw [List.length_range] at this
  exact this
set_option maxRecDepth 100000 in
set_option maxHeartbeats 2000000 in
theorem find_any (gp : Nat) (A AD : Option Addr) (n c nd cd B1 B2 : Nat) (T D : List UInt8) (L : List Nat) (N : Nat) (w : World) (hb : Bk w gp 47 #[.slice A n c]) (hr : Rd w B1 1 A n (T.map bv)) (hB1 : B1 ≤ w.heap.size) (hnc : n ≤ c)
    (hd : Rd w B2 1 AD nd (D.map bv)) (hB2 : B2 ≤ w.heap.size) (hL : findB T D = L) (hN : L.length = N) (hn : n ≤ 1099511627776) (hnd : nd ≤ 1099511627776) :
    Calls Try.prog 19 #[.pointer (some ⟨gp, 0, none⟩), .slice AD nd cd] w fun e w' => ∃ A' c', e = .returned (.slice A' N c') ∧ Made w' w.heap.size 3 1 A' N c' (L.map nv) ∧ Below w.heap.size w w' := by
  obtain ⟨i0, hi0, hz0, hz1, hz2⟩ := info_parts int_info
  have lT : T.length = n := by simpa using hr.1
  have lD : D.length = nd := by simpa using hd.1
  have Hr := Lib.hid (hr.mono hB1)
  have Hd := Lib.hid (hd.mono hB2)
  have hend : ∀ k : Nat, k ≤ n + 1 - nd → ¬ (k + nd ≤ n) → findTo T D k = L := fun k h1 h2 => by
    rw [← hL, findB, lT, lD]
    congr 1
    omega
  have Hend := Lib.hid hend
  have HN := Lib.hid hN
  have hbp := hb.lt
  clear hr hd hL hN hend lT lD
  go_enter Try.func19, Try.ntmps19
  go_wp2
  go_loopw [5, 6] (fun v i wr => ∃ k : Nat, k ≤ n + 1 - nd ∧ i = .int .i64 k ∧ wr.ownsRow w.heap.size 3 1 v (findTo T D k).length ((findTo T D k).map nv) ∧ Below w.heap.size w wr) (fun _ i _ => n + 1 - (intOf i).toNat)
  case atStart => exact ⟨0, Nat.zero_le _, rfl, World.ownsRow_nil _ _ _ _, Below.refl _ _⟩
  case round =>
    obtain ⟨k, hk, rfl, hown, hbw⟩ := hrel
    have hsz := hbw.size
    have hbk := (hb.below hbw hbp)
    have c0 : wr.cell? ⟨gp, 0, none⟩ = some (.slice A n c) := (hbk.cell 0).trans rfl
    by_cases hlt : k + nd ≤ n
    · have hr5 := Hr.out.below hbw
      have hcut := run_cut_lo (P := Try.prog) 22 5 1 Try.underlying22 size_u8 A n c k (by omega)
      have c2 := hr5.cut (k := k) (cap := c) (by omega) hnc
      rw [Nat.mul_one, ← List.map_drop] at c2
      have Hc2 := Lib.hid c2
      have Hd5 := Lib.hid (Hd.out.below hbw)
      have hle := findTo_le T D k
      have hdec : decide ((k : Int) + (nd : Int) ≤ (n : Int)) = true := by simp; omega
      have Hbk := Lib.hid hbk
      have Hown := Lib.hid hown
      clear hr5 c2 hown hbk
      cases hp : D.isPrefixOf (T.drop k) with
      | true =>
        have hnx := findTo_yes T D k hp
        have Hnx := Lib.hid hnx
        obtain ⟨q, hq⟩ : ∃ q, (findTo T D k).length = q := ⟨_, rfl⟩
        rw [hq] at hle Hown
        have Hq := Lib.hid hq
        clear hnx hq
        go_wp2_with fail
        refine (Prefix_any _ _ _ _ _ _ _ _ (T.drop k) D _ Hc2.out Hd5.out (by omega)).mono ?_
        rintro e w' ⟨rfl, rfl⟩
        rw [hp]
        go_wp2_with (at_builtin; refine wpList_push _ rfl (.tmp 27) (.tmp 29) _ rfl w.heap.size 3 i0 (.int .i64 0) 1 8 Try.underlying27 hi0 hz0 hz1 hz2 rfl (by decide) _ q _ rfl Hown.out rfl rfl (by simp [Value.oneCell']) (by unfold maxLen; omega) (by omega) hsz ?_; intro v2 w2 hown2 hg2 hs2 hat2)
        have hb2 := below_grown hbw Hown.out hg2 hsz
        clear hg2 hat2
        go_roundw
        case rel =>
          refine ⟨k + 1, by omega, by go_num, ?_, hb2⟩
          rw [Hnx.out, List.length_append, Hq.out, List.map_append]
          exact hown2
        case measure => simp [intOf]; omega
      | false =>
        have hnx := findTo_no T D k hp
        have Hnx := Lib.hid hnx
        clear hnx hle
        go_wp2_with fail
        refine (Prefix_any _ _ _ _ _ _ _ _ (T.drop k) D _ Hc2.out Hd5.out (by omega)).mono ?_
        rintro e w' ⟨rfl, rfl⟩
        rw [hp]
        go_wp2
        go_roundw
        case rel =>
          refine ⟨k + 1, by omega, by go_num, ?_, hbw⟩
          rw [Hnx.out]
          exact Hown.out
        case measure => simp [intOf]; omega
    · have hdec : decide ((k : Int) + (nd : Int) ≤ (n : Int)) = false := by simp; omega
      rw [Hend.out k hk hlt, HN.out] at hown
      obtain ⟨A', c', rfl, hm⟩ := made_of_own hown
      clear hown hbk
      go_wp2
      go_ret
      exact ⟨A', c', rfl, hm, hbw⟩
set_option maxRecDepth 100000 in
theorem pText_any (gp : Nat) (A : Option Addr) (n c B : Nat) (T : List UInt8) (w : World) (hb : Bk w gp 47 #[.slice A n c]) (hr : Rd w B 1 A n (T.map bv)) (hB : B ≤ w.heap.size) (hn : n ≤ 1099511627776) :
    Calls Try.prog 20 #[.pointer (some ⟨gp, 0, none⟩)] w fun e w' => ∃ A' c', e = .returned (.slice A' n c') ∧ Made w' w.heap.size 5 1 A' n c' (T.map bv) ∧ Below w.heap.size w w' := by
  have Hr := Lib.hid hr
  have c0 : w.cell? ⟨gp, 0, none⟩ = some (.slice A n c) := (hb.cell 0).trans rfl
  clear hr
  go_enter Try.func20, Try.ntmps20
  go_wp2_with fail
  refine (Clone_any _ _ _ _ T _ Hr.out hB hn).mono ?_
  rintro e w' ⟨A', c', rfl, hm, hb'⟩
  go_wp2_with fail
  go_ret
  exact ⟨A', c', rfl, hm, hb'⟩
set_option maxRecDepth 100000 in
theorem mText_any (g gp : Nat) (A : Option Addr) (n c B : Nat) (T : List UInt8) (most : Int) (w : World) (hg : Bk w g 49 #[.pointer (some ⟨gp, 0, none⟩), .int .i64 most]) (hb : Bk w gp 47 #[.slice A n c]) (hr : Rd w B 1 A n (T.map bv)) (hB : B ≤ w.heap.size) (hn : n ≤ 1099511627776) :
    Calls Try.prog 11 #[.pointer (some ⟨g, 0, none⟩)] w fun e w' => ∃ A' c', e = .returned (.slice A' n c') ∧ Made w' w.heap.size 5 1 A' n c' (T.map bv) ∧ Below w.heap.size w w' := by
  have Hr := Lib.hid hr
  have c0 : w.cell? ⟨g, 0, none⟩ = some (.pointer (some ⟨gp, 0, none⟩)) := (hg.cell 0).trans rfl
  clear hr
  go_enter Try.func11, Try.ntmps11
  go_wp2_with fail
  refine (pText_any _ _ _ _ _ T _ hb Hr.out hB hn).mono ?_
  rintro e w' ⟨A', c', rfl, hm, hb'⟩
  go_wp2_with fail
  go_ret
  exact ⟨A', c', rfl, hm, hb'⟩
set_option maxRecDepth 100000 in
theorem New_bad (most : Int) (w : World) (h : most < 0 ∨ 2147483648 < most) :
    Calls Try.prog 9 #[.int .i64 most] w fun e w' => e = .returned (.tuple #[.pointer none, .int .i64 1]) ∧ w = w' := by
  by_cases h0 : most < 0
  · go_enter Try.func9, Try.ntmps9
    go_wp2
    go_ret2
    exact ⟨rfl, rfl⟩
  · have h1 : most > 2147483648 := by omega
    go_enter Try.func9, Try.ntmps9
    go_wp2
    go_ret2
    exact ⟨rfl, rfl⟩
/-- What model.New tells of a right most: a model of no text. -/
def NewTold (most : Int) (w w' : World) (e : Ending) : Prop := ∃ g gp, e = .returned (.tuple #[.pointer (some ⟨g, 0, none⟩), .int .i64 0]) ∧ Below w.heap.size w w' ∧ w.heap.size ≤ g ∧ w.heap.size ≤ gp ∧ g ≠ gp ∧
      Bk w' g 49 #[.pointer (some ⟨gp, 0, none⟩), .int .i64 most] ∧ Bk w' gp 47 #[.slice none 0 0]
set_option maxRecDepth 100000 in
theorem New_ok (most : Int) (w : World) (h0 : 0 ≤ most) (h1 : most ≤ 2147483648) :
    Calls Try.prog 9 #[.int .i64 most] w fun e w' => NewTold most w w' e := by
  have t0 : ¬ (most < 0) := by omega
  have t1 : ¬ (most > 2147483648) := by omega
  go_enter Try.func9, Try.ntmps9
  go_wp2
  go_ret2
  exact ⟨w.heap.size + 1, w.heap.size, rfl, ((Below.refl _ _).alloc (Nat.le_refl _) _).alloc (by simp) _, by omega, Nat.le_refl _, by omega, by simpa using Bk.new (w.alloc (.cells #[.slice none 0 0] 47)) 49 #[.pointer (some ⟨w.heap.size, 0, none⟩), .int .i64 most], (Bk.new _ _ _).alloc _⟩
end Go.Proofs.Ytmebhlopmgfobaa
