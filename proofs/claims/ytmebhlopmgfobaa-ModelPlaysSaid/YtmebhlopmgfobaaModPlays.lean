/- The walks of scrimshawlaw20.Few and of the law ModelPlays. No conditions. -/
import Derived.Test.YtmebhlopmgfobaaModRefAll
import Derived.Test.YtmebhlopmgfobaaLoose9
import Derived.Test.YtmebhlopmgfobaaLawStp
namespace Go.Proofs.Ytmebhlopmgfobaa
open Go.RowKit
set_option linter.unusedVariables false
set_option linter.unusedSimpArgs false
/-- Few steps, of at most 60 bytes. -/
def fewB (l : List Stp) (m : Nat) : Bool := (l.all fun s => decide (s.n ≤ 60)) && decide (m ≤ 80)
set_option maxRecDepth 100000 in
set_option maxHeartbeats 2000000 in
theorem Few_any (A : Option Addr) (m c B : Nat) (l : List Stp) (w : World) (hr : Rd w B 4 A m (stpCells l)) (hl : l.length = m) (hm : m ≤ maxLen) (hn : ∀ s ∈ l, s.n ≤ maxLen) :
    Calls Try.prog 12 #[.slice A m c, .int .i64 80] w fun e w' => e = .returned (.bool (fewB l m)) ∧ w = w' := by
  have Hr := Lib.hid hr
  have Hl := Lib.hid hl
  have Hn := Lib.hid hn
  unfold maxLen at hm
  clear hr hl hn
  go_enter Try.func12, Try.ntmps12
  go_wp2
  go_loopw [5] (fun i wr => ∃ k : Nat, k ≤ m ∧ i = .int .i64 k ∧ (∀ s ∈ l.take k, s.n ≤ 60) ∧ w = wr) (fun i _ => m - (intOf i).toNat)
  case atStart => exact ⟨0, Nat.zero_le _, rfl, by simp, rfl⟩
  case round =>
    obtain ⟨k, hk, rfl, hpre, rfl⟩ := hrel
    by_cases hlt : k < m
    · obtain ⟨s, hs⟩ : ∃ s, l[k]? = some s := ⟨l[k]'(by have := Hl.out; omega), List.getElem?_eq_getElem (by have := Hl.out; omega)⟩
      obtain ⟨b, off, rfl, hbl, hc⟩ := Hr.out.2 (by omega)
      have c3 : w.cell? ⟨b, off + k * 4 + 3, none⟩ = some (.slice s.A s.n s.c) := by rw [Nat.add_assoc]; exact hc (k * 4 + 3) _ ((stpCells_get l k 3 s hs (by omega)).trans rfl)
      have hsn := Hn.out s (List.mem_of_getElem? hs)
      unfold maxLen at hsn
      have hnx : l.take (k + 1) = l.take k ++ [s] := by rw [List.take_add_one, hs]; rfl
      have Hpre := Lib.hid hpre
      have Hnx := Lib.hid hnx
      have Hs := Lib.hid hs
      clear hc hpre hnx hs
      by_cases h60 : s.n ≤ 60
      · have t : decide ((s.n : Int) > 60) = false := by simp; omega
        go_wp2
        go_roundw
        case rel =>
          refine ⟨k + 1, by omega, by go_num, ?_, trivial⟩
          intro x hx
          rw [Hnx.out] at hx
          rcases List.mem_append.1 hx with h | h
          · exact Hpre.out x h
          · rw [List.mem_singleton.1 h]; exact h60
        case measure => simp [intOf]; omega
      · have t : decide ((s.n : Int) > 60) = true := by simp; omega
        have hf : fewB l m = false := by
          unfold fewB
          have : (l.all fun s => decide (s.n ≤ 60)) = false := by
            rw [List.all_eq_false]
            exact ⟨s, List.mem_of_getElem? Hs.out, by simp; omega⟩
          rw [this, Bool.false_and]
        go_wp2
        go_ret
        exact ⟨ret_bool hf.symm, rfl⟩
    · have hge : m ≤ k := by omega
      have htk : l.take k = l := List.take_of_length_le (by have := Hl.out; omega)
      rw [htk] at hpre
      have hf : fewB l m = decide (m ≤ 80) := by
        unfold fewB
        rw [List.all_eq_true.2 (fun s hs => decide_eq_true (hpre s hs)), Bool.true_and]
      clear htk hpre
      go_wp2
      go_ret
      exact ⟨ret_bool (by rw [hf]; by_cases h : m ≤ 80 <;> simp [h] <;> omega), rfl⟩
/-- An answer that lies in block s: what it says. -/
def ResAt (w : World) (s : Nat) (r : Told) : Prop := ∃ A1 c1 A2 c2, Bk w s 29 (resC r A1 c1 A2 c2) ∧ Rd w w.heap.size 1 A1 r.data.length (r.data.map bv) ∧ Rd w w.heap.size 1 A2 r.places.length (r.places.map nv)
theorem ResAt.below {w w' : World} {s : Nat} {r : Told} (h : ResAt w s r) (k : Below w.heap.size w w') : ResAt w' s r := by
  obtain ⟨A1, c1, A2, c2, h1, h2, h3⟩ := h
  exact ⟨A1, c1, A2, c2, h1.below k h1.lt, (h2.below k).mono k.size, (h3.below k).mono k.size⟩
/-- The text's bytes do not lie in the document's block. -/
theorem pl_apart {w : World} {gx B n : Nat} {A : Option Addr} {T : List UInt8} {s : Value} {z : Int} (hs : ∃ b, s = .string b) (hx : Bk w gx 40 #[s, .int .i64 z]) (hr : Rd w B 1 A n (T.map bv)) : 0 < n → ∀ a, A = some a → a.block ≠ gx := by
  intro hn a ha e
  obtain ⟨b, off, h1, h2, h3⟩ := hr.2 hn
  rw [ha] at h1
  cases h1
  simp only at e
  subst e
  have hl : (T.map bv).length = n := by have := hr.1; omega
  have hT : 0 < T.length := by simp at hl; omega
  have h4 := h3 0 (bv (T[0]'hT)) (by rw [List.getElem?_map, List.getElem?_eq_getElem hT]; rfl)
  rw [Nat.add_zero, hx.cell off] at h4
  obtain ⟨b', rfl⟩ := hs
  rcases off with _ | _ | off
  · simp [bv] at h4
  · simp [bv] at h4
  · simp at h4
theorem pls_keepX {w w' : World} {gp gx : Nat} {T : List UInt8} {s : Value} {z : Int} (h : PlS w gp T) (hs : ∃ b, s = .string b) (hx : Bk w gx 40 #[s, .int .i64 z]) (hne : gp ≠ gx) (k : Keep (fun b => b = gx) w w') : PlS w' gp T := by
  obtain ⟨A, c, h1, h2, h3, h4⟩ := h
  exact ⟨A, c, k.bk h1 (fun e => hne e), Rd.keepF h2 k (Nat.le_refl _) (fun hn a ha e => pl_apart hs hx h2 hn a ha e), h3, h4⟩
theorem doM_len (T D : List UInt8) (most kind p k : Int) : (doM T most kind p k D).1.length ≤ T.length + D.length := by
  unfold doM
  by_cases k1 : kind = 1
  · rw [if_pos k1]
    split
    · simp
    · split
      · simp
      · simp only [List.length_append, List.length_take, List.length_drop]; omega
  rw [if_neg k1]
  by_cases k2 : kind = 2
  · rw [if_pos k2]
    split
    · simp
    · simp only [List.length_append, List.length_take, List.length_drop]; omega
  rw [if_neg k2]
  by_cases k5 : kind = 5
  · rw [if_pos k5]
    split <;> simp
  rw [if_neg k5]
  by_cases k3 : kind = 3
  · rw [if_pos k3]
    split
    · simp
    · simp only [List.length_append, List.length_take, List.length_drop]; omega
  rw [if_neg k3]
  by_cases k4 : kind = 4
  · rw [if_pos k4]; simp
  rw [if_neg k4]
  by_cases k6 : kind = 6
  · rw [if_pos k6]; simp
  rw [if_neg k6]
  by_cases k7 : kind = 7
  · rw [if_pos k7]; simp
  rw [if_neg k7]
  by_cases k8 : kind = 8
  · rw [if_pos k8]; simp
  rw [if_neg k8]; simp
theorem doM_places (T D : List UInt8) (most kind p k : Int) : (doM T most kind p k D).2.places.length ≤ T.length + 1 := by
  unfold doM
  by_cases k1 : kind = 1
  · rw [if_pos k1]
    split
    · simp
    · split <;> simp
  rw [if_neg k1]
  by_cases k2 : kind = 2
  · rw [if_pos k2]
    split <;> simp
  rw [if_neg k2]
  by_cases k5 : kind = 5
  · rw [if_pos k5]
    split <;> simp
  rw [if_neg k5]
  by_cases k3 : kind = 3
  · rw [if_pos k3]
    split <;> simp
  rw [if_neg k3]
  by_cases k4 : kind = 4
  · rw [if_pos k4]; simp
  rw [if_neg k4]
  by_cases k6 : kind = 6
  · rw [if_pos k6]; simp
  rw [if_neg k6]
  by_cases k7 : kind = 7
  · rw [if_pos k7]
    have := findTo_le T D (T.length + 1 - D.length)
    simp only [findB]
    omega
  rw [if_neg k7]
  by_cases k8 : kind = 8
  · rw [if_pos k8]; simp
  rw [if_neg k8]; simp
theorem ms_endP {w W w6 : World} {g gp : Nat} {T : List UInt8} {most : Int} (M : MS w W g gp T most) (h : Below W.heap.size W w6) : Below w.heap.size w w6 := M.low.trans (Below.mono h M.low.size)
theorem rd_apartP {w : World} {A : Option Addr} {n gp sz B : Nat} {xs : List Value} (h : Rd w B sz A n xs) (hg : B ≤ gp) : 0 < n → ∀ a, A = some a → a.block ≠ gp := by
  intro hn a ha
  obtain ⟨b, off, e, hb, _⟩ := h.2 hn
  rw [ha] at e
  cases e
  simp only
  omega
/-- The model's answer, and its text behind it. -/
def resA (N0 gp : Nat) (T2 : List UInt8) (r : Told) : Value → World → Prop := fun v w1 => ∃ A1 c1 A2 c2, v = .agg (resC r A1 c1 A2 c2) ∧ Made w1 N0 5 1 A1 r.data.length c1 (r.data.map bv) ∧ Made w1 N0 3 1 A2 r.places.length c2 (r.places.map nv) ∧ PlS w1 gp T2
theorem resA_grow {N0 gp : Nat} {T2 : List UInt8} {r : Told} {v : Value} {w1 w2 : World} (h : resA N0 gp T2 r v w1) (k : Grow w1 w2) : resA N0 gp T2 r v w2 := by
  obtain ⟨A1, c1, A2, c2, h1, h2, h3, h4⟩ := h
  exact ⟨A1, c1, A2, c2, h1, h2.below k, h3.below k, h4.keep k⟩
theorem resA_keep {N0 gp gx : Nat} {T2 : List UInt8} {r : Told} {v s : Value} {z : Int} {w1 w2 : World} (h : resA N0 gp T2 r v w1) (hs : ∃ b, s = .string b) (hx : Bk w1 gx 40 #[s, .int .i64 z]) (hne : gp ≠ gx) (hN : gx < N0) (k : Keep (fun b => b = gx) w1 w2) : resA N0 gp T2 r v w2 := by
  obtain ⟨A1, c1, A2, c2, h1, h2, h3, h4⟩ := h
  exact ⟨A1, c1, A2, c2, h1, h2.keepF k (fun b e => by have : b = gx := e; omega), h3.keepF k (fun b e => by have : b = gx := e; omega), pls_keepX h4 hs hx hne k⟩
/-- The document's answer, and its text behind it. -/
def resB (N0 gx : Nat) (most : Int) (T2 : List UInt8) (r : Told) : Value → World → Prop := fun v w1 => ∃ A1 c1 A2 c2, v = .agg (resC r A1 c1 A2 c2) ∧ RdN w1 N0 1 A1 r.data.length (r.data.map bv) ∧ Made w1 N0 3 1 A2 r.places.length c2 (r.places.map nv) ∧ Bk w1 gx 40 #[.string ⟨T2.toArray⟩, .int .i64 most]
theorem resB_grow {N0 gx : Nat} {most : Int} {T2 : List UInt8} {r : Told} {v : Value} {w1 w2 : World} (h : resB N0 gx most T2 r v w1) (k : Grow w1 w2) : resB N0 gx most T2 r v w2 := by
  obtain ⟨A1, c1, A2, c2, h1, h2, h3, h4⟩ := h
  exact ⟨A1, c1, A2, c2, h1, h2.below k, h3.below k, h4.below k h4.lt⟩
def zeroAt (N0 : Nat) : Value → World → Prop := fun v w1 => ∃ g9, v = .pointer (some ⟨g9, 0, none⟩) ∧ N0 ≤ g9 ∧ Bk w1 g9 29 #[.int .i64 0, .int .i64 0, .slice none 0 0, .slice none 0 0]
theorem zeroAt_grow {N0 : Nat} {v : Value} {w1 w2 : World} (h : zeroAt N0 v w1) (k : Grow w1 w2) : zeroAt N0 v w2 := by
  obtain ⟨g9, h1, h2, h3⟩ := h
  exact ⟨g9, h1, h2, h3.below k h3.lt⟩
theorem zeroAt_keep {N0 x : Nat} {v : Value} {w1 w2 : World} (h : zeroAt N0 v w1) (hx : x < N0) (k : Keep (fun b => b = x) w1 w2) : zeroAt N0 v w2 := by
  obtain ⟨g9, h1, h2, h3⟩ := h
  exact ⟨g9, h1, h2, k.bk h3 (fun e => by have : g9 = x := e; omega)⟩
def PC (wr : World) (gp gx : Nat) (most : Int) (w1 : World) : Prop := Keep (fun b => b = gp ∨ b = gx) wr w1 ∧ ∃ b, Bk w1 gx 40 #[.string b, .int .i64 most]
def PSt (gp gx : Nat) (most : Int) (j : Nat) (w1 w2 : World) : Prop := (j = 5 → Keep (fun b => b = gp) w1 w2) ∧ (j = 11 → Keep (fun b => b = gx) w1 w2 ∧ ∃ b, Bk w2 gx 40 #[.string b, .int .i64 most]) ∧ (j ≠ 5 → j ≠ 11 → Grow w1 w2)
def PU (gp gx : Nat) (most : Int) (T : List UInt8) (i : Nat) (w1 : World) : Prop := (i = 5 → PlS w1 gp T) ∧ (i = 11 → Bk w1 gx 40 #[.string ⟨T.toArray⟩, .int .i64 most])
theorem pst_grow {gp gx : Nat} {most : Int} {j : Nat} {w1 w2 : World} (h5 : j ≠ 5) (h11 : j ≠ 11) (h : Grow w1 w2) : PSt gp gx most j w1 w2 := ⟨fun e => absurd e h5, fun e => absurd e h11, fun _ _ => h⟩
theorem pc_step {wr w1 w2 : World} {gp gx j : Nat} {most : Int} (hne : gp ≠ gx) (h : PC wr gp gx most w1) (k : PSt gp gx most j w1 w2) : PC wr gp gx most w2 := by
  obtain ⟨h1, b, h2⟩ := h
  by_cases h5 : j = 5
  · have k5 := k.1 h5
    exact ⟨h1.trans (k5.mono fun b _ e => .inl e), b, k5.bk h2 (fun e => hne e.symm)⟩
  · by_cases h11 : j = 11
    · have k11 := k.2.1 h11
      exact ⟨h1.trans (k11.1.mono fun b _ e => .inr e), k11.2⟩
    · have kg := k.2.2 h5 h11
      exact ⟨h1.trans (Keep.of_below kg), b, h2.below kg h2.lt⟩
/-- No cell is a byte. -/
def NoBv (cs : Array Value) : Prop := ∀ (i : Nat) (c : UInt8), cs[i]? ≠ some (bv c)
theorem nobv_res (x y : Int) (A1 A2 : Option Addr) (n1 c1 n2 c2 : Nat) : NoBv #[.int .i64 x, .int .i64 y, .slice A1 n1 c1, .slice A2 n2 c2] := by
  intro i c
  rcases i with _ | _ | _ | _ | i <;> simp [bv]
theorem u8_apart {w : World} {g B n : Nat} {A : Option Addr} {T : List UInt8} {t : TypeId} {cs : Array Value} (hx : Bk w g t cs) (hc : NoBv cs) (hr : Rd w B 1 A n (T.map bv)) : 0 < n → ∀ a, A = some a → a.block ≠ g := by
  intro hn a ha e
  obtain ⟨b, off, h1, h2, h3⟩ := hr.2 hn
  rw [ha] at h1
  cases h1
  simp only at e
  subst e
  have hl : (T.map bv).length = n := by have := hr.1; omega
  have hT : 0 < T.length := by simp at hl; omega
  have h4 := h3 0 (bv (T[0]'hT)) (by rw [List.getElem?_map, List.getElem?_eq_getElem hT]; rfl)
  rw [Nat.add_zero, hx.cell off] at h4
  exact hc _ _ h4
section
variable {w w' : World} {g : Nat} {t : TypeId} {cs : Array Value} (hx : Bk w g t cs) (k : Keep (fun b => b = g) w w')
include hx k
theorem rd_T {B n : Nat} {A : Option Addr} {T : List UInt8} (hc : NoBv cs) (hr : Rd w B 1 A n (T.map bv)) (hB : B ≤ w.heap.size) : Rd w' w'.heap.size 1 A n (T.map bv) := Rd.keepF hr k hB (u8_apart hx hc hr)
theorem pls_T {gp : Nat} {T : List UInt8} (hc : NoBv cs) (h : PlS w gp T) (hne : gp ≠ g) : PlS w' gp T := by
  obtain ⟨A, c, h1, h2, h3, h4⟩ := h
  exact ⟨A, c, k.bk h1 (fun e => hne e), rd_T hx k hc h2 (Nat.le_refl _), h3, h4⟩
theorem made_T {B sz n c : Nat} {e : TypeId} {A : Option Addr} {xs : List Value} (hne : e ≠ t) (h : Made w B e sz A n c xs) : Made w' B e sz A n c xs := by
  have ho : w'.ownsRow B e sz (.slice A n c) n xs := by
    refine ⟨h.own.1, ?_⟩
    rcases h.own.2 with h1 | ⟨g', cap, cur, h1, h2, h3, h4⟩
    · exact .inl h1
    · refine .inr ⟨g', cap, cur, h1, h2, (k.block g' (lt_of_block h3) (fun e' => ?_)).trans h3, h4⟩
      have e2 : g' = g := e'
      subst e2
      exact Bk.ne (t := e) h3 hx hne rfl
  exact ⟨ho, Rd.of_own ho, h.cap, h.max⟩
end
set_option maxRecDepth 100000 in
set_option maxHeartbeats 4000000 in
theorem walkModelPlays (w : World) (most : Int) (hmo : (Lit.int .i64 most).wf = true) (A1 : Option Addr) (m1 c1 : Nat) (l : List Stp) (hr1 : Rd w w.heap.size 4 A1 m1 (stpCells l)) (hl1 : l.length = m1) (hg1 : ∀ s ∈ l, s.good w) (hmc1 : m1 ≤ c1) (hcl1 : c1 ≤ maxLen) :
    Calls Try.prog 4 #[.int .i64 most, .slice A1 m1 c1] w fun e w' => e = .returned (.bool true) ∧ Below w.heap.size w w' := by
  have hmost := bounds_i64 hmo
  have Hr1 := Lib.hid hr1
  have Hl1 := Lib.hid hl1
  have Hg1 := Lib.hid hg1
  clear hr1 hl1 hg1
  by_cases hbad : most < 0 ∨ 2147483648 < most
  · by_cases h0 : most < 0
    · go_enter Try.func4, Try.ntmps4
      go_wp2_with fail
      refine (New_bad most _ hbad).mono ?_
      rintro e w1 ⟨rfl, rfl⟩
      go_wp2_with fail
      refine (told20_any _).mono ?_
      rintro e w2 ⟨rfl, hb2⟩
      go_wp2_with fail
      go_ret
      exact ⟨rfl, hb2⟩
    · have h1 : most > 2147483648 := by omega
      go_enter Try.func4, Try.ntmps4
      go_wp2_with fail
      refine (New_bad most _ hbad).mono ?_
      rintro e w1 ⟨rfl, rfl⟩
      go_wp2_with fail
      refine (told20_any _).mono ?_
      rintro e w2 ⟨rfl, hb2⟩
      go_wp2_with fail
      go_ret
      exact ⟨rfl, hb2⟩
  have h0 : ¬ (most < 0) := by omega
  have h1 : ¬ (most > 2147483648) := by omega
  have hmb : 0 ≤ most ∧ most ≤ 2147483648 := by omega
  clear hbad
  have hfew := fun (w1 : World) (hb : Below w.heap.size w w1) => Few_any A1 m1 c1 w.heap.size l w1 (Hr1.out.below hb) Hl1.out (Nat.le_trans hmc1 hcl1) (fun s hs => Nat.le_trans (Hg1.out s hs).2.2.2.2.1 (Hg1.out s hs).2.2.2.2.2)
  have Hfew := Lib.hid hfew
  clear hfew
  cases hf : fewB l m1 with
  | false =>
    go_enter Try.func4, Try.ntmps4
    go_wp2_with fail
    refine (New_ok most _ (by omega) (by omega)).mono ?_
    intro e w1 hnew
    obtain ⟨g, gp, rfl, M1, hg1, hgp1⟩ := ms_new w w w1 most (Below.refl _ _) hnew
    clear hnew
    go_wp2_with fail
    refine (Hfew.out w1 M1.low).mono ?_
    rintro e w2 ⟨rfl, rfl⟩
    rw [hf]
    go_wp2_with fail
    refine (told20_any _).mono ?_
    rintro e w2 ⟨rfl, hb2⟩
    have hfin := ms_endP M1 hb2
    go_wp2_with fail
    go_ret
    exact ⟨rfl, hfin⟩
  | true =>
    have hm80 : m1 ≤ 80 := by
      unfold fewB at hf
      rw [Bool.and_eq_true] at hf
      exact of_decide_eq_true hf.2
    have h60 : ∀ s ∈ l, s.n ≤ 60 := by
      unfold fewB at hf
      rw [Bool.and_eq_true] at hf
      exact fun s hs => of_decide_eq_true (List.all_eq_true.1 hf.1 s hs)
    have H60 := Lib.hid h60
    clear h60
    go_enter Try.func4, Try.ntmps4
    go_wp2_with fail
    refine (New_ok most _ (by omega) (by omega)).mono ?_
    intro e w1 hnew
    obtain ⟨g, gp, rfl, M1, hg1, hgp1⟩ := ms_new w w w1 most (Below.refl _ _) hnew
    clear hnew
    have hgl := M1.pl.lt
    have hgll := M1.mod.lt
    go_wp2_with fail
    refine (Hfew.out w1 M1.low).mono ?_
    rintro e w2 ⟨rfl, rfl⟩
    rw [hf]
    go_wp2_with fail
    have X1 := Bk.new w1 40 #[.string ⟨#[]⟩, .int .i64 most]
    obtain ⟨gx, hgx⟩ : ∃ gx, w1.heap.size = gx := ⟨_, rfl⟩
    rw [hgx] at X1 hgl hgll ⊢
    have hwx : w.heap.size ≤ gx := by have := M1.low.size; omega
    clear hgx hf Hfew
    go_loopw [8] (fun i wr => ∃ (k : Nat) (T : List UInt8), k ≤ m1 ∧ i = .int .i64 k ∧ MS w wr g gp T most ∧ Bk wr gx 40 #[.string ⟨T.toArray⟩, .int .i64 most] ∧ T.length ≤ 60 * k) (fun i _ => m1 - (intOf i).toNat)
    case atStart => exact ⟨0, [], Nat.zero_le _, rfl, M1.alloc _, X1, Nat.zero_le _⟩
    case round =>
      obtain ⟨k, T, hk, rfl, M, X, hT⟩ := hrel
      by_cases hlt : k < m1
      · obtain ⟨s, hs⟩ : ∃ s, l[k]? = some s := ⟨l[k]'(by have := Hl1.out; omega), List.getElem?_eq_getElem (by have := Hl1.out; omega)⟩
        have hms := List.mem_of_getElem? hs
        obtain ⟨b1, b2, b3, b4, b5, b6⟩ := Hg1.out s hms
        have hs60 := H60.out s hms
        obtain ⟨b, off, rfl, hbl, hc⟩ := (Hr1.out.below M.low).2 (by omega)
        obtain ⟨kind, p, kk, AD, nd, cd, D⟩ := s
        simp only at b1 b2 b3 b4 b5 b6 hs60
        unfold i64in at b1 b2 b3
        have d0 : wr.cell? ⟨b, off + k * 4, none⟩ = some (.int .i64 kind) := hc (k * 4 + 0) _ ((stpCells_get l k 0 _ hs (by omega)).trans rfl)
        have d1 : wr.cell? ⟨b, off + k * 4 + 1, none⟩ = some (.int .i64 p) := by rw [Nat.add_assoc]; exact hc (k * 4 + 1) _ ((stpCells_get l k 1 _ hs (by omega)).trans rfl)
        have d2 : wr.cell? ⟨b, off + k * 4 + 2, none⟩ = some (.int .i64 kk) := by rw [Nat.add_assoc]; exact hc (k * 4 + 2) _ ((stpCells_get l k 2 _ hs (by omega)).trans rfl)
        have d3 : wr.cell? ⟨b, off + k * 4 + 3, none⟩ = some (.slice AD nd cd) := by rw [Nat.add_assoc]; exact hc (k * 4 + 3) _ ((stpCells_get l k 3 _ hs (by omega)).trans rfl)
        have hD : D.length = nd := by simpa using b4.1
        obtain ⟨T2, r, h2⟩ : ∃ T2 r, doM T most kind p kk D = (T2, r) := ⟨_, _, rfl⟩
        have hT2 : T2.length ≤ 60 * (k + 1) := by
          have := doM_len T D most kind p kk
          rw [h2] at this
          simp only at this
          omega
        have hrp : r.places.length ≤ 4801 := by
          have := doM_places T D most kind p kk
          rw [h2] at this
          simp only at this
          omega
        have HD := Lib.hid b4
        have H2 := Lib.hid h2
        clear hc hs hms b4 h2 hD
        go_wp2_with fail
        refine wp_region_any (by kernel_rfl) ?_
        obtain ⟨N0, hN0⟩ : ∃ N0, wr.heap.size = N0 := ⟨_, rfl⟩
        have hgN : gp < N0 := by have := M.pl.lt; omega
        have hxN : gx < N0 := by have := X.lt; omega
        have hgg : g ≠ gx := fun e => by have := M.mod; rw [e] at this; exact Bk.ne this X (by decide) rfl
        have hpx : gp ≠ gx := fun e => by obtain ⟨A, c, h, _⟩ := M.pls; rw [e] at h; exact Bk.ne h X (by decide) rfl
        have hbw : b < w.heap.size := hbl
        have hgp0 := M.gp0
        refine wpAny_tail2 14 [50, 51, 52, 53, 54, 55, 56, 57, 58, 59, 60, 61, 9, 10] (PC wr gp gx most) (PSt gp gx most) (PU gp gx most T) (Vs [is (.pointer (some ⟨g, 0, none⟩)), is (.slice (some ⟨b, off, none⟩) m1 c1), is (.int .i64 (k : Int)), is (.pointer (some ⟨b, off + k * 4, none⟩)), is (.agg #[.int .i64 kind, .int .i64 p, .int .i64 kk, .slice AD nd cd]), resA N0 gp T2 r, is (.pointer (some ⟨gx, 0, none⟩)), is (.slice (some ⟨b, off, none⟩) m1 c1), is (.int .i64 (k : Int)), is (.pointer (some ⟨b, off + k * 4, none⟩)), is (.agg #[.int .i64 kind, .int .i64 p, .int .i64 kk, .slice AD nd cd]), resB N0 gx most T2 r, zeroAt N0, zeroAt N0]) _ _ rfl (by decide) (by kernel_rfl) (by kernel_rfl) ⟨⟨rfl, rfl, rfl, Nat.le_refl _, fun _ _ _ => rfl⟩, _, X⟩ (fun i => ⟨fun _ => M.pl, fun _ => X⟩) (fun j w1 w2 _ h k => pc_step hpx h k) ?_ ?_ ?_ ?_
        · intro i j w1 w2 _ hij hup hu hC k
          refine ⟨fun hi => ?_, fun hi => ?_⟩
          · subst hi
            by_cases h11 : j = 11
            · subst h11
              rw [show upB _ _ _ _ _ = true from by kernel_rfl] at hup
              cases hup
            · exact (hu.1 rfl).keep (k.2.2 (fun e => hij e.symm) h11)
          · subst hi
            by_cases h5 : j = 5
            · exact (k.1 h5).bk (hu.2 rfl) (fun e => hpx e.symm)
            · have kg := k.2.2 h5 (fun e => hij e.symm)
              exact (hu.2 rfl).below kg (hu.2 rfl).lt
        · intro i j v w1 w2 _ hij haf hv hC k
          obtain ⟨_, b0, hX1⟩ := hC
          rcases i with _ | _ | _ | _ | _ | _ | _ | _ | _ | _ | _ | _ | _ | _ | i
          · exact hv
          · exact hv
          · exact hv
          · exact hv
          · exact hv
          · by_cases h11 : j = 11
            · exact resA_keep hv ⟨_, rfl⟩ hX1 hpx hxN (k.2.1 h11).1
            · exact resA_grow hv (k.2.2 (fun e => hij e.symm) h11)
          · exact hv
          · exact hv
          · exact hv
          · exact hv
          · exact hv
          · by_cases h5 : j = 5
            · subst h5
              rw [show aftB _ _ _ _ = true from by kernel_rfl] at haf
              cases haf
            · exact resB_grow hv (k.2.2 h5 (fun e => hij e.symm))
          · by_cases h5 : j = 5
            · exact zeroAt_keep hv hgN (k.1 h5)
            · by_cases h11 : j = 11
              · exact zeroAt_keep hv hxN (k.2.1 h11).1
              · exact zeroAt_grow hv (k.2.2 h5 h11)
          · by_cases h5 : j = 5
            · exact zeroAt_keep hv hgN (k.1 h5)
            · by_cases h11 : j = 11
              · exact zeroAt_keep hv hxN (k.2.1 h11).1
              · exact zeroAt_grow hv (k.2.2 h5 h11)
          · exact trivial
        · intro j o hj ho
          rcases j with _ | _ | _ | _ | _ | _ | _ | _ | _ | _ | _ | _ | _ | _ | j
          · obtain rfl := Option.some.inj ho
            refine step_on3 rfl rfl ?_
            intro ev w5 hS hU hc hf hold hval a K ha hK
            have hU5 := hU.1
            have hU11 := hU.2
            have hk5 := hS.1
            clear hU
            have e5 : ev (.tmp 5) = .pointer (some ⟨g, 0, none⟩) := hold 5 (by kernel_rfl)
            go_simp
            exact hK _ _ (pst_grow (by decide) (by decide) (Below.refl _ _)) rfl
          · obtain rfl := Option.some.inj ho
            refine step_on3 rfl rfl ?_
            intro ev w5 hS hU hc hf hold hval a K ha hK
            have hU5 := hU.1
            have hU11 := hU.2
            have hk5 := hS.1
            clear hU
            have e1 : ev (.tmp 1) = .slice (some ⟨b, off, none⟩) m1 c1 := hold 1 (by kernel_rfl)
            go_simp
            exact hK _ _ (pst_grow (by decide) (by decide) (Below.refl _ _)) rfl
          · obtain rfl := Option.some.inj ho
            refine step_on3 rfl rfl ?_
            intro ev w5 hS hU hc hf hold hval a K ha hK
            have hU5 := hU.1
            have hU11 := hU.2
            have hk5 := hS.1
            clear hU
            have e8 : ev (.tmp 8) = .int .i64 (k : Int) := hold 8 (by kernel_rfl)
            go_simp
            exact hK _ _ (pst_grow (by decide) (by decide) (Below.refl _ _)) rfl
          · obtain rfl := Option.some.inj ho
            refine step_on3 rfl rfl ?_
            intro ev w5 hS hU hc hf hold hval a K ha hK
            have hU5 := hU.1
            have hU11 := hU.2
            have hk5 := hS.1
            clear hU
            have e51 : ev (.tmp 51) = .slice (some ⟨b, off, none⟩) m1 c1 := hval 1 51 (by kernel_rfl) rfl
            have e52 : ev (.tmp 52) = .int .i64 (k : Int) := hval 2 52 (by kernel_rfl) rfl
            go_simp
            exact hK _ _ (pst_grow (by decide) (by decide) (Below.refl _ _)) rfl
          · obtain rfl := Option.some.inj ho
            refine step_on3 rfl rfl ?_
            intro ev w5 hS hU hc hf hold hval a K ha hK
            have hU5 := hU.1
            have hU11 := hU.2
            have hk5 := hS.1
            clear hU
            have e53 : ev (.tmp 53) = .pointer (some ⟨b, off + k * 4, none⟩) := hval 3 53 (by kernel_rfl) rfl
            have x0 : w5.cell? ⟨b, off + k * 4, none⟩ = some (.int .i64 kind) := (hk5.cell (p := ⟨b, off + k * 4, none⟩) (by simp only; omega) (by simp only; omega)).trans d0
            have x1 : w5.cell? ⟨b, off + k * 4 + 1, none⟩ = some (.int .i64 p) := (hk5.cell (p := ⟨b, off + k * 4 + 1, none⟩) (by simp only; omega) (by simp only; omega)).trans d1
            have x2 : w5.cell? ⟨b, off + k * 4 + 2, none⟩ = some (.int .i64 kk) := (hk5.cell (p := ⟨b, off + k * 4 + 2, none⟩) (by simp only; omega) (by simp only; omega)).trans d2
            have x3 : w5.cell? ⟨b, off + k * 4 + 3, none⟩ = some (.slice AD nd cd) := (hk5.cell (p := ⟨b, off + k * 4 + 3, none⟩) (by simp only; omega) (by simp only; omega)).trans d3
            go_simp
            exact hK _ _ (pst_grow (by decide) (by decide) (Below.refl _ _)) rfl
          · obtain rfl := Option.some.inj ho
            refine step_on3 rfl rfl ?_
            intro ev w5 hS hU hc hf hold hval a K ha hK
            have hU5 := hU.1
            have hU11 := hU.2
            have hk5 := hS.1
            clear hU
            have e50 : ev (.tmp 50) = .pointer (some ⟨g, 0, none⟩) := hval 0 50 (by kernel_rfl) rfl
            have e54 : ev (.tmp 54) = .agg #[.int .i64 kind, .int .i64 p, .int .i64 kk, .slice AD nd cd] := hval 4 54 (by kernel_rfl) rfl
            have hd5 : Rd w5 w.heap.size 1 AD nd (D.map bv) := hk5.rd (HD.out.below M.low) M.low.size (fun b hb h => by omega)
            have hw5 : w.heap.size ≤ w5.heap.size := Nat.le_trans M.low.size hk5.size
            have hN5 : N0 ≤ w5.heap.size := by have := hk5.size; omega
            go_simp
            refine (Do_any g gp AD nd cd w.heap.size kind p kk most T D T2 r H2.out w5 (hk5.bk M.mod (by have := M.ne; omega)) (hU5 rfl) hd5 hw5 (rd_apartP hd5 hgp0) M.ne (by omega) (by omega) b2 b3 hmb).mono ?_
            rintro e w8 ⟨A8, c8, A9, c9, rfl, hk8, hm8, hm9, hp8⟩
            exact hK _ _ ⟨fun _ => hk8, fun e => absurd e (by decide), fun e => absurd rfl e⟩ ⟨A8, c8, A9, c9, rfl, hm8.mono hN5, hm9.mono hN5, hp8⟩
          · obtain rfl := Option.some.inj ho
            refine step_on3 rfl rfl ?_
            intro ev w5 hS hU hc hf hold hval a K ha hK
            have hU5 := hU.1
            have hU11 := hU.2
            have hk5 := hS.1
            clear hU
            have e7 : ev (.tmp 7) = .pointer (some ⟨gx, 0, none⟩) := hold 7 (by kernel_rfl)
            go_simp
            exact hK _ _ (pst_grow (by decide) (by decide) (Below.refl _ _)) rfl
          · obtain rfl := Option.some.inj ho
            refine step_on3 rfl rfl ?_
            intro ev w5 hS hU hc hf hold hval a K ha hK
            have hU5 := hU.1
            have hU11 := hU.2
            have hk5 := hS.1
            clear hU
            have e1 : ev (.tmp 1) = .slice (some ⟨b, off, none⟩) m1 c1 := hold 1 (by kernel_rfl)
            go_simp
            exact hK _ _ (pst_grow (by decide) (by decide) (Below.refl _ _)) rfl
          · obtain rfl := Option.some.inj ho
            refine step_on3 rfl rfl ?_
            intro ev w5 hS hU hc hf hold hval a K ha hK
            have hU5 := hU.1
            have hU11 := hU.2
            have hk5 := hS.1
            clear hU
            have e8 : ev (.tmp 8) = .int .i64 (k : Int) := hold 8 (by kernel_rfl)
            go_simp
            exact hK _ _ (pst_grow (by decide) (by decide) (Below.refl _ _)) rfl
          · obtain rfl := Option.some.inj ho
            refine step_on3 rfl rfl ?_
            intro ev w5 hS hU hc hf hold hval a K ha hK
            have hU5 := hU.1
            have hU11 := hU.2
            have hk5 := hS.1
            clear hU
            have e57 : ev (.tmp 57) = .slice (some ⟨b, off, none⟩) m1 c1 := hval 7 57 (by kernel_rfl) rfl
            have e58 : ev (.tmp 58) = .int .i64 (k : Int) := hval 8 58 (by kernel_rfl) rfl
            go_simp
            exact hK _ _ (pst_grow (by decide) (by decide) (Below.refl _ _)) rfl
          · obtain rfl := Option.some.inj ho
            refine step_on3 rfl rfl ?_
            intro ev w5 hS hU hc hf hold hval a K ha hK
            have hU5 := hU.1
            have hU11 := hU.2
            have hk5 := hS.1
            clear hU
            have e59 : ev (.tmp 59) = .pointer (some ⟨b, off + k * 4, none⟩) := hval 9 59 (by kernel_rfl) rfl
            have x0 : w5.cell? ⟨b, off + k * 4, none⟩ = some (.int .i64 kind) := (hk5.cell (p := ⟨b, off + k * 4, none⟩) (by simp only; omega) (by simp only; omega)).trans d0
            have x1 : w5.cell? ⟨b, off + k * 4 + 1, none⟩ = some (.int .i64 p) := (hk5.cell (p := ⟨b, off + k * 4 + 1, none⟩) (by simp only; omega) (by simp only; omega)).trans d1
            have x2 : w5.cell? ⟨b, off + k * 4 + 2, none⟩ = some (.int .i64 kk) := (hk5.cell (p := ⟨b, off + k * 4 + 2, none⟩) (by simp only; omega) (by simp only; omega)).trans d2
            have x3 : w5.cell? ⟨b, off + k * 4 + 3, none⟩ = some (.slice AD nd cd) := (hk5.cell (p := ⟨b, off + k * 4 + 3, none⟩) (by simp only; omega) (by simp only; omega)).trans d3
            go_simp
            exact hK _ _ (pst_grow (by decide) (by decide) (Below.refl _ _)) rfl
          · obtain rfl := Option.some.inj ho
            refine step_on3 rfl rfl ?_
            intro ev w5 hS hU hc hf hold hval a K ha hK
            have hU5 := hU.1
            have hU11 := hU.2
            have hk5 := hS.1
            clear hU
            have e56 : ev (.tmp 56) = .pointer (some ⟨gx, 0, none⟩) := hval 6 56 (by kernel_rfl) rfl
            have e60 : ev (.tmp 60) = .agg #[.int .i64 kind, .int .i64 p, .int .i64 kk, .slice AD nd cd] := hval 10 60 (by kernel_rfl) rfl
            have hd5 : Rd w5 w.heap.size 1 AD nd (D.map bv) := hk5.rd (HD.out.below M.low) M.low.size (fun b hb h => by omega)
            have hw5 : w.heap.size ≤ w5.heap.size := Nat.le_trans M.low.size hk5.size
            have hN5 : N0 ≤ w5.heap.size := by have := hk5.size; omega
            go_simp
            refine (Ref_any gx AD nd cd w.heap.size kind p kk most T D T2 r H2.out w5 (hU11 rfl) hd5 hw5 (rd_apartP hd5 hwx) (by omega) (by omega) b2 b3 hmb).mono ?_
            rintro e w8 ⟨A8, c8, A9, c9, rfl, hk8, hm8, hm9, hp8⟩
            exact hK _ _ ⟨fun e => absurd e (by decide), fun _ => ⟨hk8, _, hp8⟩, fun _ e => absurd rfl e⟩ ⟨A8, c8, A9, c9, rfl, hm8.mono hN5, hm9.mono hN5, hp8⟩
          · obtain rfl := Option.some.inj ho
            refine step_on3 rfl rfl ?_
            intro ev w5 hS hU hc hf hold hval a K ha hK
            have hU5 := hU.1
            have hU11 := hU.2
            have hk5 := hS.1
            clear hU
            go_simp
            exact hK _ _ (pst_grow (by decide) (by decide) ((Below.refl _ _).alloc (Nat.le_refl _) _)) ⟨_, rfl, by have := hk5.size; omega, Bk.new _ _ _⟩
          · obtain rfl := Option.some.inj ho
            refine step_on3 rfl rfl ?_
            intro ev w5 hS hU hc hf hold hval a K ha hK
            have hU5 := hU.1
            have hU11 := hU.2
            have hk5 := hS.1
            clear hU
            go_simp
            exact hK _ _ (pst_grow (by decide) (by decide) ((Below.refl _ _).alloc (Nat.le_refl _) _)) ⟨_, rfl, by have := hk5.size; omega, Bk.new _ _ _⟩
          · omega
        · intro ev w6 f hS hval
          have p55 : resA N0 gp T2 r (ev (.tmp 55)) w6 := hval 5 55 (by decide) rfl
          have p61 : resB N0 gx most T2 r (ev (.tmp 61)) w6 := hval 11 61 (by decide) rfl
          have p9 : zeroAt N0 (ev (.tmp 9)) w6 := hval 12 9 (by decide) rfl
          have p10 : zeroAt N0 (ev (.tmp 10)) w6 := hval 13 10 (by decide) rfl
          simp only [putsOf, List.foldl_cons, List.foldl_nil, Act.put, List.setIfInBounds_toArray, List.set_cons_zero, List.set_cons_succ]
          clear hval
          obtain ⟨hk6, _⟩ := hS
          obtain ⟨A8, c8, A9, c9, e55, hm8, hm9, hp6⟩ := p55
          obtain ⟨B8, f8, B9, f9, e61, hn8, hn9, hX6⟩ := p61
          obtain ⟨g9, e9, hg9, hz9⟩ := p9
          obtain ⟨g10, e10, hg10, hz10⟩ := p10
          unfold resC at e55 e61
          rw [e55, e61, e9, e10]
          change wpAny Try.prog Region.Mode.any _ _ (2 + f) (firstN 14 16) _ w6
          rw [Nat.add_comm 2 f]
          refine wpAny_one (f := f + 1) (i := 14) (by kernel_rfl) ?_
          refine wpOp_run rfl rfl ?_
          generalize hK : wpAny Try.prog _ _ _ (f + 1) _ = K5
          have q0 : w6.cell? ⟨g9, 0, none⟩ = some (.int .i64 0) := (hz9.cell 0).trans rfl
          have f0 := hz9.frozen 0
          have q1 : w6.cell? ⟨g9, 1, none⟩ = some (.int .i64 0) := (hz9.cell 1).trans rfl
          have f1 := hz9.frozen 1
          have q2 : w6.cell? ⟨g9, 2, none⟩ = some (.slice none 0 0) := (hz9.cell 2).trans rfl
          have f2 := hz9.frozen 2
          have q3 : w6.cell? ⟨g9, 3, none⟩ = some (.slice none 0 0) := (hz9.cell 3).trans rfl
          have f3 := hz9.frozen 3
          go_simp
          subst hK
          obtain ⟨w7, hw7⟩ : ∃ w7, ((((w6.setCell ⟨g9, 0, none⟩ (.int .i64 r.code)).setCell ⟨g9, 1, none⟩ (.int .i64 r.num)).setCell ⟨g9, 2, none⟩ (.slice A8 r.data.length c8)).setCell ⟨g9, 3, none⟩ (.slice A9 r.places.length c9)) = w7 := ⟨_, rfl⟩
          have k7 : Keep (fun b => b = g9) w6 w7 := by rw [← hw7]; exact at_set
          have a7 : Bk w7 g9 29 #[.int .i64 r.code, .int .i64 r.num, .slice A8 r.data.length c8, .slice A9 r.places.length c9] := by rw [← hw7]; exact res_set hz9
          rw [hw7]
          clear hw7 q0 q1 q2 q3 f0 f1 f2 f3
          have nz := nobv_res 0 0 none none 0 0 0 0
          have hm8' := made_T hz9 k7 (by decide) hm8
          have hm9' := made_T hz9 k7 (by decide) hm9
          have hn8' := rd_T hz9 k7 nz hn8.1 (Nat.le_refl _)
          have hn9' := made_T hz9 k7 (by decide) hn9
          have hp7 := pls_T hz9 k7 nz hp6 (by omega)
          have hX7 := k7.bk hX6 (fun e => absurd (show gx = g9 from e) (by omega))
          have hz7 : ∃ (x y : Int) (B1 : Option Addr) (n1 f1 : Nat) (B2 : Option Addr) (n2 f2 : Nat), Bk w7 g10 29 #[.int .i64 x, .int .i64 y, .slice B1 n1 f1, .slice B2 n2 f2] := by
            by_cases he : g10 = g9
            · rw [he]; exact ⟨_, _, _, _, _, _, _, _, a7⟩
            · exact ⟨_, _, _, _, _, _, _, _, k7.bk hz10 (fun e => he e)⟩
          obtain ⟨x7, y7, B1, n1, f1, B2, n2, f2, hz7⟩ := hz7
          refine wpAny_one (f := f) (i := 15) (by kernel_rfl) ?_
          refine wpOp_run rfl rfl ?_
          generalize hK : wpAny Try.prog _ _ _ f _ = K5
          have q0 : w7.cell? ⟨g10, 0, none⟩ = some (.int .i64 x7) := (hz7.cell 0).trans rfl
          have u0 := hz7.frozen 0
          have q1 : w7.cell? ⟨g10, 1, none⟩ = some (.int .i64 y7) := (hz7.cell 1).trans rfl
          have u1 := hz7.frozen 1
          have q2 : w7.cell? ⟨g10, 2, none⟩ = some (.slice B1 n1 f1) := (hz7.cell 2).trans rfl
          have u2 := hz7.frozen 2
          have q3 : w7.cell? ⟨g10, 3, none⟩ = some (.slice B2 n2 f2) := (hz7.cell 3).trans rfl
          have u3 := hz7.frozen 3
          go_simp
          subst hK
          obtain ⟨w8, hw8⟩ : ∃ w8, ((((w7.setCell ⟨g10, 0, none⟩ (.int .i64 r.code)).setCell ⟨g10, 1, none⟩ (.int .i64 r.num)).setCell ⟨g10, 2, none⟩ (.slice B8 r.data.length f8)).setCell ⟨g10, 3, none⟩ (.slice B9 r.places.length f9)) = w8 := ⟨_, rfl⟩
          have k8 : Keep (fun b => b = g10) w7 w8 := by rw [← hw8]; exact at_set
          have b8 : Bk w8 g10 29 #[.int .i64 r.code, .int .i64 r.num, .slice B8 r.data.length f8, .slice B9 r.places.length f9] := by rw [← hw8]; exact res_set hz7
          rw [hw8]
          clear hw8 q0 q1 q2 q3 u0 u1 u2 u3
          have n7 := nobv_res x7 y7 B1 B2 n1 f1 n2 f2
          have hm8 := made_T hz7 k8 (by decide) hm8'
          have hm9 := made_T hz7 k8 (by decide) hm9'
          have hn8 := rd_T hz7 k8 n7 hn8' (Nat.le_refl _)
          have hn9 := made_T hz7 k8 (by decide) hn9'
          have hp8 := pls_T hz7 k8 n7 hp7 (by omega)
          have X8 := k8.bk hX7 (fun e => absurd (show gx = g10 from e) (by omega))
          have rb8 : ResAt w8 g10 r := ⟨B8, f8, B9, f9, b8, hn8, hn9.rd⟩
          have ra8 : ResAt w8 g9 r := by
            by_cases he : g9 = g10
            · rw [he]; exact rb8
            · exact ⟨A8, c8, A9, c9, k8.bk a7 (fun e => he e), hm8.rd, hm9.rd⟩
          have hlow : Below w.heap.size wr w8 := ((hk6.to_below M.low.size (fun b hb h => by omega)).trans ((k7.to_below (by have := hk6.size; have := M.low.size; omega) (fun b hb h => by have h3 : b = g9 := h; have := M.low.size; omega)))).trans (k8.to_below (by have := k7.size; have := hk6.size; have := M.low.size; omega) (fun b hb h => by have h3 : b = g10 := h; have := M.low.size; omega))
          have hgl6 := M.mod.lt
          have M8 : MS w w8 g gp T2 most := ⟨M.low.trans hlow, M.g0, M.gp0, M.ne, k8.bk (k7.bk (hk6.bk M.mod (by have := M.ne; omega)) (fun e => absurd (show g = g9 from e) (by omega))) (fun e => absurd (show g = g10 from e) (by omega)), hp8⟩
          clear hm8 hm9 hn8 hn9 hm8' hm9' hn8' hn9' hp7 hp8 hX7 hX6 hz7 hz9 hz10 a7 b8 k7 k8 hk6 hp6 M X hlow n7 nz e55 e61 e9 e10
          refine wpAny_all (by kernel_rfl) ?_
          obtain ⟨Aa, ca, Ab, cb, ba, rda, rpa⟩ := ra8
          obtain ⟨Ba, fa, Bb, fb, bb, rdb, rpb⟩ := rb8
          unfold resC at ba bb
          go_wp2_with fail
          refine wp_region_any (by kernel_rfl) ?_
          refine wpAny_loose2 [62, 63, 64, 65, 66, 67, 68, 69, 70, 71, 72, 73, 74, 75, 76, 77, 78, 79, 80, 81, 82, 83, 84] Grow (Vs [is (.agg #[.int .i64 r.code, .int .i64 r.num, .slice Aa r.data.length ca, .slice Ab r.places.length cb]), is (.agg #[.int .i64 r.code, .int .i64 r.num, .slice Ba r.data.length fa, .slice Bb r.places.length fb]), is (.bool true), is (.bool false), is (.bool false), is (.pointer (some ⟨g, 0, none⟩)), row 1 T2.length (T2.map bv), is (.string ⟨T2.toArray⟩), is (.pointer (some ⟨gx, 0, none⟩)), is (.pointer (some ⟨gx, 0, none⟩)), is (.pointer (some ⟨gx, 0, none⟩)), is (.string ⟨T2.toArray⟩), is (.bool false), is (.bool false), is (.bool false), is (.agg #[.int .i64 r.code, .int .i64 r.num, .slice Aa r.data.length ca, .slice Ab r.places.length cb]), is (.agg #[.int .i64 r.code, .int .i64 r.num, .slice Ba r.data.length fa, .slice Bb r.places.length fb]), is (.bool true), is (.agg #[.int .i64 r.code, .int .i64 r.num, .slice Aa r.data.length ca, .slice Ab r.places.length cb]), is (.agg #[.int .i64 r.code, .int .i64 r.num, .slice Ba r.data.length fa, .slice Bb r.places.length fb]), is (.bool true), is (.bool false), is (.bool false)]) _ _ rfl (by kernel_rfl) (Below.refl _ _) (fun _ _ => Grow.trans) (stb_all (by repeat' (first | exact stb_is _ | exact stb_row _ _ _ | (refine List.forall_mem_cons.2 ⟨?_, ?_⟩) | (intro p hp; cases hp)))) ?_ ?_
          · refine steps_of ?_
            refine steps_cons ?_ ?_
            · refine step_on rfl rfl ?_
              intro ev w5 hS hc hf hold hval a K ha hK
              have e9 : ev (.tmp 9) = .pointer (some ⟨g9, 0, none⟩) := hold 9 (by kernel_rfl)
              replace hS : Grow w8 w5 := ⟨hS.os, hS.tape, hS.output, hS.size, hS.block⟩
              have x0 : w5.cell? ⟨g9, 0, none⟩ = some (.int .i64 r.code) := ((ba.below hS ba.lt).cell 0).trans rfl
              have x1 : w5.cell? ⟨g9, 1, none⟩ = some (.int .i64 r.num) := ((ba.below hS ba.lt).cell 1).trans rfl
              have x2 : w5.cell? ⟨g9, 2, none⟩ = some (.slice Aa r.data.length ca) := ((ba.below hS ba.lt).cell 2).trans rfl
              have x3 : w5.cell? ⟨g9, 3, none⟩ = some (.slice Ab r.places.length cb) := ((ba.below hS ba.lt).cell 3).trans rfl
              go_simp
              exact hK _ _ (Below.refl _ _) rfl
            refine steps_cons ?_ ?_
            · refine step_on rfl rfl ?_
              intro ev w5 hS hc hf hold hval a K ha hK
              have e10 : ev (.tmp 10) = .pointer (some ⟨g10, 0, none⟩) := hold 10 (by kernel_rfl)
              replace hS : Grow w8 w5 := ⟨hS.os, hS.tape, hS.output, hS.size, hS.block⟩
              have x0 : w5.cell? ⟨g10, 0, none⟩ = some (.int .i64 r.code) := ((bb.below hS bb.lt).cell 0).trans rfl
              have x1 : w5.cell? ⟨g10, 1, none⟩ = some (.int .i64 r.num) := ((bb.below hS bb.lt).cell 1).trans rfl
              have x2 : w5.cell? ⟨g10, 2, none⟩ = some (.slice Ba r.data.length fa) := ((bb.below hS bb.lt).cell 2).trans rfl
              have x3 : w5.cell? ⟨g10, 3, none⟩ = some (.slice Bb r.places.length fb) := ((bb.below hS bb.lt).cell 3).trans rfl
              go_simp
              exact hK _ _ (Below.refl _ _) rfl
            refine steps_cons ?_ ?_
            · refine step_on rfl rfl ?_
              intro ev w5 hS hc hf hold hval a K ha hK
              have e62 : ev (.tmp 62) = .agg #[.int .i64 r.code, .int .i64 r.num, .slice Aa r.data.length ca, .slice Ab r.places.length cb] := hval 0 62 (by kernel_rfl) rfl
              have e63 : ev (.tmp 63) = .agg #[.int .i64 r.code, .int .i64 r.num, .slice Ba r.data.length fa, .slice Bb r.places.length fb] := hval 1 63 (by kernel_rfl) rfl
              replace hS : Grow w8 w5 := ⟨hS.os, hS.tape, hS.output, hS.size, hS.block⟩
              go_simp
              refine (SameRes_any r.code r.code r.num r.num _ _ _ _ _ _ _ _ _ _ _ _ w5.heap.size w5.heap.size w5.heap.size w5.heap.size r.data r.data r.places r.places w5 ((rda.below hS).mono (Below.size hS)) ((rdb.below hS).mono (Below.size hS)) ((rpa.below hS).mono (Below.size hS)) ((rpb.below hS).mono (Below.size hS)) (Nat.le_refl _) (Nat.le_refl _) (Nat.le_refl _) (Nat.le_refl _) (by omega) (by omega)).mono ?_
              rintro e w10 ⟨rfl, hb10⟩
              exact hK _ _ hb10 (bool_eq (by simp))
            refine steps_cons ?_ ?_
            · refine step_on rfl rfl ?_
              intro ev w5 hS hc hf hold hval a K ha hK
              have e64 : ev (.tmp 64) = .bool true := hval 2 64 (by kernel_rfl) rfl
              replace hS : Grow w8 w5 := ⟨hS.os, hS.tape, hS.output, hS.size, hS.block⟩
              go_simp
              exact hK _ _ (Below.refl _ _) rfl
            refine steps_cons ?_ ?_
            · refine step_on rfl rfl ?_
              intro ev w5 hS hc hf hold hval a K ha hK
              have e65 : ev (.tmp 65) = .bool false := hval 3 65 (by kernel_rfl) rfl
              replace hS : Grow w8 w5 := ⟨hS.os, hS.tape, hS.output, hS.size, hS.block⟩
              go_simp
              exact hK _ _ (Below.refl _ _) rfl
            refine steps_cons ?_ ?_
            · refine step_guard (d := 66) (b := false) rfl rfl rfl (by kernel_rfl) (fun _ _ _ h => h) ?_
              intro ev w5 hS hc hf hold hval a K ha hK
              have e5 : ev (.tmp 5) = .pointer (some ⟨g, 0, none⟩) := hold 5 (by kernel_rfl)
              replace hS : Grow w8 w5 := ⟨hS.os, hS.tape, hS.output, hS.size, hS.block⟩
              go_simp
              exact hK _ _ (Below.refl _ _) rfl
            refine steps_cons ?_ ?_
            · refine step_guard (d := 66) (b := false) rfl rfl rfl (by kernel_rfl) (fun _ _ _ h => h) ?_
              intro ev w5 hS hc hf hold hval a K ha hK
              have e67 : ev (.tmp 67) = .pointer (some ⟨g, 0, none⟩) := hval 5 67 (by kernel_rfl) rfl
              replace hS : Grow w8 w5 := ⟨hS.os, hS.tape, hS.output, hS.size, hS.block⟩
              go_simp
              refine (Text_ms (M8.grow hS) T2.length rfl (by omega)).mono ?_
              rintro e w10 ⟨A10, c10, rfl, hm10, hb10⟩
              exact hK _ _ hb10 ⟨A10, c10, rfl, hm10.rd, hm10.cap, hm10.max⟩
            refine steps_cons ?_ ?_
            · refine step_guard (d := 66) (b := false) rfl rfl rfl (by kernel_rfl) (fun _ _ _ h => h) ?_
              intro ev w5 hS hc hf hold hval a K ha hK
              obtain ⟨A68, c68, e68, hr68, hk68, hm68⟩ : row 1 T2.length (T2.map bv) (ev (.tmp 68)) w5 := hval 6 68 (by kernel_rfl) rfl
              replace hS : Grow w8 w5 := ⟨hS.os, hS.tape, hS.output, hS.size, hS.block⟩
              have s69 := strOf hr68
              go_simp
              exact hK _ _ (Below.refl _ _) rfl
            refine steps_cons ?_ ?_
            · refine step_guard (d := 66) (b := false) rfl rfl rfl (by kernel_rfl) (fun _ _ _ h => h) ?_
              intro ev w5 hS hc hf hold hval a K ha hK
              have e7 : ev (.tmp 7) = .pointer (some ⟨gx, 0, none⟩) := hold 7 (by kernel_rfl)
              replace hS : Grow w8 w5 := ⟨hS.os, hS.tape, hS.output, hS.size, hS.block⟩
              go_simp
              exact hK _ _ (Below.refl _ _) rfl
            refine steps_cons ?_ ?_
            · refine step_guard (d := 66) (b := false) rfl rfl rfl (by kernel_rfl) (fun _ _ _ h => h) ?_
              intro ev w5 hS hc hf hold hval a K ha hK
              have e70 : ev (.tmp 70) = .pointer (some ⟨gx, 0, none⟩) := hval 8 70 (by kernel_rfl) rfl
              replace hS : Grow w8 w5 := ⟨hS.os, hS.tape, hS.output, hS.size, hS.block⟩
              go_simp
              exact hK _ _ (Below.refl _ _) rfl
            refine steps_cons ?_ ?_
            · refine step_guard (d := 66) (b := false) rfl rfl rfl (by kernel_rfl) (fun _ _ _ h => h) ?_
              intro ev w5 hS hc hf hold hval a K ha hK
              have e71 : ev (.tmp 71) = .pointer (some ⟨gx, 0, none⟩) := hval 9 71 (by kernel_rfl) rfl
              replace hS : Grow w8 w5 := ⟨hS.os, hS.tape, hS.output, hS.size, hS.block⟩
              go_simp
              exact hK _ _ (Below.refl _ _) rfl
            refine steps_cons ?_ ?_
            · refine step_guard (d := 66) (b := false) rfl rfl rfl (by kernel_rfl) (fun _ _ _ h => h) ?_
              intro ev w5 hS hc hf hold hval a K ha hK
              have e72 : ev (.tmp 72) = .pointer (some ⟨gx, 0, none⟩) := hval 10 72 (by kernel_rfl) rfl
              replace hS : Grow w8 w5 := ⟨hS.os, hS.tape, hS.output, hS.size, hS.block⟩
              have x0 : w5.cell? ⟨gx, 0, none⟩ = some (.string ⟨T2.toArray⟩) := ((X8.below hS X8.lt).cell 0).trans rfl
              go_simp
              exact hK _ _ (Below.refl _ _) rfl
            refine steps_cons ?_ ?_
            · refine step_guard (d := 66) (b := false) rfl rfl rfl (by kernel_rfl) (fun _ _ _ h => h) ?_
              intro ev w5 hS hc hf hold hval a K ha hK
              have e69 : ev (.tmp 69) = .string ⟨T2.toArray⟩ := hval 7 69 (by kernel_rfl) rfl
              have e73 : ev (.tmp 73) = .string ⟨T2.toArray⟩ := hval 11 73 (by kernel_rfl) rfl
              replace hS : Grow w8 w5 := ⟨hS.os, hS.tape, hS.output, hS.size, hS.block⟩
              go_simp
              exact hK _ _ (Below.refl _ _) (bool_eq (by simp))
            refine steps_cons ?_ ?_
            · refine step_on rfl rfl ?_
              intro ev w5 hS hc hf hold hval a K ha hK
              have e66 : ev (.tmp 66) = .bool false := hval 4 66 (by kernel_rfl) rfl
              have e74 : ev (.tmp 74) = .bool false := hval 12 74 (by kernel_rfl) rfl
              replace hS : Grow w8 w5 := ⟨hS.os, hS.tape, hS.output, hS.size, hS.block⟩
              go_simp
              exact hK _ _ (Below.refl _ _) rfl
            refine steps_cons ?_ ?_
            · refine step_on rfl rfl ?_
              intro ev w5 hS hc hf hold hval a K ha hK
              have e75 : ev (.tmp 75) = .bool false := hval 13 75 (by kernel_rfl) rfl
              replace hS : Grow w8 w5 := ⟨hS.os, hS.tape, hS.output, hS.size, hS.block⟩
              go_simp
              exact hK _ _ (Below.refl _ _) rfl
            refine steps_cons ?_ ?_
            · refine step_guard (d := 76) (b := false) rfl rfl rfl (by kernel_rfl) (fun _ _ _ h => h) ?_
              intro ev w5 hS hc hf hold hval a K ha hK
              have e9 : ev (.tmp 9) = .pointer (some ⟨g9, 0, none⟩) := hold 9 (by kernel_rfl)
              replace hS : Grow w8 w5 := ⟨hS.os, hS.tape, hS.output, hS.size, hS.block⟩
              have x0 : w5.cell? ⟨g9, 0, none⟩ = some (.int .i64 r.code) := ((ba.below hS ba.lt).cell 0).trans rfl
              have x1 : w5.cell? ⟨g9, 1, none⟩ = some (.int .i64 r.num) := ((ba.below hS ba.lt).cell 1).trans rfl
              have x2 : w5.cell? ⟨g9, 2, none⟩ = some (.slice Aa r.data.length ca) := ((ba.below hS ba.lt).cell 2).trans rfl
              have x3 : w5.cell? ⟨g9, 3, none⟩ = some (.slice Ab r.places.length cb) := ((ba.below hS ba.lt).cell 3).trans rfl
              go_simp
              exact hK _ _ (Below.refl _ _) rfl
            refine steps_cons ?_ ?_
            · refine step_guard (d := 76) (b := false) rfl rfl rfl (by kernel_rfl) (fun _ _ _ h => h) ?_
              intro ev w5 hS hc hf hold hval a K ha hK
              have e10 : ev (.tmp 10) = .pointer (some ⟨g10, 0, none⟩) := hold 10 (by kernel_rfl)
              replace hS : Grow w8 w5 := ⟨hS.os, hS.tape, hS.output, hS.size, hS.block⟩
              have x0 : w5.cell? ⟨g10, 0, none⟩ = some (.int .i64 r.code) := ((bb.below hS bb.lt).cell 0).trans rfl
              have x1 : w5.cell? ⟨g10, 1, none⟩ = some (.int .i64 r.num) := ((bb.below hS bb.lt).cell 1).trans rfl
              have x2 : w5.cell? ⟨g10, 2, none⟩ = some (.slice Ba r.data.length fa) := ((bb.below hS bb.lt).cell 2).trans rfl
              have x3 : w5.cell? ⟨g10, 3, none⟩ = some (.slice Bb r.places.length fb) := ((bb.below hS bb.lt).cell 3).trans rfl
              go_simp
              exact hK _ _ (Below.refl _ _) rfl
            refine steps_cons ?_ ?_
            · refine step_guard (d := 76) (b := false) rfl rfl rfl (by kernel_rfl) (fun _ _ _ h => h) ?_
              intro ev w5 hS hc hf hold hval a K ha hK
              have e77 : ev (.tmp 77) = .agg #[.int .i64 r.code, .int .i64 r.num, .slice Aa r.data.length ca, .slice Ab r.places.length cb] := hval 15 77 (by kernel_rfl) rfl
              have e78 : ev (.tmp 78) = .agg #[.int .i64 r.code, .int .i64 r.num, .slice Ba r.data.length fa, .slice Bb r.places.length fb] := hval 16 78 (by kernel_rfl) rfl
              replace hS : Grow w8 w5 := ⟨hS.os, hS.tape, hS.output, hS.size, hS.block⟩
              go_simp
              refine (Same_any r.code r.code r.num r.num _ _ _ _ _ _ _ _ _ _ _ _ w5.heap.size w5.heap.size w5.heap.size w5.heap.size r.data r.data r.places r.places w5 ((rda.below hS).mono (Below.size hS)) ((rdb.below hS).mono (Below.size hS)) ((rpa.below hS).mono (Below.size hS)) ((rpb.below hS).mono (Below.size hS)) (Nat.le_refl _) (Nat.le_refl _) (Nat.le_refl _) (Nat.le_refl _) (by omega) (by omega)).mono ?_
              rintro e w10 ⟨rfl, hb10⟩
              exact hK _ _ hb10 (bool_eq (by simp))
            refine steps_cons ?_ ?_
            · refine step_guard (d := 76) (b := false) rfl rfl rfl (by kernel_rfl) (fun _ _ _ h => h) ?_
              intro ev w5 hS hc hf hold hval a K ha hK
              have e9 : ev (.tmp 9) = .pointer (some ⟨g9, 0, none⟩) := hold 9 (by kernel_rfl)
              replace hS : Grow w8 w5 := ⟨hS.os, hS.tape, hS.output, hS.size, hS.block⟩
              have x0 : w5.cell? ⟨g9, 0, none⟩ = some (.int .i64 r.code) := ((ba.below hS ba.lt).cell 0).trans rfl
              have x1 : w5.cell? ⟨g9, 1, none⟩ = some (.int .i64 r.num) := ((ba.below hS ba.lt).cell 1).trans rfl
              have x2 : w5.cell? ⟨g9, 2, none⟩ = some (.slice Aa r.data.length ca) := ((ba.below hS ba.lt).cell 2).trans rfl
              have x3 : w5.cell? ⟨g9, 3, none⟩ = some (.slice Ab r.places.length cb) := ((ba.below hS ba.lt).cell 3).trans rfl
              go_simp
              exact hK _ _ (Below.refl _ _) rfl
            refine steps_cons ?_ ?_
            · refine step_guard (d := 76) (b := false) rfl rfl rfl (by kernel_rfl) (fun _ _ _ h => h) ?_
              intro ev w5 hS hc hf hold hval a K ha hK
              have e10 : ev (.tmp 10) = .pointer (some ⟨g10, 0, none⟩) := hold 10 (by kernel_rfl)
              replace hS : Grow w8 w5 := ⟨hS.os, hS.tape, hS.output, hS.size, hS.block⟩
              have x0 : w5.cell? ⟨g10, 0, none⟩ = some (.int .i64 r.code) := ((bb.below hS bb.lt).cell 0).trans rfl
              have x1 : w5.cell? ⟨g10, 1, none⟩ = some (.int .i64 r.num) := ((bb.below hS bb.lt).cell 1).trans rfl
              have x2 : w5.cell? ⟨g10, 2, none⟩ = some (.slice Ba r.data.length fa) := ((bb.below hS bb.lt).cell 2).trans rfl
              have x3 : w5.cell? ⟨g10, 3, none⟩ = some (.slice Bb r.places.length fb) := ((bb.below hS bb.lt).cell 3).trans rfl
              go_simp
              exact hK _ _ (Below.refl _ _) rfl
            refine steps_cons ?_ ?_
            · refine step_guard (d := 76) (b := false) rfl rfl rfl (by kernel_rfl) (fun _ _ _ h => h) ?_
              intro ev w5 hS hc hf hold hval a K ha hK
              have e80 : ev (.tmp 80) = .agg #[.int .i64 r.code, .int .i64 r.num, .slice Aa r.data.length ca, .slice Ab r.places.length cb] := hval 18 80 (by kernel_rfl) rfl
              have e81 : ev (.tmp 81) = .agg #[.int .i64 r.code, .int .i64 r.num, .slice Ba r.data.length fa, .slice Bb r.places.length fb] := hval 19 81 (by kernel_rfl) rfl
              replace hS : Grow w8 w5 := ⟨hS.os, hS.tape, hS.output, hS.size, hS.block⟩
              go_simp
              refine (SameRes_any r.code r.code r.num r.num _ _ _ _ _ _ _ _ _ _ _ _ w5.heap.size w5.heap.size w5.heap.size w5.heap.size r.data r.data r.places r.places w5 ((rda.below hS).mono (Below.size hS)) ((rdb.below hS).mono (Below.size hS)) ((rpa.below hS).mono (Below.size hS)) ((rpb.below hS).mono (Below.size hS)) (Nat.le_refl _) (Nat.le_refl _) (Nat.le_refl _) (Nat.le_refl _) (by omega) (by omega)).mono ?_
              rintro e w10 ⟨rfl, hb10⟩
              exact hK _ _ hb10 (bool_eq (by simp))
            refine steps_cons ?_ ?_
            · refine step_guard (d := 76) (b := false) rfl rfl rfl (by kernel_rfl) (fun _ _ _ h => h) ?_
              intro ev w5 hS hc hf hold hval a K ha hK
              have e79 : ev (.tmp 79) = .bool true := hval 17 79 (by kernel_rfl) rfl
              have e82 : ev (.tmp 82) = .bool true := hval 20 82 (by kernel_rfl) rfl
              replace hS : Grow w8 w5 := ⟨hS.os, hS.tape, hS.output, hS.size, hS.block⟩
              go_simp
              exact hK _ _ (Below.refl _ _) (bool_eq (by simp))
            refine steps_cons ?_ ?_
            · refine step_on rfl rfl ?_
              intro ev w5 hS hc hf hold hval a K ha hK
              have e76 : ev (.tmp 76) = .bool false := hval 14 76 (by kernel_rfl) rfl
              have e83 : ev (.tmp 83) = .bool false := hval 21 83 (by kernel_rfl) rfl
              replace hS : Grow w8 w5 := ⟨hS.os, hS.tape, hS.output, hS.size, hS.block⟩
              go_simp
              exact hK _ _ (Below.refl _ _) rfl
            exact steps_nil
          · intro ev w6 hS hval
            replace hS : Grow w8 w6 := ⟨hS.os, hS.tape, hS.output, hS.size, hS.block⟩
            have e84 : ev (.tmp 84) = .bool false := hval 22 84 rfl
            simp only [putsOf, List.foldl_cons, List.foldl_nil, Act.put, List.setIfInBounds_toArray, List.set_cons_zero, List.set_cons_succ]
            rw [e84]
            clear hval
            have M9 := M8.grow hS
            have X9 := X8.below hS X8.lt
            go_wp2_with fail
            go_roundw
            case rel => exact ⟨k + 1, T2, by omega, by go_num, M9, X9, hT2⟩
            case measure => simp [intOf]; omega
      · have hge : m1 ≤ k := by omega
        go_wp2_with fail
        refine (told20_any _).mono ?_
        rintro e w2 ⟨rfl, hb2⟩
        have hfin := ms_endP M hb2
        go_wp2_with fail
        go_ret
        exact ⟨rfl, hfin⟩
end Go.Proofs.Ytmebhlopmgfobaa
