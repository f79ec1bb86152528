/- The walks of bytes.Clone, slices.Grow (of nil), slices.Concat, bytes.Equal, bytes.HasPrefix, slices.Equal of ints. Conditions: sizes of at most 2^40. The walks of slices.Concat, bytes.Equal, bytes.HasPrefix, slices.Equal of ints. Conditions: sizes of at most 2^40. The walks of bytes.Equal, bytes.HasPrefix, slices.Equal of ints, and of the plain text's 'has'. No conditions. The walk of the plain text's 'splice'. Conditions: sizes of at most 2^40. The walks of the plain text's 'find' and 'Text', of model.New and of the model's Text. Conditions: sizes of at most 2^40. -/
import Derived.Test.YtnileogagoipiaaGreatDoorPkB
import Derived.Lib.AppendZeros
import Derived.Lib.LazyBuf
import Derived.BigQuiet
import Derived.Deep.QuietTactic
namespace Go.Proofs.YtnileogagoipiaaGreatDoor
open Go.RowKit
set_option linter.unusedVariables false
set_option linter.unusedSimpArgs false
theorem mo_u8_info : (Tryz.prog.info? 5).map (fun i => (i.zero, i.size, i.bytes)) = some (some (.int .u8 0), 1, 1) := by kernel_rfl
theorem mo_int_info : (Tryz.prog.info? 3).map (fun i => (i.zero, i.size, i.bytes)) = some (some (.int .i64 0), 1, 8) := by kernel_rfl

set_option maxRecDepth 100000 in
set_option maxHeartbeats 1000000 in
theorem Clone_any (A : Option Addr) (n c B : Nat) (l : List UInt8) (w : World) (hr : Rd w B 1 A n (l.map bv)) (hB : B ≤ w.heap.size) (hn : n ≤ 1099511627776) :
    Calls Tryz.prog 28 #[.slice A n c] w fun e w' => ∃ A' c', e = .returned (.slice A' n c') ∧ Made w' w.heap.size 5 1 A' n c' (l.map bv) ∧ Below w.heap.size w w' := by
  obtain ⟨i0, hi0, hz0, hz1, hz2⟩ := info_parts mo_u8_info
  have q22 : ∀ (w : World) (a : Option Addr) (n c : Nat), (binOp .eql 22 (.slice a n c) (.slice none 0 0)).run Tryz.prog w = .ok (.bool a.isNone) w := fun w a n c => Lib.run_eql_slice_nil w _ _ a n c _ _ Tryz.underlying22
  rcases A with _ | a
  · have hn0 : n = 0 := by
      rcases Nat.eq_zero_or_pos n with h | h
      · exact h
      · obtain ⟨_, _, h, _⟩ := hr.2 h
        cases h
    subst hn0
    have hl : l = [] := by
      have := hr.1
      simp only [List.length_map, Nat.zero_mul] at this
      exact List.eq_nil_of_length_eq_zero this
    subst hl
    go_enter Tryz.func28, Tryz.ntmps28
    go_wp2
    go_ret
    exact ⟨none, 0, rfl, ⟨World.ownsRow_nil _ _ _ _, Rd.nil _ _ _ _, Nat.le_refl _, Nat.zero_le _⟩, Below.refl _ _⟩
  · have Hr := Lib.hid hr
    clear hr
    go_enter Tryz.func28, Tryz.ntmps28
    go_wp2_with (at_builtin; refine wpList_append_rd _ rfl (.tmp 5) (.tmp 6) _ rfl w.heap.size 5 i0 (.int .u8 0) 1 1 Tryz.underlying22 hi0 hz0 hz1 hz2 rfl (by decide) (.slice (some ⟨w.heap.size, 0, none⟩) 0 0) 0 [] rfl (own_empty w 5 1) w.heap.size (some a) n c _ rfl ((Hr.out.mono hB).alloc (Nat.le_refl _) _) (oneCell_bv _) (by unfold maxLen; omega) (by omega) (by simp) ?_; intro v5 w5 hown5 hg5 hat5)
    have hB5 := below_grown ((Below.refl w.heap.size w).alloc (Nat.le_refl _) _) (own_empty w 5 1) hg5 (by simp)
    rw [Nat.zero_add, List.nil_append] at hown5
    obtain ⟨A', c', rfl, hm⟩ := made_of_own hown5
    go_wp2
    go_ret
    exact ⟨A', c', rfl, hm, hB5⟩
set_option maxRecDepth 100000 in
set_option maxHeartbeats 1000000 in
theorem mo_Grow_nil (n : Nat) (w : World) (hn : n ≤ 1099511627776) :
    Calls Tryz.prog 45 #[.slice none 0 0, .int .i64 (n : Int)] w fun e w' => ∃ v, e = .returned v ∧ w'.ownsRow w.heap.size 5 1 v 0 [] ∧ Below w.heap.size w w' := by
  obtain ⟨i0, hi0, hz0, hz1, hz2⟩ := info_parts mo_u8_info
  rcases Nat.eq_zero_or_pos n with h0 | h0
  · subst h0
    go_enter Tryz.func45, Tryz.ntmps45
    go_wp2
    go_ret
    exact ⟨_, rfl, World.ownsRow_nil _ _ _ _, Below.refl _ _⟩
  · have hrun := Lib.run_append_nil_zeros (P := Tryz.prog) w 22 3 22 5 i0 (.int .u8 0) .i64 .i64 Tryz.underlying22 Tryz.underlying3 hi0 hz0 n h0 (by omega) (by omega) (by rw [hz2]; omega)
    have hge := grownCap_ge w n 0 5
    have hle := grownCap_le_maxLen w n 0 5 (by unfold maxLen; omega)
    generalize grownCap w n 0 5 = cp at *
    have hsz : (Builtin.zeroCells (Value.int .u8 0).cells n ++ Builtin.zeroCells (Value.int .u8 0).cells (cp - n)).size = cp * 1 := by
      simp [Builtin.zeroCells, Value.cells]
      omega
    have Hsz := Lib.hid hsz
    have Hrun := Lib.hid hrun
    clear hsz hrun
    have hdec : ¬ ((n : Int) < 0) := by omega
    go_enter Tryz.func45, Tryz.ntmps45
    go_wp2_with (at_builtin; refine Lib.wpList_append_run _ rfl (.tmp 20) (.tmp 21) _ _ rfl _ _ rfl rfl _ _ Hrun.out ?_)
    go_ret
    exact ⟨_, rfl, World.ownsRow_made _ _ _ (Nat.le_refl _) hle Hsz.out, (Below.refl _ _).drew.alloc (Nat.le_refl _) _⟩
end Go.Proofs.YtnileogagoipiaaGreatDoor
namespace Go.Proofs.YtnileogagoipiaaGreatDoor
open Go.RowKit
set_option linter.unusedVariables false
set_option linter.unusedSimpArgs false
/-- A slice of bytes: where it lies, and its bytes. -/
structure MoSl where
  A : Option Addr
  n : Nat
  c : Nat
  l : List UInt8
def mo_sv (s : MoSl) : Value := .slice s.A s.n s.c
def mo_catS (ss : List MoSl) : List UInt8 := ss.flatMap (·.l)
theorem mo_catS_snoc (ss : List MoSl) (k : Nat) (s : MoSl) (h : ss[k]? = some s) : mo_catS (ss.take (k + 1)) = mo_catS (ss.take k) ++ s.l := by
  rw [List.take_add_one, h]
  simp [mo_catS]
theorem mo_catS_take_le (ss : List MoSl) (k : Nat) : (mo_catS (ss.take k)).length ≤ (mo_catS ss).length := by
  have : mo_catS ss = mo_catS (ss.take k) ++ mo_catS (ss.drop k) := by
    unfold mo_catS
    rw [← List.flatMap_append, List.take_append_drop]
  rw [this, List.length_append]
  omega
set_option maxRecDepth 100000 in
set_option maxHeartbeats 1000000 in
theorem mo_Concat_any (A0 : Option Addr) (m0 c0 B : Nat) (ss : List MoSl) (T : List UInt8) (N : Nat) (hT : mo_catS ss = T) (hN : T.length = N) (w : World) (hr0 : Rd w B 1 A0 m0 (ss.map mo_sv)) (hss : ∀ s ∈ ss, Rd w B 1 s.A s.n (s.l.map bv)) (hB : B ≤ w.heap.size) (hm : m0 ≤ 1099511627776) (hn : N ≤ 1099511627776) :
    Calls Tryz.prog 30 #[.slice A0 m0 c0] w fun e w' => ∃ A' c', e = .returned (.slice A' N c') ∧ Made w' w.heap.size 5 1 A' N c' (T.map bv) ∧ Below w.heap.size w w' := by
  obtain ⟨i0, hi0, hz0, hz1, hz2⟩ := info_parts mo_u8_info
  have hlen : ss.length = m0 := by simpa using hr0.1
  have hpart : ∀ k, (mo_catS (ss.take k)).length ≤ 1099511627776 := fun k => by have := mo_catS_take_le ss k; rw [hT] at this; omega
  have hrow : ∀ k s, ss[k]? = some s → s.l.length = s.n ∧ (mo_catS (ss.take (k + 1))).length = (mo_catS (ss.take k)).length + s.n := fun k s hs => by
    have h1 := (hss s (List.mem_of_getElem? hs)).1
    have h2 : s.l.length = s.n := by simpa using h1
    rw [mo_catS_snoc ss k s hs, List.length_append, h2]
    exact ⟨rfl, rfl⟩
  have Hlen := Lib.hid hlen
  have Hpart := Lib.hid hpart
  have Hrow := Lib.hid hrow
  have Hr0 := Lib.hid (hr0.mono hB)
  have Hss := Lib.hid (fun s hs => (hss s hs).mono hB)
  have HT := Lib.hid hT
  have HN := Lib.hid hN
  clear hlen hpart hrow hr0 hss hT hN
  go_enter Tryz.func30, Tryz.ntmps30
  go_wp2
  go_loopw [3, 11] (fun v i wr => ∃ k : Nat, k ≤ m0 ∧ i = .int .i64 k ∧ v = .int .i64 ((mo_catS (ss.take k)).length : Int) ∧ w = wr) (fun _ i _ => m0 - (intOf i).toNat)
  case atStart => exact ⟨0, Nat.zero_le _, rfl, by simp [mo_catS], rfl⟩
  case round =>
    obtain ⟨k, hk, rfl, rfl, rfl⟩ := hrel
    by_cases hlt : k < m0
    · obtain ⟨s, hs⟩ : ∃ s, ss[k]? = some s := ⟨ss[k]'(by have := Hlen.out; omega), List.getElem?_eq_getElem (by have := Hlen.out; omega)⟩
      obtain ⟨b, off, u, rfl, hbl, hu, hc⟩ := Hr0.out.get hlt
      rw [List.getElem?_map, hs] at hu
      simp at hu
      subst hu
      unfold mo_sv at hc
      obtain ⟨h1, h2⟩ := Hrow.out k s hs
      have h3 := Hpart.out (k + 1)
      generalize hq : (mo_catS (ss.take k)).length = q at *
      have Hnext := Lib.hid h2
      rw [h2] at h3
      clear h1 h2 hs hq
      have hneg : ¬ ((q : Int) + (s.n : Int) < 0) := by omega
      go_wp2
      go_roundw
      case rel => exact ⟨k + 1, by omega, by go_num, by rw [Hnext.out]; go_num, trivial⟩
      case measure => simp [intOf]; omega
    · have hkm : k = m0 := by omega
      have hge : m0 ≤ k := by omega
      have htk : ss.take k = ss := List.take_of_length_le (by have := Hlen.out; omega)
      rw [htk, HT.out, HN.out]
      clear hkm htk
      go_wp2_with fail
      refine (mo_Grow_nil N _ hn).mono ?_
      rintro e w1 ⟨v1, rfl, hown1, hb1⟩
      go_wp2_with fail
      go_loopw [6, 27] (fun v i wr => ∃ k : Nat, k ≤ m0 ∧ i = .int .i64 k ∧ wr.ownsRow w.heap.size 5 1 v (mo_catS (ss.take k)).length ((mo_catS (ss.take k)).map bv) ∧ Below w.heap.size w wr) (fun _ i _ => m0 - (intOf i).toNat)
      case atStart => exact ⟨0, Nat.zero_le _, rfl, hown1, hb1⟩
      case round =>
        obtain ⟨k, hk, rfl, hown, hb⟩ := hrel
        have hsz := hb.size
        by_cases hlt : k < m0
        · obtain ⟨s, hs⟩ : ∃ s, ss[k]? = some s := ⟨ss[k]'(by have := Hlen.out; omega), List.getElem?_eq_getElem (by have := Hlen.out; omega)⟩
          obtain ⟨b, off, u, rfl, hbl, hu, hc⟩ := (Hr0.out.below hb).get hlt
          rw [List.getElem?_map, hs] at hu
          simp at hu
          subst hu
          unfold mo_sv at hc
          have hrs := Lib.hid ((Hss.out s (List.mem_of_getElem? hs)).below hb)
          obtain ⟨h1, h2⟩ := Hrow.out k s hs
          have h3 := Hpart.out (k + 1)
          have hsn := Lib.hid (mo_catS_snoc ss k s hs)
          have Hnext := Lib.hid h2
          generalize hq : (mo_catS (ss.take k)).length = q at *
          rw [h2] at h3
          have Hown := Lib.hid hown
          clear h1 h2 hs hown
          go_wp2_with (at_builtin; refine wpList_append_rd _ rfl (.tmp 31) (.tmp 32) _ rfl w.heap.size 5 i0 (.int .u8 0) 1 1 Tryz.underlying22 hi0 hz0 hz1 hz2 rfl (by decide) _ q _ rfl Hown.out w.heap.size s.A s.n s.c _ rfl hrs.out (oneCell_bv _) (by unfold maxLen; omega) (by omega) hsz ?_; intro v5 w5 hown5 hg5 hat5)
          have hB5 := below_grown hb Hown.out hg5 hsz
          go_roundw
          case rel =>
            refine ⟨k + 1, by omega, by go_num, ?_, hB5⟩
            rw [Hnext.out, hsn.out, List.map_append]
            exact hown5
          case measure => simp [intOf]; omega
        · have hkm : k = m0 := by omega
          have hge : m0 ≤ k := by omega
          have htk : ss.take k = ss := List.take_of_length_le (by have := Hlen.out; omega)
          rw [htk, HT.out, HN.out] at hown
          obtain ⟨A', c', rfl, hm'⟩ := made_of_own hown
          clear hkm htk hown
          go_wp2
          go_ret
          exact ⟨A', c', rfl, hm', hb⟩
end Go.Proofs.YtnileogagoipiaaGreatDoor
namespace Go.Proofs.YtnileogagoipiaaGreatDoor
open Go.RowKit
set_option linter.unusedVariables false
set_option linter.unusedSimpArgs false
theorem mo_size_u8 : ∀ w, (sizeOf 5).run Tryz.prog w = .ok 1 w := fun w => by
  obtain ⟨i0, hi0, hz0, hz1, hz2⟩ := info_parts mo_u8_info
  simp [sizeOf, typeInfo, hi0, hz1]
/-- string(b), whatever the capacity. -/
theorem mo_strOf {w : World} {B n : Nat} {A : Option Addr} {l : List UInt8} (hr : Rd w B 1 A n (l.map bv)) : ∀ c, (convert 22 9 (.slice A n c)).run Tryz.prog w = .ok (.string ⟨l.toArray⟩) w :=
  fun c => run_str_rd (P := Tryz.prog) 22 9 5 Tryz.underlying22 Tryz.underlying5 Tryz.underlying9 hr
set_option maxRecDepth 100000 in
set_option maxHeartbeats 1000000 in
theorem BEqual_any (A1 A2 : Option Addr) (n1 c1 n2 c2 B1 B2 : Nat) (a b : List UInt8) (w : World) (h1 : Rd w B1 1 A1 n1 (a.map bv)) (h2 : Rd w B2 1 A2 n2 (b.map bv)) :
    Calls Tryz.prog 20 #[.slice A1 n1 c1, .slice A2 n2 c2] w fun e w' => e = .returned (.bool (decide (a = b))) ∧ w = w' := by
  have s1 := mo_strOf h1
  have s2 := mo_strOf h2
  clear h1 h2
  go_enter Tryz.func20, Tryz.ntmps20
  go_wp2
  go_ret
  exact ⟨ret_bool (by rw [Bool.eq_iff_iff]; simp), rfl⟩
set_option maxRecDepth 100000 in
set_option maxHeartbeats 1000000 in
theorem Prefix_any (A1 A2 : Option Addr) (n1 c1 n2 c2 B1 B2 : Nat) (a b : List UInt8) (w : World) (h1 : Rd w B1 1 A1 n1 (a.map bv)) (h2 : Rd w B2 1 A2 n2 (b.map bv)) (hnc : n1 ≤ c1) :
    Calls Tryz.prog 44 #[.slice A1 n1 c1, .slice A2 n2 c2] w fun e w' => e = .returned (.bool (b.isPrefixOf a)) ∧ w = w' := by
  have l1 : a.length = n1 := by simpa using h1.1
  have l2 : b.length = n2 := by simpa using h2.1
  by_cases hle : n2 ≤ n1
  · have hcut := run_cut_hi (P := Tryz.prog) 22 5 1 Tryz.underlying22 mo_size_u8 A1 n1 c1 n2 (by omega)
    have hr := Lib.hid (h1.cut_hi0 (k := n2) (cap := c1) hle)
    have hdec : decide ((n2 : Int) ≤ (n1 : Int)) = true := by simp; omega
    have H2 := Lib.hid h2
    have hfin : decide ((a.take n2) = b) = b.isPrefixOf a := by
      rw [Bool.eq_iff_iff]
      simp only [decide_eq_true_eq, List.isPrefixOf_iff_prefix]
      constructor
      · intro h
        rw [← h]
        exact List.take_prefix _ _
      · intro h
        rw [← l2]
        exact (List.prefix_iff_eq_take.1 h).symm
    have Hfin := Lib.hid hfin
    clear h1 h2 l1 l2 hfin
    go_enter Tryz.func44, Tryz.ntmps44
    go_wp2_with fail
    refine (BEqual_any _ _ _ _ _ _ _ _ (a.take n2) b _ (by have := hr.out; rwa [Nat.mul_one, ← List.map_take] at this) H2.out).mono ?_
    rintro e w' ⟨rfl, rfl⟩
    go_wp2
    go_ret
    exact ⟨ret_bool (by rw [← Hfin.out]), rfl⟩
  · have hdec : decide ((n2 : Int) ≤ (n1 : Int)) = false := by simp; omega
    have hfin : b.isPrefixOf a = false := by
      cases h : b.isPrefixOf a with
      | false => rfl
      | true =>
        have := (List.isPrefixOf_iff_prefix.1 h).length_le
        omega
    clear h1 h2 l1 l2
    go_enter Tryz.func44, Tryz.ntmps44
    go_wp2
    go_ret
    exact ⟨ret_bool (by simp [hfin]), rfl⟩
/-- Are there so many bytes from a place on? -/
def hasB (n : Nat) (p k : Int) : Bool := decide (0 ≤ p ∧ 0 ≤ k ∧ p ≤ (n : Int) ∧ k ≤ (n : Int) - p)
set_option maxRecDepth 100000 in
set_option maxHeartbeats 1000000 in
theorem has_any (gp : Nat) (A : Option Addr) (n c : Nat) (p k : Int) (w : World) (hc : w.cell? ⟨gp, 0, none⟩ = some (.slice A n c)) (hn : n ≤ 1099511627776) (hp : -9223372036854775808 ≤ p ∧ p ≤ 9223372036854775807) (hk : -9223372036854775808 ≤ k ∧ k ≤ 9223372036854775807) :
    Calls Tryz.prog 26 #[.pointer (some ⟨gp, 0, none⟩), .int .i64 p, .int .i64 k] w fun e w' => e = .returned (.bool (hasB n p k)) ∧ w = w' := by
  unfold hasB
  by_cases h1 : 0 ≤ p
  · by_cases h2 : 0 ≤ k
    · by_cases h3 : p ≤ (n : Int)
      · have d1 : decide (p ≥ 0) = true := by simp; omega
        have d2 : decide (k ≥ 0) = true := by simp; omega
        have d3 : decide (p ≤ (n : Int)) = true := by simp; omega
        go_enter Tryz.func26, Tryz.ntmps26
        go_wp2
        go_ret
        exact ⟨ret_bool (by simp [h1, h2, h3]), rfl⟩
      · have d1 : decide (p ≥ 0) = true := by simp; omega
        have d2 : decide (k ≥ 0) = true := by simp; omega
        have d3 : decide (p ≤ (n : Int)) = false := by simp; omega
        go_enter Tryz.func26, Tryz.ntmps26
        go_wp2
        go_ret
        exact ⟨ret_bool (by simp [h3]), rfl⟩
    · have d1 : decide (p ≥ 0) = true := by simp; omega
      have d2 : decide (k ≥ 0) = false := by simp; omega
      go_enter Tryz.func26, Tryz.ntmps26
      go_wp2
      go_ret
      exact ⟨ret_bool (by simp [h2]), rfl⟩
  · have d1 : decide (p ≥ 0) = false := by simp; omega
    go_enter Tryz.func26, Tryz.ntmps26
    go_wp2
    go_ret
    exact ⟨ret_bool (by simp [h1]), rfl⟩
end Go.Proofs.YtnileogagoipiaaGreatDoor
namespace Go.Proofs.YtnileogagoipiaaGreatDoor
open Go.RowKit
set_option linter.unusedVariables false
set_option linter.unusedSimpArgs false
/-- Block gp is a plain text whose bytes lie in memory made since B. -/
def plV (gp B N : Nat) (T : List UInt8) : Value → World → Prop := fun _ w => ∃ A c, Bk w gp 50 #[.slice A N c] ∧ Made w B 5 1 A N c (T.map bv)
theorem plV_stb (gp B N : Nat) (T : List UInt8) : Stb (plV gp B N T) := fun _ _ _ ⟨A, c, h1, h2⟩ k => ⟨A, c, Bk.below h1 k h1.lt, h2.below k⟩
theorem Rd.made3 {w : World} {g : Nat} {e : TypeId} {cs : Array Value} (h : Bk w g e cs) {n : Nat} (hn : cs.size = n := by rfl) : Rd w w.heap.size 1 (some ⟨g, 0, none⟩) n cs.toList := by
  refine ⟨by simp [hn], fun _ => ⟨g, 0, rfl, h.lt, fun i u hu => ?_⟩⟩
  rw [Nat.zero_add, h.cell i]
  rw [← hu]
  simp
theorem Rd.keepF {F : Nat → Prop} {w w' : World} {B sz n : Nat} {A : Option Addr} {xs : List Value} (h : Rd w B sz A n xs) (k : Keep F w w') (hB : B ≤ w.heap.size) (hf : 0 < n → ∀ a, A = some a → ¬ F a.block) : Rd w' w'.heap.size sz A n xs :=
  ⟨h.1, fun hn => by
    obtain ⟨b, off, e, hb, hc⟩ := h.2 hn
    exact ⟨b, off, e, by have := k.size; omega, fun j u hu => (k.cell (p := ⟨b, off + j, none⟩) (by simp only; omega) (by exact hf hn ⟨b, off, none⟩ e)).trans (hc j u hu)⟩⟩
set_option maxRecDepth 100000 in
set_option maxHeartbeats 4000000 in
theorem splice_any (gp : Nat) (A AD : Option Addr) (n c nd cd p k N B : Nat) (T D T2 : List UInt8) (w : World) (hb : Bk w gp 50 #[.slice A n c]) (hr : Rd w w.heap.size 1 A n (T.map bv)) (hne : 0 < n → ∀ a, A = some a → a.block ≠ gp)
    (hnc : n ≤ c) (hd : Rd w B 1 AD nd (D.map bv)) (hB : B ≤ w.heap.size) (hdne : 0 < nd → ∀ a, AD = some a → a.block ≠ gp) (q : Nat) (hq : p + k = q) (hpk : q ≤ n) (h2 : T.take p ++ (D ++ T.drop q) = T2) (hN : T2.length = N) (hn : n ≤ 1099511627776) (hN2 : N ≤ 1099511627776) :
    Calls Tryz.prog 27 #[.pointer (some ⟨gp, 0, none⟩), .int .i64 (p : Int), .int .i64 (k : Int), .slice AD nd cd] w fun e w' => (e = .returned (.tuple #[])) ∧ Keep (fun b => b = gp) w w' ∧ ∃ A' c', Bk w' gp 50 #[.slice A' N c'] ∧ Made w' w.heap.size 5 1 A' N c' (T2.map bv) := by
  have hgp := hb.lt
  have hcat : mo_catS [⟨cutA A c 0 1, p, c, T.take p⟩, ⟨AD, nd, cd, D⟩, ⟨cutA A c q 1, n - q, c - q, T.drop q⟩] = T2 := by
    rw [← h2]
    simp [mo_catS]
  have hss : ∀ w5, Keep (fun b => b = gp) w w5 → ∀ s ∈ ([⟨cutA A c 0 1, p, c, T.take p⟩, ⟨AD, nd, cd, D⟩, ⟨cutA A c q 1, n - q, c - q, T.drop q⟩] : List MoSl), Rd w5 w5.heap.size 1 s.A s.n (s.l.map bv) := by
    intro w5 hk s hs
    have hr5 := Rd.keepF hr hk (Nat.le_refl _) hne
    have hd5 := Rd.keepF hd hk hB hdne
    have c1 := hr5.cut_hi0 (k := p) (cap := c) (by omega)
    have c2 := hr5.cut (k := q) (cap := c) hpk hnc
    rw [Nat.mul_one, ← List.map_take] at c1
    rw [Nat.mul_one, ← List.map_drop] at c2
    rcases List.mem_cons.1 hs with rfl | hs
    · exact c1
    rcases List.mem_cons.1 hs with rfl | hs
    · exact hd5
    rcases List.mem_cons.1 hs with rfl | hs
    · exact c2
    · cases hs
  have hcut1 := run_cut_hi (P := Tryz.prog) 22 5 1 Tryz.underlying22 mo_size_u8 A n c p (by omega)
  have hcut2 := run_cut_lo (P := Tryz.prog) 22 5 1 Tryz.underlying22 mo_size_u8 A n c q hpk
  have Hss := Lib.hid hss
  have Hcat := Lib.hid hcat
  have HN := Lib.hid hN
  clear hss hcat hN h2 hr hd hne hdne
  go_enter Tryz.func27, Tryz.ntmps27
  go_wp2
  refine wp_region_any (by kernel_rfl) ?_
  refine wpAny_keep [8, 9, 10, 11, 12, 13, 14, 15, 16, 17, 18, 19, 20, 21, 22, 23, 24, 25, 26, 27] (fun b => b = gp) 20 [4, 11, 20] (fun w1 => Bk w1 gp 50 #[.slice A n c]) (plV gp w.heap.size N T2) [is (.pointer (some ⟨gp, 0, none⟩)), is (.pointer (some ⟨gp, 0, none⟩)), is (.pointer (some ⟨gp, 0, none⟩)), is (.pointer (some ⟨gp, 0, none⟩)), is (.slice A n c), is (.int .i64 (p : Int)), is (.slice (cutA A c 0 1) p c), is (.slice AD nd cd), is (.pointer (some ⟨gp, 0, none⟩)), is (.pointer (some ⟨gp, 0, none⟩)), is (.pointer (some ⟨gp, 0, none⟩)), is (.slice A n c), is (.int .i64 (p : Int)), is (.int .i64 (k : Int)), is (.int .i64 (q : Int)), is (.slice (cutA A c q 1) (n - q) (c - q)), newBk (fun b => b = gp) 22 #[.slice (cutA A c 0 1) p c, .slice AD nd cd, .slice (cutA A c q 1) (n - q) (c - q)] fun g => .slice (some ⟨g, 0, none⟩) 3 3, madeV w.heap.size 5 1 N (T2.map bv), is (.pointer (some ⟨gp, 0, none⟩)), is (.pointer (some ⟨gp, 0, none⟩)), anyV] _ _ rfl (by kernel_rfl) (by kernel_rfl) (hb) (fun w1 w2 h _ hg => Bk.below h hg h.lt) (plV_stb _ _ _ _) (by repeat' (first | exact stbk_is _ _ | exact stbk_any _ | exact stbk_newBk _ _ _ _ | exact stbk_made (fun b hb => by subst hb; exact hgp) _ _ _ _ | (refine List.forall_mem_cons.2 ⟨?_, ?_⟩) | (intro p hp; cases hp))) ?_ ?_
  · refine steps_of ?_
    refine steps_cons ?_ ?_
    · refine step_on3 rfl rfl ?_
      intro ev w5 hS hU hc hf hold hval a K ha hK
      replace hS : Keep (fun b => b = gp) w w5 := ⟨hS.os, hS.tape, hS.output, hS.size, hS.block⟩
      clear hU
      have e0 : ev (.tmp 0) = .pointer (some ⟨gp, 0, none⟩) := hold 0 (by kernel_rfl)
      go_simp
      exact hK _ _ (kstep_grow (Below.refl _ _)) rfl
    refine steps_cons ?_ ?_
    · refine step_on3 rfl rfl ?_
      intro ev w5 hS hU hc hf hold hval a K ha hK
      replace hS : Keep (fun b => b = gp) w w5 := ⟨hS.os, hS.tape, hS.output, hS.size, hS.block⟩
      clear hU
      have e0 : ev (.tmp 0) = .pointer (some ⟨gp, 0, none⟩) := hold 0 (by kernel_rfl)
      go_simp
      exact hK _ _ (kstep_grow (Below.refl _ _)) rfl
    refine steps_cons ?_ ?_
    · refine step_on3 rfl rfl ?_
      intro ev w5 hS hU hc hf hold hval a K ha hK
      replace hS : Keep (fun b => b = gp) w w5 := ⟨hS.os, hS.tape, hS.output, hS.size, hS.block⟩
      clear hU
      have e9 : ev (.tmp 9) = .pointer (some ⟨gp, 0, none⟩) := hval 1 9 (by kernel_rfl) rfl
      go_simp
      exact hK _ _ (kstep_grow (Below.refl _ _)) rfl
    refine steps_cons ?_ ?_
    · refine step_on3 rfl rfl ?_
      intro ev w5 hS hU hc hf hold hval a K ha hK
      replace hS : Keep (fun b => b = gp) w w5 := ⟨hS.os, hS.tape, hS.output, hS.size, hS.block⟩
      clear hU
      have e10 : ev (.tmp 10) = .pointer (some ⟨gp, 0, none⟩) := hval 2 10 (by kernel_rfl) rfl
      go_simp
      exact hK _ _ (kstep_grow (Below.refl _ _)) rfl
    refine steps_cons ?_ ?_
    · refine step_on3 rfl rfl ?_
      intro ev w5 hS hU hc hf hold hval a K ha hK
      replace hS : Keep (fun b => b = gp) w w5 := ⟨hS.os, hS.tape, hS.output, hS.size, hS.block⟩
      have hpre := hU rfl
      clear hU
      have e11 : ev (.tmp 11) = .pointer (some ⟨gp, 0, none⟩) := hval 3 11 (by kernel_rfl) rfl
      have c12 : w5.cell? ⟨gp, 0, none⟩ = some (.slice A n c) := (hpre.cell 0).trans rfl
      go_simp
      exact hK _ _ (kstep_grow (Below.refl _ _)) rfl
    refine steps_cons ?_ ?_
    · refine step_on3 rfl rfl ?_
      intro ev w5 hS hU hc hf hold hval a K ha hK
      replace hS : Keep (fun b => b = gp) w w5 := ⟨hS.os, hS.tape, hS.output, hS.size, hS.block⟩
      clear hU
      have e1 : ev (.tmp 1) = .int .i64 (p : Int) := hold 1 (by kernel_rfl)
      go_simp
      exact hK _ _ (kstep_grow (Below.refl _ _)) rfl
    refine steps_cons ?_ ?_
    · refine step_on3 rfl rfl ?_
      intro ev w5 hS hU hc hf hold hval a K ha hK
      replace hS : Keep (fun b => b = gp) w w5 := ⟨hS.os, hS.tape, hS.output, hS.size, hS.block⟩
      clear hU
      have e12 : ev (.tmp 12) = .slice A n c := hval 4 12 (by kernel_rfl) rfl
      have e13 : ev (.tmp 13) = .int .i64 (p : Int) := hval 5 13 (by kernel_rfl) rfl
      go_simp
      exact hK _ _ (kstep_grow (Below.refl _ _)) rfl
    refine steps_cons ?_ ?_
    · refine step_on3 rfl rfl ?_
      intro ev w5 hS hU hc hf hold hval a K ha hK
      replace hS : Keep (fun b => b = gp) w w5 := ⟨hS.os, hS.tape, hS.output, hS.size, hS.block⟩
      clear hU
      have e3 : ev (.tmp 3) = .slice AD nd cd := hold 3 (by kernel_rfl)
      go_simp
      exact hK _ _ (kstep_grow (Below.refl _ _)) rfl
    refine steps_cons ?_ ?_
    · refine step_on3 rfl rfl ?_
      intro ev w5 hS hU hc hf hold hval a K ha hK
      replace hS : Keep (fun b => b = gp) w w5 := ⟨hS.os, hS.tape, hS.output, hS.size, hS.block⟩
      clear hU
      have e0 : ev (.tmp 0) = .pointer (some ⟨gp, 0, none⟩) := hold 0 (by kernel_rfl)
      go_simp
      exact hK _ _ (kstep_grow (Below.refl _ _)) rfl
    refine steps_cons ?_ ?_
    · refine step_on3 rfl rfl ?_
      intro ev w5 hS hU hc hf hold hval a K ha hK
      replace hS : Keep (fun b => b = gp) w w5 := ⟨hS.os, hS.tape, hS.output, hS.size, hS.block⟩
      clear hU
      have e16 : ev (.tmp 16) = .pointer (some ⟨gp, 0, none⟩) := hval 8 16 (by kernel_rfl) rfl
      go_simp
      exact hK _ _ (kstep_grow (Below.refl _ _)) rfl
    refine steps_cons ?_ ?_
    · refine step_on3 rfl rfl ?_
      intro ev w5 hS hU hc hf hold hval a K ha hK
      replace hS : Keep (fun b => b = gp) w w5 := ⟨hS.os, hS.tape, hS.output, hS.size, hS.block⟩
      clear hU
      have e17 : ev (.tmp 17) = .pointer (some ⟨gp, 0, none⟩) := hval 9 17 (by kernel_rfl) rfl
      go_simp
      exact hK _ _ (kstep_grow (Below.refl _ _)) rfl
    refine steps_cons ?_ ?_
    · refine step_on3 rfl rfl ?_
      intro ev w5 hS hU hc hf hold hval a K ha hK
      replace hS : Keep (fun b => b = gp) w w5 := ⟨hS.os, hS.tape, hS.output, hS.size, hS.block⟩
      have hpre := hU rfl
      clear hU
      have e18 : ev (.tmp 18) = .pointer (some ⟨gp, 0, none⟩) := hval 10 18 (by kernel_rfl) rfl
      have c19 : w5.cell? ⟨gp, 0, none⟩ = some (.slice A n c) := (hpre.cell 0).trans rfl
      go_simp
      exact hK _ _ (kstep_grow (Below.refl _ _)) rfl
    refine steps_cons ?_ ?_
    · refine step_on3 rfl rfl ?_
      intro ev w5 hS hU hc hf hold hval a K ha hK
      replace hS : Keep (fun b => b = gp) w w5 := ⟨hS.os, hS.tape, hS.output, hS.size, hS.block⟩
      clear hU
      have e1 : ev (.tmp 1) = .int .i64 (p : Int) := hold 1 (by kernel_rfl)
      go_simp
      exact hK _ _ (kstep_grow (Below.refl _ _)) rfl
    refine steps_cons ?_ ?_
    · refine step_on3 rfl rfl ?_
      intro ev w5 hS hU hc hf hold hval a K ha hK
      replace hS : Keep (fun b => b = gp) w w5 := ⟨hS.os, hS.tape, hS.output, hS.size, hS.block⟩
      clear hU
      have e2 : ev (.tmp 2) = .int .i64 (k : Int) := hold 2 (by kernel_rfl)
      go_simp
      exact hK _ _ (kstep_grow (Below.refl _ _)) rfl
    refine steps_cons ?_ ?_
    · refine step_on3 rfl rfl ?_
      intro ev w5 hS hU hc hf hold hval a K ha hK
      replace hS : Keep (fun b => b = gp) w w5 := ⟨hS.os, hS.tape, hS.output, hS.size, hS.block⟩
      clear hU
      have e20 : ev (.tmp 20) = .int .i64 (p : Int) := hval 12 20 (by kernel_rfl) rfl
      have e21 : ev (.tmp 21) = .int .i64 (k : Int) := hval 13 21 (by kernel_rfl) rfl
      go_simp
      exact hK _ _ (kstep_grow (Below.refl _ _)) (i64_eq (by rw [IntKind.wrap_i64]; omega))
    refine steps_cons ?_ ?_
    · refine step_on3 rfl rfl ?_
      intro ev w5 hS hU hc hf hold hval a K ha hK
      replace hS : Keep (fun b => b = gp) w w5 := ⟨hS.os, hS.tape, hS.output, hS.size, hS.block⟩
      clear hU
      have e19 : ev (.tmp 19) = .slice A n c := hval 11 19 (by kernel_rfl) rfl
      have e22 : ev (.tmp 22) = .int .i64 (q : Int) := hval 14 22 (by kernel_rfl) rfl
      go_simp
      exact hK _ _ (kstep_grow (Below.refl _ _)) rfl
    refine steps_cons ?_ ?_
    · refine step_on3 rfl rfl ?_
      intro ev w5 hS hU hc hf hold hval a K ha hK
      replace hS : Keep (fun b => b = gp) w w5 := ⟨hS.os, hS.tape, hS.output, hS.size, hS.block⟩
      clear hU
      have e14 : ev (.tmp 14) = .slice (cutA A c 0 1) p c := hval 6 14 (by kernel_rfl) rfl
      have e15 : ev (.tmp 15) = .slice AD nd cd := hval 7 15 (by kernel_rfl) rfl
      have e23 : ev (.tmp 23) = .slice (cutA A c q 1) (n - q) (c - q) := hval 15 23 (by kernel_rfl) rfl
      go_simp
      exact hK _ _ (kstep_grow ((Below.refl _ _).alloc (Nat.le_refl _) _)) ⟨_, rfl, Bk.new _ _ _, fun h => by have := hS.size; have h0 : w5.heap.size = gp := h; omega⟩
    refine steps_cons ?_ ?_
    · refine step_on3 rfl rfl ?_
      intro ev w5 hS hU hc hf hold hval a K ha hK
      replace hS : Keep (fun b => b = gp) w w5 := ⟨hS.os, hS.tape, hS.output, hS.size, hS.block⟩
      clear hU
      have p24 : (newBk (fun b => b = gp) 22 #[.slice (cutA A c 0 1) p c, .slice AD nd cd, .slice (cutA A c q 1) (n - q) (c - q)] fun g => .slice (some ⟨g, 0, none⟩) 3 3) (ev (.tmp 24)) w5 := hval 16 24 (by kernel_rfl) rfl
      obtain ⟨g9, e24, hb9, hn9⟩ := p24
      have hr9 := Rd.made3 (n := 3) hb9
      have hS9 := hS
      go_simp
      refine (mo_Concat_any _ _ _ w5.heap.size [⟨cutA A c 0 1, p, c, T.take p⟩, ⟨AD, nd, cd, D⟩, ⟨cutA A c q 1, n - q, c - q, T.drop q⟩] T2 N Hcat.out HN.out w5 hr9 (Hss.out w5 hS) (Nat.le_refl _) (by omega) (by omega)).mono ?_
      rintro e w8 ⟨A9, c9, rfl, hm9, hb9⟩
      exact hK _ _ (kstep_grow hb9) ⟨A9, c9, rfl, hm9.mono hS.size⟩
    refine steps_cons ?_ ?_
    · refine step_on3 rfl rfl ?_
      intro ev w5 hS hU hc hf hold hval a K ha hK
      replace hS : Keep (fun b => b = gp) w w5 := ⟨hS.os, hS.tape, hS.output, hS.size, hS.block⟩
      clear hU
      have e8 : ev (.tmp 8) = .pointer (some ⟨gp, 0, none⟩) := hval 0 8 (by kernel_rfl) rfl
      go_simp
      exact hK _ _ (kstep_grow (Below.refl _ _)) rfl
    refine steps_cons ?_ ?_
    · refine step_on3 rfl rfl ?_
      intro ev w5 hS hU hc hf hold hval a K ha hK
      replace hS : Keep (fun b => b = gp) w w5 := ⟨hS.os, hS.tape, hS.output, hS.size, hS.block⟩
      clear hU
      have e26 : ev (.tmp 26) = .pointer (some ⟨gp, 0, none⟩) := hval 18 26 (by kernel_rfl) rfl
      go_simp
      exact hK _ _ (kstep_grow (Below.refl _ _)) rfl
    refine steps_cons ?_ ?_
    · refine step_on3 rfl rfl ?_
      intro ev w5 hS hU hc hf hold hval a K ha hK
      replace hS : Keep (fun b => b = gp) w w5 := ⟨hS.os, hS.tape, hS.output, hS.size, hS.block⟩
      have hpre := hU rfl
      clear hU
      have e27 : ev (.tmp 27) = .pointer (some ⟨gp, 0, none⟩) := hval 19 27 (by kernel_rfl) rfl
      have p25 : (madeV w.heap.size 5 1 N (T2.map bv)) (ev (.tmp 25)) w5 := hval 17 25 (by kernel_rfl) rfl
      obtain ⟨A9, c9, e25, hm9⟩ := p25
      have c20 : w5.cell? ⟨gp, 0, none⟩ = some (.slice A n c) := (hpre.cell 0).trans rfl
      have f20 := hpre.frozen 0
      go_simp
      refine hK (.bool true) _ (kstep_keep (Keep.setCell (F := fun b => b = gp) (Keep.refl _ _) (p := ⟨gp, 0, none⟩) (.inl rfl) _)) ⟨A9, c9, ?_, ?_⟩
      · exact hpre.set 0 _
      · exact hm9.keepF (Keep.setCell (F := fun b => b = gp) (Keep.refl _ _) (p := ⟨gp, 0, none⟩) (.inl rfl) _) (fun b hb => by subst hb; exact hgp)
    exact steps_nil
  · intro ev w6 hS hval hall
    replace hS : Keep (fun b => b = gp) w w6 := ⟨hS.os, hS.tape, hS.output, hS.size, hS.block⟩
    obtain ⟨vJ, pJ⟩ : ∃ v, (plV gp w.heap.size N T2) v w6 := hall 20 (by decide)
    simp only [putsOf, List.foldl_cons, List.foldl_nil, Act.put, List.setIfInBounds_toArray, List.set_cons_zero, List.set_cons_succ]
    clear hval hall
    obtain ⟨A9, c9, hb9, hm9⟩ := pJ
    go_wp2
    exact bodyPost_end (results_none rfl _ _ _) rfl ⟨rfl, hS, A9, c9, hb9, hm9⟩
end Go.Proofs.YtnileogagoipiaaGreatDoor
namespace Go.Proofs.YtnileogagoipiaaGreatDoor
open Go.RowKit
set_option linter.unusedVariables false
set_option linter.unusedSimpArgs false
/-- Where D stands in T, among the first k places. -/
def findTo (T D : List UInt8) (k : Nat) : List Nat := (List.range k).filter fun i => D.isPrefixOf (T.drop i)
def findB (T D : List UInt8) : List Nat := findTo T D (T.length + 1 - D.length)
def nv (i : Nat) : Value := iv (i : Int)
theorem findTo_yes (T D : List UInt8) (k : Nat) (h : D.isPrefixOf (T.drop k) = true) : findTo T D (k + 1) = findTo T D k ++ [k] := by
  simp [findTo, List.range_succ, List.filter_append, h]
theorem findTo_no (T D : List UInt8) (k : Nat) (h : D.isPrefixOf (T.drop k) = false) : findTo T D (k + 1) = findTo T D k := by
  simp [findTo, List.range_succ, List.filter_append, h]
theorem findTo_le (T D : List UInt8) (k : Nat) : (findTo T D k).length ≤ k := by
  have := List.length_filter_le (fun i => D.isPrefixOf (T.drop i)) (List.range k)
  rw [List.length_range] at this
  exact this
set_option maxRecDepth 100000 in
set_option maxHeartbeats 2000000 in
theorem find_any (gp : Nat) (A AD : Option Addr) (n c nd cd B1 B2 : Nat) (T D : List UInt8) (L : List Nat) (N : Nat) (w : World) (hb : Bk w gp 50 #[.slice A n c]) (hr : Rd w B1 1 A n (T.map bv)) (hB1 : B1 ≤ w.heap.size) (hnc : n ≤ c)
    (hd : Rd w B2 1 AD nd (D.map bv)) (hB2 : B2 ≤ w.heap.size) (hL : findB T D = L) (hN : L.length = N) (hn : n ≤ 1099511627776) (hnd : nd ≤ 1099511627776) :
    Calls Tryz.prog 29 #[.pointer (some ⟨gp, 0, none⟩), .slice AD nd cd] w fun e w' => ∃ A' c', e = .returned (.slice A' N c') ∧ Made w' w.heap.size 3 1 A' N c' (L.map nv) ∧ Below w.heap.size w w' := by
  obtain ⟨i0, hi0, hz0, hz1, hz2⟩ := info_parts mo_int_info
  have lT : T.length = n := by simpa using hr.1
  have lD : D.length = nd := by simpa using hd.1
  have Hr := Lib.hid (hr.mono hB1)
  have Hd := Lib.hid (hd.mono hB2)
  have hend : ∀ k : Nat, k ≤ n + 1 - nd → ¬ (k + nd ≤ n) → findTo T D k = L := fun k h1 h2 => by
    rw [← hL, findB, lT, lD]
    congr 1
    omega
  have Hend := Lib.hid hend
  have HN := Lib.hid hN
  have hbp := hb.lt
  clear hr hd hL hN hend lT lD
  go_enter Tryz.func29, Tryz.ntmps29
  go_wp2
  go_loopw [5, 6] (fun v i wr => ∃ k : Nat, k ≤ n + 1 - nd ∧ i = .int .i64 k ∧ wr.ownsRow w.heap.size 3 1 v (findTo T D k).length ((findTo T D k).map nv) ∧ Below w.heap.size w wr) (fun _ i _ => n + 1 - (intOf i).toNat)
  case atStart => exact ⟨0, Nat.zero_le _, rfl, World.ownsRow_nil _ _ _ _, Below.refl _ _⟩
  case round =>
    obtain ⟨k, hk, rfl, hown, hbw⟩ := hrel
    have hsz := hbw.size
    have hbk := (hb.below hbw hbp)
    have c0 : wr.cell? ⟨gp, 0, none⟩ = some (.slice A n c) := (hbk.cell 0).trans rfl
    by_cases hlt : k + nd ≤ n
    · have hr5 := Hr.out.below hbw
      have hcut := run_cut_lo (P := Tryz.prog) 22 5 1 Tryz.underlying22 mo_size_u8 A n c k (by omega)
      have c2 := hr5.cut (k := k) (cap := c) (by omega) hnc
      rw [Nat.mul_one, ← List.map_drop] at c2
      have Hc2 := Lib.hid c2
      have Hd5 := Lib.hid (Hd.out.below hbw)
      have hle := findTo_le T D k
      have hdec : decide ((k : Int) + (nd : Int) ≤ (n : Int)) = true := by simp; omega
      have Hbk := Lib.hid hbk
      have Hown := Lib.hid hown
      clear hr5 c2 hown hbk
      cases hp : D.isPrefixOf (T.drop k) with
      | true =>
        have hnx := findTo_yes T D k hp
        have Hnx := Lib.hid hnx
        obtain ⟨q, hq⟩ : ∃ q, (findTo T D k).length = q := ⟨_, rfl⟩
        rw [hq] at hle Hown
        have Hq := Lib.hid hq
        clear hnx hq
        go_wp2_with fail
        refine (Prefix_any _ _ _ _ _ _ _ _ (T.drop k) D _ Hc2.out Hd5.out (by omega)).mono ?_
        rintro e w' ⟨rfl, rfl⟩
        rw [hp]
        go_wp2_with (at_builtin; refine wpList_push _ rfl (.tmp 27) (.tmp 29) _ rfl w.heap.size 3 i0 (.int .i64 0) 1 8 Tryz.underlying39 hi0 hz0 hz1 hz2 rfl (by decide) _ q _ rfl Hown.out rfl rfl (by simp [Value.oneCell']) (by unfold maxLen; omega) (by omega) hsz ?_; intro v2 w2 hown2 hg2 hs2 hat2)
        have hb2 := below_grown hbw Hown.out hg2 hsz
        clear hg2 hat2
        go_roundw
        case rel =>
          refine ⟨k + 1, by omega, by go_num, ?_, hb2⟩
          rw [Hnx.out, List.length_append, Hq.out, List.map_append]
          exact hown2
        case measure => simp [intOf]; omega
      | false =>
        have hnx := findTo_no T D k hp
        have Hnx := Lib.hid hnx
        clear hnx hle
        go_wp2_with fail
        refine (Prefix_any _ _ _ _ _ _ _ _ (T.drop k) D _ Hc2.out Hd5.out (by omega)).mono ?_
        rintro e w' ⟨rfl, rfl⟩
        rw [hp]
        go_wp2
        go_roundw
        case rel =>
          refine ⟨k + 1, by omega, by go_num, ?_, hbw⟩
          rw [Hnx.out]
          exact Hown.out
        case measure => simp [intOf]; omega
    · have hdec : decide ((k : Int) + (nd : Int) ≤ (n : Int)) = false := by simp; omega
      rw [Hend.out k hk hlt, HN.out] at hown
      obtain ⟨A', c', rfl, hm⟩ := made_of_own hown
      clear hown hbk
      go_wp2
      go_ret
      exact ⟨A', c', rfl, hm, hbw⟩
set_option maxRecDepth 100000 in
theorem pText_any (gp : Nat) (A : Option Addr) (n c B : Nat) (T : List UInt8) (w : World) (hb : Bk w gp 50 #[.slice A n c]) (hr : Rd w B 1 A n (T.map bv)) (hB : B ≤ w.heap.size) (hn : n ≤ 1099511627776) :
    Calls Tryz.prog 22 #[.pointer (some ⟨gp, 0, none⟩)] w fun e w' => ∃ A' c', e = .returned (.slice A' n c') ∧ Made w' w.heap.size 5 1 A' n c' (T.map bv) ∧ Below w.heap.size w w' := by
  have Hr := Lib.hid hr
  have c0 : w.cell? ⟨gp, 0, none⟩ = some (.slice A n c) := (hb.cell 0).trans rfl
  clear hr
  go_enter Tryz.func22, Tryz.ntmps22
  go_wp2_with fail
  refine (Clone_any _ _ _ _ T _ Hr.out hB hn).mono ?_
  rintro e w' ⟨A', c', rfl, hm, hb'⟩
  go_wp2_with fail
  go_ret
  exact ⟨A', c', rfl, hm, hb'⟩
set_option maxRecDepth 100000 in
theorem mText_any (g gp : Nat) (A : Option Addr) (n c B : Nat) (T : List UInt8) (most : Int) (w : World) (hg : Bk w g 52 #[.pointer (some ⟨gp, 0, none⟩), .int .i64 most]) (hb : Bk w gp 50 #[.slice A n c]) (hr : Rd w B 1 A n (T.map bv)) (hB : B ≤ w.heap.size) (hn : n ≤ 1099511627776) :
    Calls Tryz.prog 14 #[.pointer (some ⟨g, 0, none⟩)] w fun e w' => ∃ A' c', e = .returned (.slice A' n c') ∧ Made w' w.heap.size 5 1 A' n c' (T.map bv) ∧ Below w.heap.size w w' := by
  have Hr := Lib.hid hr
  have c0 : w.cell? ⟨g, 0, none⟩ = some (.pointer (some ⟨gp, 0, none⟩)) := (hg.cell 0).trans rfl
  clear hr
  go_enter Tryz.func14, Tryz.ntmps14
  go_wp2_with fail
  refine (pText_any _ _ _ _ _ T _ hb Hr.out hB hn).mono ?_
  rintro e w' ⟨A', c', rfl, hm, hb'⟩
  go_wp2_with fail
  go_ret
  exact ⟨A', c', rfl, hm, hb'⟩
set_option maxRecDepth 100000 in
theorem New_bad (most : Int) (w : World) (h : most < 0 ∨ 2147483648 < most) :
    Calls Tryz.prog 11 #[.int .i64 most] w fun e w' => e = .returned (.tuple #[.pointer none, .int .i64 1]) ∧ w = w' := by
  by_cases h0 : most < 0
  · go_enter Tryz.func11, Tryz.ntmps11
    go_wp2
    go_ret2
    exact ⟨rfl, rfl⟩
  · have h1 : most > 2147483648 := by omega
    go_enter Tryz.func11, Tryz.ntmps11
    go_wp2
    go_ret2
    exact ⟨rfl, rfl⟩
/-- What model.New tells of a right most: a model of no text. -/
def NewTold (most : Int) (w w' : World) (e : Ending) : Prop := ∃ g gp, e = .returned (.tuple #[.pointer (some ⟨g, 0, none⟩), .int .i64 0]) ∧ Below w.heap.size w w' ∧ w.heap.size ≤ g ∧ w.heap.size ≤ gp ∧ g ≠ gp ∧
      Bk w' g 52 #[.pointer (some ⟨gp, 0, none⟩), .int .i64 most] ∧ Bk w' gp 50 #[.slice none 0 0]
set_option maxRecDepth 100000 in
theorem New_ok (most : Int) (w : World) (h0 : 0 ≤ most) (h1 : most ≤ 2147483648) :
    Calls Tryz.prog 11 #[.int .i64 most] w fun e w' => NewTold most w w' e := by
  have t0 : ¬ (most < 0) := by omega
  have t1 : ¬ (most > 2147483648) := by omega
  go_enter Tryz.func11, Tryz.ntmps11
  go_wp2
  go_ret2
  exact ⟨w.heap.size + 1, w.heap.size, rfl, ((Below.refl _ _).alloc (Nat.le_refl _) _).alloc (by simp) _, by omega, Nat.le_refl _, by omega, by simpa using Bk.new (w.alloc (.cells #[.slice none 0 0] 50)) 52 #[.pointer (some ⟨w.heap.size, 0, none⟩), .int .i64 most], (Bk.new _ _ _).alloc _⟩
end Go.Proofs.YtnileogagoipiaaGreatDoor
