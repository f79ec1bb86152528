/- The walks of math/bits.Mul64, Mul and bytes.Repeat of one byte. Conditions: at most three times. Steps out of bytes (plain Lean). No conditions. The walk of script.step. No conditions. The walk of script.All. No conditions. -/
import Derived.Test.YtnileogagoipiaaGreatDoorPkW
import Derived.Test.YtnileogagoipiaaGreatDoorPkB
import Derived.Lib.SlBuf
import Derived.Lib.MakeNoZero
import Derived.Lib.MinMax
import Derived.Laws.AppendOwn
import Derived.Test.YtnileogagoipiaaGreatDoorPkE
namespace Go.Proofs.YtnileogagoipiaaGreatDoor
open Go.RowKit
set_option linter.unusedVariables false
set_option linter.unusedSimpArgs false
theorem Mul64_any (k : Nat) (hk : k ≤ 3) (w : World) : Calls Tryz.prog 73 #[.int .u64 1, .int .u64 (k : Int)] w fun e w' => e = .returned (.tuple #[.int .u64 0, .int .u64 (k : Int)]) ∧ w = w' := by
  obtain rfl | rfl | rfl | rfl : k = 0 ∨ k = 1 ∨ k = 2 ∨ k = 3 := by omega
  all_goals
    go_enter Tryz.func73, Tryz.ntmps73
    go_wp2_with fail
    go_ret2
    exact ⟨rfl, rfl⟩
theorem Mul_any (k : Nat) (hk : k ≤ 3) (w : World) : Calls Tryz.prog 42 #[.int .u64 1, .int .u64 (k : Int)] w fun e w' => e = .returned (.tuple #[.int .u64 0, .int .u64 (k : Int)]) ∧ w = w' := by
  go_enter Tryz.func42, Tryz.ntmps42
  go_wp2_with fail
  refine (Mul64_any k hk _).mono ?_
  rintro e w1 ⟨rfl, rfl⟩
  go_wp2_with fail
  go_ret2
  exact ⟨rfl, rfl⟩
/-- Bytes that lie in a block of bytes made since B. -/
def DataAt (w : World) (B : Nat) (A : Option Addr) (n c : Nat) (D : List UInt8) : Prop :=
  D.length = n ∧ n ≤ c ∧ c ≤ maxLen ∧ ((A = none ∧ n = 0 ∧ c = 0) ∨ ∃ g cs, A = some ⟨g, 0, none⟩ ∧ B ≤ g ∧ Bk w g 5 cs ∧ n ≤ cs.size ∧ cs.toList.take n = D.map bv)
theorem DataAt.rd {w : World} {B : Nat} {A : Option Addr} {n c : Nat} {D : List UInt8} (h : DataAt w B A n c D) : Rd w w.heap.size 1 A n (D.map bv) := by
  obtain ⟨h1, h2, h3, ⟨rfl, rfl, rfl⟩ | ⟨g, cs, rfl, hg, hb, hn, ht⟩⟩ := h
  · obtain rfl : D = [] := List.eq_nil_of_length_eq_zero h1
    exact Rd.nil _ _ _ _
  · refine ⟨by simp [h1], fun _ => ⟨g, 0, rfl, hb.lt, fun j u hu => ?_⟩⟩
    rw [Nat.zero_add, hb.cell]
    rw [← ht, List.getElem?_take] at hu
    split at hu
    · simpa using hu
    · cases hu
theorem DataAt.of_own {w : World} {B : Nat} {A : Option Addr} {n c : Nat} {D : List UInt8} (h : w.ownsRow B 5 1 (.slice A n c) n (D.map bv)) : DataAt w B A n c D := by
  have hl : D.length = n := by simpa using h.1
  rcases h.2 with ⟨h1, h2⟩ | ⟨g, cap, cur, h1, h2, h3, h4, h5, h6, h7⟩
  · cases h1
    exact ⟨hl, Nat.le_refl _, Nat.zero_le _, .inl ⟨rfl, rfl, rfl⟩⟩
  · cases h1
    exact ⟨hl, h4, h5, .inr ⟨g, cur, rfl, h2, h3, by omega, by simpa using h7⟩⟩
theorem DataAt.keep {w w' : World} {B : Nat} {A : Option Addr} {n c : Nat} {D : List UInt8} (h : DataAt w B A n c D) (k : ∀ g cs, B ≤ g → Bk w g 5 cs → Bk w' g 5 cs) : DataAt w' B A n c D := by
  obtain ⟨h1, h2, h3, h4 | ⟨g, cs, rfl, hg, hb, hn, ht⟩⟩ := h
  · exact ⟨h1, h2, h3, .inl h4⟩
  · exact ⟨h1, h2, h3, .inr ⟨g, cs, rfl, hg, k g cs hg hb, hn, ht⟩⟩
theorem DataAt.below {w w' : World} {B : Nat} {A : Option Addr} {n c : Nat} {D : List UInt8} (h : DataAt w B A n c D) (k : Below w.heap.size w w') : DataAt w' B A n c D := h.keep fun g cs _ hb => hb.below k hb.lt
theorem DataAt.mono {w : World} {B B' : Nat} {A : Option Addr} {n c : Nat} {D : List UInt8} (h : DataAt w B A n c D) (k : B' ≤ B) : DataAt w B' A n c D := by
  obtain ⟨h1, h2, h3, h4 | ⟨g, cs, rfl, hg, hb, hn, ht⟩⟩ := h
  · exact ⟨h1, h2, h3, .inl h4⟩
  · exact ⟨h1, h2, h3, .inr ⟨g, cs, rfl, by omega, hb, hn, ht⟩⟩
theorem copy1 {w : World} {g i m1 c1 m2 c2 b o : Nat} {cs : Array Value} {u : Value} (ty : TypeId) (hb : Bk w g 5 cs) (hi : i < cs.size) (hu : w.cell? ⟨b, o, none⟩ = some u) (h1 : u.oneCell' = true) (hm : Nat.min m2 m1 = 1) :
    ∃ w' cs', (Builtin.copy_ #[22, 22] ty #[.slice (some ⟨g, i, none⟩) m1 c1, .slice (some ⟨b, o, none⟩) m2 c2]).run Tryz.prog w = .ok (.int .i64 1) w' ∧ Bk w' g 5 cs' ∧ cs'.size = cs.size ∧ cs'.toList.take (i + 1) = cs.toList.take i ++ [u] ∧ Keep (fun b => b = g) w w' := by
  have hr := run_copy_row (P := Tryz.prog) w 22 22 ty 5 g i m1 c1 ⟨b, o, none⟩ m2 c2 cs 5 [u] Tryz.underlying22 (by kernel_rfl) hb hm.symm (fun j v hj => by
    rcases j with _ | j
    · cases hj
      rw [add_lit, Nat.add_zero]
      exact hu
    · cases hj) (by show i + 1 ≤ cs.size; omega) (fun v hv => by rw [List.mem_singleton.1 hv]; exact h1)
  refine ⟨_, _, hr, setRow_heap _ _ _ _ _ _ hb, ?_, ?_, ⟨rfl, rfl, rfl, by simp, fun j _ hj => setRow_other _ _ _ _ hj⟩⟩
  · simp
    omega
  · simp only [List.append_assoc, List.cons_append, List.nil_append, List.singleton_append]
    have hl : (cs.toList.take i).length = i := by simp; omega
    rw [List.take_append, hl, List.take_of_length_le (by omega), show i + 1 - i = 1 by omega]
    rfl
/-- What the copying of one byte leaves. -/
def repV (g k j : Nat) (x : UInt8) : Value → World → Prop := fun v w => v = .int .i64 1 ∧ ∃ cs, Bk w g 5 cs ∧ k ≤ cs.size ∧ cs.toList.take j = List.replicate j (bv x)
theorem repV_stb (g k j : Nat) (x : UInt8) : Stb (repV g k j x) := fun _ _ _ ⟨h1, cs, h2, h3⟩ hg => ⟨h1, cs, h2.below hg h2.lt, h3⟩
def RepPost (w : World) (k : Nat) (x : UInt8) (e : Ending) (w' : World) : Prop := ∃ g cs, e = .returned (.slice (some ⟨g, 0, none⟩) k k) ∧ w.heap.size ≤ g ∧ Bk w' g 5 cs ∧ k ≤ cs.size ∧ cs.toList.take k = (List.replicate k x).map bv ∧ Below w.heap.size w w'
theorem Rep_zero (A : Option Addr) (m c : Nat) (x : UInt8) (w : World) : Calls Tryz.prog 25 #[.slice A m c, .int .i64 0] w (RepPost w 0 x) := by
  unfold RepPost
  go_enter Tryz.func25, Tryz.ntmps25
  go_wp2_with fail
  go_ret
  exact ⟨_, #[], rfl, Nat.le_refl _, Bk.new _ _ _, Nat.zero_le _, rfl, (Below.refl _ _).alloc (Nat.le_refl _) _⟩
set_option maxRecDepth 100000 in
theorem Rep_one (g0 o0 c : Nat) (x : UInt8) (k : Nat) (hk0 : 0 < k) (hk : k ≤ 3) (w : World) (hc : w.cell? ⟨g0, o0, none⟩ = some (bv x)) : Calls Tryz.prog 25 #[.slice (some ⟨g0, o0, none⟩) 1 c, .int .i64 (k : Int)] w (RepPost w k x) := by
  have hmul := Mul_any k hk
  obtain ⟨cs, hrunM, hle, _⟩ := Lib.run_makeNoZero (P := Tryz.prog) w #[3] 22 5 Tryz.underlying22 k (by omega)
  have hcall : (callFunc 43 #[.int .i64 (k : Int)]).run Tryz.prog w = .ok (.value (.slice (some ⟨w.heap.size, 0, none⟩) k cs.size)) ((w.alloc (.cells cs 5)).drewN 2) := by
    rw [run_callFunc_extern Tryz.func43 (by kernel_rfl) (by kernel_rfl) (by kernel_rfl) (e := Extern.BytealgMakeNoZero.makeNoZero #[3] #[22]) (by kernel_rfl), hrunM]
    rfl
  clear hrunM
  have hlt0 : g0 < w.heap.size := World.block_lt_of_cell? w _ hc
  have hb1 : Bk ((w.alloc (.cells cs 5)).drewN 2) w.heap.size 5 cs := (Bk.new w _ _).drewN 2
  have hk1 : Below w.heap.size w ((w.alloc (.cells cs 5)).drewN 2) := by
    have h := (Below.refl w.heap.size w).alloc (Nat.le_refl _) (.cells cs 5)
    exact ⟨h.os, h.tape, h.output, h.size, h.block⟩
  have hc1 := (hk1.cell hlt0).trans hc
  obtain ⟨w2, cs2, hr2, hb2, hs2, ht2, hk2⟩ := copy1 (m1 := k) (c1 := k) (m2 := 1) (c2 := c) 3 hb1 (show 0 < cs.size by omega) hc1 rfl (by show min 1 k = 1; omega)
  have hbel2 : Below w.heap.size w w2 := hk1.trans (hk2.to_below (B := w.heap.size) (by simp) (fun b hb h => by omega))
  have Hb2 := Lib.hid hb2
  have Ht2 := Lib.hid ht2
  have Hbel2 := Lib.hid hbel2
  have i0 : (0 : Int) ≤ (k : Int) := by omega
  have i1 : (k : Int) ≤ (cs.size : Int) := by omega
  have i2 : ¬ ((k : Int) > 8192) := by omega
  clear hb1 hk1 hc1 hb2 ht2 hk2 hbel2
  unfold RepPost
  go_enter Tryz.func25, Tryz.ntmps25
  go_wp2_with fail
  refine (hmul _).mono ?_
  rintro e w1 ⟨rfl, rfl⟩
  go_wp2_with (at_builtin; refine Lib.wpList_copy_run _ rfl _ _ 22 22 rfl _ _ rfl rfl hr2 ?_)
  go_loopw [10, 11] (fun i ch wr => ∃ (j : Nat) (cs3 : Array Value), 1 ≤ j ∧ j ≤ k ∧ i = .int .i64 (j : Int) ∧ Bk wr w.heap.size 5 cs3 ∧ k ≤ cs3.size ∧ cs3.toList.take j = List.replicate j (bv x) ∧ Below w.heap.size w wr) (fun i _ _ => k - (intOf i).toNat)
  case atStart => exact ⟨1, cs2, Nat.le_refl _, hk0, rfl, Hb2.out, by omega, by rw [Ht2.out]; rfl, Hbel2.out⟩
  case round =>
    obtain ⟨j, cs3, hj1, hjk, rfl, hb3, hs3, ht3, hbel3⟩ := hrel
    have Hb3 := Lib.hid hb3
    have Ht3 := Lib.hid ht3
    have Hbel3 := Lib.hid hbel3
    clear hb3 ht3 hbel3 Hb2 Ht2 Hbel2
    by_cases hlt : j < k
    · go_wp2_with fail
      have hmin : min (j : Int) (k : Int) = (j : Int) := by omega
      have hsrc : ∀ W, Bk W w.heap.size 5 cs3 → W.cell? ⟨w.heap.size, 0, none⟩ = some (bv x) := fun W hb => by
        have h2 : (cs3.toList.take j)[0]? = some (bv x) := by
          rw [Ht3.out]
          cases j with
          | zero => omega
          | succ j => rfl
        rw [List.getElem?_take, if_pos (by omega)] at h2
        rw [hb.cell]
        simpa using h2
      rw [hmin]
      refine wp_region_any (by kernel_rfl) ?_
      refine wpAny_keep [67, 68, 69, 70, 71, 72, 73, 74, 75, 10] (fun b => b = w.heap.size) 7 [7] (fun w1 => Bk w1 w.heap.size 5 cs3) (repV w.heap.size k (j + 1) x) [is (.int .i64 (j : Int)), is (.slice (some ⟨w.heap.size, 0, none⟩) k k), is (.int .i64 (j : Int)), is (.slice (some ⟨w.heap.size, j, none⟩) (k - j) (k - j)), is (.slice (some ⟨w.heap.size, 0, none⟩) k k), is (.int .i64 (j : Int)), is (.slice (some ⟨w.heap.size, 0, none⟩) j k), anyV, is (.int .i64 ((j + 1 : Nat) : Int)), is (.int .i64 ((j + 1 : Nat) : Int))] _ _ rfl (by kernel_rfl) (by kernel_rfl) (Hb3.out) (fun w1 w2 h _ hg => Bk.below h hg h.lt) (repV_stb _ _ _ _) (by repeat' (first | exact stbk_is _ _ | exact stbk_any _ | (refine List.forall_mem_cons.2 ⟨?_, ?_⟩) | (intro p hp; cases hp))) ?_ ?_
      · refine steps_of ?_
        refine steps_cons ?_ ?_
        · refine step_on3 rfl rfl ?_
          intro ev w5 hS hU hc hf hold hval a K ha hK
          replace hS : Keep (fun b => b = w.heap.size) wr w5 := ⟨hS.os, hS.tape, hS.output, hS.size, hS.block⟩
          clear hU
          have e10 : ev (.tmp 10) = .int .i64 (j : Int) := hold 10 (by kernel_rfl)
          go_simp
          exact hK _ _ (kstep_grow (Below.refl _ _)) rfl
        refine steps_cons ?_ ?_
        · refine step_on3 rfl rfl ?_
          intro ev w5 hS hU hc hf hold hval a K ha hK
          replace hS : Keep (fun b => b = w.heap.size) wr w5 := ⟨hS.os, hS.tape, hS.output, hS.size, hS.block⟩
          clear hU
          have e9 : ev (.tmp 9) = .slice (some ⟨w.heap.size, 0, none⟩) k k := hold 9 (by kernel_rfl)
          go_simp
          exact hK _ _ (kstep_grow (Below.refl _ _)) rfl
        refine steps_cons ?_ ?_
        · refine step_on3 rfl rfl ?_
          intro ev w5 hS hU hc hf hold hval a K ha hK
          replace hS : Keep (fun b => b = w.heap.size) wr w5 := ⟨hS.os, hS.tape, hS.output, hS.size, hS.block⟩
          clear hU
          have e10 : ev (.tmp 10) = .int .i64 (j : Int) := hold 10 (by kernel_rfl)
          go_simp
          exact hK _ _ (kstep_grow (Below.refl _ _)) rfl
        refine steps_cons ?_ ?_
        · refine step_on3 rfl rfl ?_
          intro ev w5 hS hU hc hf hold hval a K ha hK
          replace hS : Keep (fun b => b = w.heap.size) wr w5 := ⟨hS.os, hS.tape, hS.output, hS.size, hS.block⟩
          clear hU
          have e68 : ev (.tmp 68) = .slice (some ⟨w.heap.size, 0, none⟩) k k := hval 1 68 (by kernel_rfl) rfl
          have e69 : ev (.tmp 69) = .int .i64 (j : Int) := hval 2 69 (by kernel_rfl) rfl
          go_simp
          exact hK _ _ (kstep_grow (Below.refl _ _)) (by show _ = _; rw [if_neg (by omega)])
        refine steps_cons ?_ ?_
        · refine step_on3 rfl rfl ?_
          intro ev w5 hS hU hc hf hold hval a K ha hK
          replace hS : Keep (fun b => b = w.heap.size) wr w5 := ⟨hS.os, hS.tape, hS.output, hS.size, hS.block⟩
          clear hU
          have e9 : ev (.tmp 9) = .slice (some ⟨w.heap.size, 0, none⟩) k k := hold 9 (by kernel_rfl)
          go_simp
          exact hK _ _ (kstep_grow (Below.refl _ _)) rfl
        refine steps_cons ?_ ?_
        · refine step_on3 rfl rfl ?_
          intro ev w5 hS hU hc hf hold hval a K ha hK
          replace hS : Keep (fun b => b = w.heap.size) wr w5 := ⟨hS.os, hS.tape, hS.output, hS.size, hS.block⟩
          clear hU
          have e11 : ev (.tmp 11) = .int .i64 (j : Int) := hold 11 (by kernel_rfl)
          go_simp
          exact hK _ _ (kstep_grow (Below.refl _ _)) rfl
        refine steps_cons ?_ ?_
        · refine step_on3 rfl rfl ?_
          intro ev w5 hS hU hc hf hold hval a K ha hK
          replace hS : Keep (fun b => b = w.heap.size) wr w5 := ⟨hS.os, hS.tape, hS.output, hS.size, hS.block⟩
          clear hU
          have e71 : ev (.tmp 71) = .slice (some ⟨w.heap.size, 0, none⟩) k k := hval 4 71 (by kernel_rfl) rfl
          have e72 : ev (.tmp 72) = .int .i64 (j : Int) := hval 5 72 (by kernel_rfl) rfl
          go_simp
          exact hK _ _ (kstep_grow (Below.refl _ _)) rfl
        refine steps_cons ?_ ?_
        · refine step_on3 rfl rfl ?_
          intro ev w5 hS hU hc hf hold hval a K ha hK
          replace hS : Keep (fun b => b = w.heap.size) wr w5 := ⟨hS.os, hS.tape, hS.output, hS.size, hS.block⟩
          have hpre := hU rfl
          clear hU
          have e70 : ev (.tmp 70) = .slice (some ⟨w.heap.size, j, none⟩) (k - j) (k - j) := hval 3 70 (by kernel_rfl) rfl
          have e73 : ev (.tmp 73) = .slice (some ⟨w.heap.size, 0, none⟩) j k := hval 6 73 (by kernel_rfl) rfl
          subst ha
          obtain ⟨w9, cs9, hr9, hb9, hs9, ht9, hk9⟩ := copy1 (m1 := k - j) (c1 := k - j) (m2 := j) (c2 := k) 3 hpre (show j < cs3.size by omega) (hsrc _ hpre) rfl (by show min j (k - j) = 1; omega)
          refine Lib.wp_copy_run w5 (.tmp 70) (.tmp 73) _ _ rfl _ _ e70 e73 hr9 ?_
          refine hK _ _ (kstep_keep hk9) ⟨rfl, cs9, hb9, by omega, ?_⟩
          rw [ht9, Ht3.out, List.replicate_succ']
        refine steps_cons ?_ ?_
        · refine step_on3 rfl rfl ?_
          intro ev w5 hS hU hc hf hold hval a K ha hK
          replace hS : Keep (fun b => b = w.heap.size) wr w5 := ⟨hS.os, hS.tape, hS.output, hS.size, hS.block⟩
          clear hU
          have e67 : ev (.tmp 67) = .int .i64 (j : Int) := hval 0 67 (by kernel_rfl) rfl
          have p74 : (repV w.heap.size k (j + 1) x) (ev (.tmp 74)) w5 := hval 7 74 (by kernel_rfl) rfl
          have e74 : ev (.tmp 74) = .int .i64 1 := p74.1
          go_simp
          exact hK _ _ (kstep_grow (Below.refl _ _)) (i64_eq (by rw [IntKind.wrap_i64] <;> omega))
        refine steps_cons ?_ ?_
        · refine step_on3 rfl rfl ?_
          intro ev w5 hS hU hc hf hold hval a K ha hK
          replace hS : Keep (fun b => b = w.heap.size) wr w5 := ⟨hS.os, hS.tape, hS.output, hS.size, hS.block⟩
          clear hU
          have e75 : ev (.tmp 75) = .int .i64 ((j + 1 : Nat) : Int) := hval 8 75 (by kernel_rfl) rfl
          go_simp
          exact hK _ _ (kstep_grow (Below.refl _ _)) rfl
        exact steps_nil
      · intro ev w6 hS hval hall
        replace hS : Keep (fun b => b = w.heap.size) wr w6 := ⟨hS.os, hS.tape, hS.output, hS.size, hS.block⟩
        have e10 : ev (.tmp 10) = .int .i64 ((j + 1 : Nat) : Int) := hval 9 10 rfl
        obtain ⟨vJ, pJ⟩ : ∃ vJ0, (repV w.heap.size k (j + 1) x) vJ0 w6 := hall 7 (by decide)
        simp only [putsOf, List.foldl_cons, List.foldl_nil, Act.put, List.setIfInBounds_toArray, List.set_cons_zero, List.set_cons_succ]
        rw [e10]
        clear hval hall
        obtain ⟨_, cs9, hb9, hs9, ht9⟩ := pJ
        have hbel9 : Below w.heap.size w w6 := Hbel3.out.trans (hS.to_below Hbel3.out.size (fun b hb h => by omega))
        go_wp2
        go_roundw
        case rel => exact ⟨j + 1, cs9, by omega, by omega, rfl, hb9, hs9, ht9, hbel9⟩
        case measure => simp [intOf]; omega
    · obtain rfl : j = k := by omega
      go_wp2_with fail
      go_ret
      exact ⟨_, cs3, rfl, Nat.le_refl _, Hb3.out, hs3, by rw [Ht3.out, List.map_replicate], Hbel3.out⟩
theorem Rep_any (g0 o0 c : Nat) (x : UInt8) (k : Nat) (hk : k ≤ 3) (w : World) (hc : w.cell? ⟨g0, o0, none⟩ = some (bv x)) : Calls Tryz.prog 25 #[.slice (some ⟨g0, o0, none⟩) 1 c, .int .i64 (k : Int)] w (RepPost w k x) := by
  rcases Nat.eq_zero_or_pos k with h | h
  · subst h; exact Rep_zero _ _ _ _ _
  · exact Rep_one g0 o0 c x k h hk w hc
end Go.Proofs.YtnileogagoipiaaGreatDoor
namespace Go.Proofs.YtnileogagoipiaaGreatDoor
set_option linter.unusedVariables false
set_option linter.unusedSimpArgs false
/-- A step: kind, place, number, bytes. -/
structure Sp where
  kind : Int
  p : Int
  k : Int
  D : List UInt8
def spK (k : UInt8) : Int := ((k.toNat % 8 + 1 : Nat) : Int)
def spP (k x : UInt8) : Int := if 248 ≤ k.toNat then (x.toNat : Int) - 128 else ((x.toNat % 32 : Nat) : Int)
def spN (k y : UInt8) : Int := if 248 ≤ k.toNat then (y.toNat : Int) - 128 else ((y.toNat % 8 : Nat) : Int)
def hasD (k : UInt8) : Bool := decide (k.toNat % 8 = 0) || decide (k.toNat % 8 = 2) || decide (k.toNat % 8 = 5) || decide (k.toNat % 8 = 6)
def letC (x : UInt8) : UInt8 := 97 + x % 3
def letD (k x y : UInt8) : List UInt8 := List.replicate (y.toNat % 4) (letC x) ++ if 128 ≤ k.toNat then [98] else []
def spD (k x y : UInt8) : List UInt8 := if hasD k = true then letD k x y else []
def spOf (k x y : UInt8) : Sp := ⟨spK k, spP k x, spN k y, spD k x y⟩
def spAt (l : List UInt8) (j : Nat) : Sp := spOf (l.getD (3 * j) 0) (l.getD (3 * j + 1) 0) (l.getD (3 * j + 2) 0)
theorem letC_nat (x : UInt8) : (letC x).toNat = 97 + x.toNat % 3 := by
  unfold letC
  rw [UInt8.toNat_add, UInt8.toNat_mod]
  have : (3 : UInt8).toNat = 3 := rfl
  have h97 : (97 : UInt8).toNat = 97 := rfl
  rw [this, h97]
  have := Nat.mod_lt x.toNat (by decide : 0 < 3)
  omega
theorem letD_len (k x y : UInt8) : (letD k x y).length ≤ 4 := by
  unfold letD
  have := Nat.mod_lt y.toNat (by decide : 0 < 4)
  split <;> simp <;> omega
theorem spD_len (k x y : UInt8) : (spD k x y).length ≤ 4 := by
  unfold spD
  have := letD_len k x y
  split
  · omega
  · simp
theorem spK_b (k : UInt8) : 1 ≤ spK k ∧ spK k ≤ 8 := by
  unfold spK
  have := Nat.mod_lt k.toNat (by decide : 0 < 8)
  omega
theorem spP_b (k x : UInt8) : -128 ≤ spP k x ∧ spP k x ≤ 127 ∧ (k.toNat < 248 → 0 ≤ spP k x ∧ spP k x ≤ 31) := by
  unfold spP
  have := x.toNat_lt
  have := Nat.mod_lt x.toNat (by decide : 0 < 32)
  split <;> omega
theorem spN_b (k y : UInt8) : -128 ≤ spN k y ∧ spN k y ≤ 127 ∧ (k.toNat < 248 → 0 ≤ spN k y ∧ spN k y ≤ 7) := by
  unfold spN
  have := y.toNat_lt
  have := Nat.mod_lt y.toNat (by decide : 0 < 8)
  split <;> omega
theorem spD_no (k x y : UInt8) (h : ¬ (spK k = 1 ∨ spK k = 3 ∨ spK k = 6 ∨ spK k = 7)) : spD k x y = [] := by
  unfold spD
  rw [if_neg]
  intro hd
  apply h
  unfold hasD at hd
  unfold spK
  simp only [Bool.or_eq_true, decide_eq_true_eq] at hd
  omega
end Go.Proofs.YtnileogagoipiaaGreatDoor
namespace Go.Proofs.YtnileogagoipiaaGreatDoor
open Go.RowKit
set_option linter.unusedVariables false
set_option linter.unusedSimpArgs false
def stpV (k x y : UInt8) (A : Option Addr) (n c : Nat) : Array Value := #[.int .i64 (spK k), .int .i64 (spP k x), .int .i64 (spN k y), .slice A n c]
def StepPost (w : World) (k x y : UInt8) (e : Ending) (w' : World) : Prop :=
  ∃ A n c, e = .returned (.agg (stpV k x y A n c)) ∧ DataAt w' w.heap.size A n c (spD k x y) ∧ Below w.heap.size w w'
theorem run_append_new {w : World} {g n g1 : Nat} {cs : Array Value} {D : List UInt8} {x : Value} {c : UInt8} (ty : TypeId) (hx : x = bv c) (hb : Bk w g 5 cs) (hn : n ≤ cs.size) (ht : cs.toList.take n = D.map bv) (hD : D.length = n) (hn2 : n ≤ 1000) (b1 : Bk w g1 5 #[x]) :
    ∃ A' c' w', (Builtin.append_ #[22, 22] ty #[.slice (some ⟨g, 0, none⟩) n n, .slice (some ⟨g1, 0, none⟩) 1 1]).run Tryz.prog w = .ok (.slice A' (n + 1) c') w' ∧ DataAt w' w.heap.size A' (n + 1) c' (D ++ [c]) ∧ Below w.heap.size w w' := by
  subst hx
  obtain ⟨i, hi, hz, h1, h2⟩ := info_parts mo_u8_info
  have hl : (D.map bv).length = n := by simpa using hD
  have holds : ∀ j u, (D.map bv)[j]? = some u → w.cell? ((⟨g, 0, none⟩ : Addr).add j) = some u := fun j u hu => by
    rw [add_lit, Nat.zero_add, hb.cell]
    rw [← ht, List.getElem?_take] at hu
    split at hu
    · simpa using hu
    · cases hu
  have hnews : ∀ j u, [bv c][j]? = some u → w.cell? ((⟨g1, 0, none⟩ : Addr).add j) = some u := fun j u hu => by
    rw [add_lit, Nat.zero_add, b1.cell]
    rcases j with _ | j
    · exact hu
    · cases hu
  have hrun := run_append_grow (P := Tryz.prog) w 22 ty 5 i (.int .u8 0) Tryz.underlying22 hi hz ⟨g, 0, none⟩ n n (D.map bv) (by rw [hl, h1, Nat.mul_one]) holds ⟨g1, 0, none⟩ 1 1 [bv c] (by rw [h1]; rfl) hnews (by omega) (by omega) (growslice_fits (by omega) (by rw [h2]; omega))
  have hge := grownCap_ge w (n + 1) n 5
  have hcm : grownCap w (n + 1) n 5 ≤ maxLen := grownCap_le_maxLen w (n + 1) n 5 (by unfold maxLen; omega)
  refine ⟨_, _, _, hrun, ⟨by simp [hD], hge, hcm, .inr ⟨w.heap.size, _, rfl, Nat.le_refl _, heap_alloc_new w.drew _, ?_, ?_⟩⟩, (Below.refl w.heap.size w).drew.alloc (Nat.le_refl _) _⟩
  · simp [hD]
  · have hl2 : ((D.map bv) ++ [bv c]).length = n + 1 := by simp [hD]
    simp only [Array.toList_append, List.toList_toArray]
    rw [← hl2, List.take_left, List.map_append]
    rfl
theorem step_ret {w w' : World} {tmps : Array Value} {g : Nat} {k x y : UInt8} {A : Option Addr} {n c : Nat} (hp : tmps.getD 6 undef = .pointer (some ⟨g, 0, none⟩)) (hb : Bk w' g 29 (stpV k x y A n c)) (hd : DataAt w' w.heap.size A n c (spD k x y)) (hk : Below w.heap.size w w') :
    bodyPost Tryz.prog Tryz.f17 (StepPost w k x y) .ret ⟨tmps, []⟩ w' :=
  bodyPost_ret (results_cell_row (P := Tryz.prog) (fn := Tryz.f17) (p := 6) (ty := 29) rfl tmps w' g 29 (stpV k x y A n c) (0, 0) _ hp hb Tryz.underlying29 rfl (by kernel_rfl)) rfl ⟨A, n, c, rfl, hd, hk⟩
set_option maxRecDepth 100000 in
set_option maxHeartbeats 2000000 in
theorem Step_other (k x y : UInt8) (hd : hasD k = false) (w : World) : Calls Tryz.prog 17 #[bv k, bv x, bv y] w (StepPost w k x y) := by
  obtain ⟨K, hK⟩ : ∃ K, k.toNat = K := ⟨_, rfl⟩
  obtain ⟨X, hX⟩ : ∃ X, x.toNat = X := ⟨_, rfl⟩
  obtain ⟨Y, hY⟩ : ∃ Y, y.toNat = Y := ⟨_, rfl⟩
  have bk : K < 256 := by rw [← hK]; exact k.toNat_lt
  have bx : X < 256 := by rw [← hX]; exact x.toNat_lt
  have by' : Y < 256 := by rw [← hY]; exact y.toNat_lt
  have hD : spD k x y = [] := by unfold spD; rw [hd]; rfl
  have hk1 : spK k = (K : Int) % 8 + 1 := by unfold spK; rw [hK]; omega
  have hn : ¬ (K % 8 = 0 ∨ K % 8 = 2 ∨ K % 8 = 5 ∨ K % 8 = 6) := by
    unfold hasD at hd
    rw [hK] at hd
    simp at hd
    omega
  have t1 : ((K : Int) % 8 + 1 == 1) = false := by rw [beq_eq_false_iff_ne]; omega
  have t2 : ((K : Int) % 8 + 1 == 3) = false := by rw [beq_eq_false_iff_ne]; omega
  have t3 : ((K : Int) % 8 + 1 == 6) = false := by rw [beq_eq_false_iff_ne]; omega
  have t4 : ((K : Int) % 8 + 1 == 7) = false := by rw [beq_eq_false_iff_ne]; omega
  by_cases hi : 248 ≤ K
  · have hP : spP k x = (X : Int) - 128 := by unfold spP; rw [hK, hX, if_pos hi]
    have hN : spN k y = (Y : Int) - 128 := by unfold spN; rw [hK, hY, if_pos hi]
    have ht : ∀ A n c, #[.int .i64 ((K : Int) % 8 + 1), .int .i64 ((X : Int) - 128), .int .i64 ((Y : Int) - 128), .slice A n c] = stpV k x y A n c := fun A n c => by unfold stpV; rw [hk1, hP, hN]
    unfold bv
    rw [hK, hX, hY]
    have Ht := Lib.hid ht
    clear hK hX hY hd hk1 hn hP hN ht
    go_enter Tryz.func17, Tryz.ntmps17
    go_wp2_with fail
    rw [Ht.out]
    refine step_ret rfl ((Bk.new w _ _).alloc _) ?_ (((Below.refl _ _).alloc (Nat.le_refl _) _).alloc (by simp) _)
    rw [hD]
    exact ⟨rfl, Nat.le_refl _, Nat.zero_le _, .inl ⟨rfl, rfl, rfl⟩⟩
  · have hP : spP k x = (X : Int) % 32 := by unfold spP; rw [hK, hX, if_neg hi]; omega
    have hN : spN k y = (Y : Int) % 8 := by unfold spN; rw [hK, hY, if_neg hi]; omega
    have ht : ∀ A n c, #[.int .i64 ((K : Int) % 8 + 1), .int .i64 ((X : Int) % 32), .int .i64 ((Y : Int) % 8), .slice A n c] = stpV k x y A n c := fun A n c => by unfold stpV; rw [hk1, hP, hN]
    unfold bv
    rw [hK, hX, hY]
    have Ht := Lib.hid ht
    clear hK hX hY hd hk1 hn hP hN ht
    go_enter Tryz.func17, Tryz.ntmps17
    go_wp2_with fail
    rw [Ht.out]
    refine step_ret rfl ((Bk.new w _ _).alloc _) ?_ (((Below.refl _ _).alloc (Nat.le_refl _) _).alloc (by simp) _)
    rw [hD]
    exact ⟨rfl, Nat.le_refl _, Nat.zero_le _, .inl ⟨rfl, rfl, rfl⟩⟩
set_option maxRecDepth 100000 in
set_option maxHeartbeats 4000000 in
theorem Step_raw1 (k x y : UInt8) (hd : hasD k = true) (w : World) (q : Nat) (hq : y.toNat % 4 = q) (h1 : k.toNat % 8 = 0) (hi : 248 ≤ k.toNat) : Calls Tryz.prog 17 #[bv k, bv x, bv y] w (StepPost w k x y) := by
  obtain ⟨K, hK⟩ : ∃ K, k.toNat = K := ⟨_, rfl⟩
  obtain ⟨X, hX⟩ : ∃ X, x.toNat = X := ⟨_, rfl⟩
  obtain ⟨Y, hY⟩ : ∃ Y, y.toNat = Y := ⟨_, rfl⟩
  have bk : K < 256 := by rw [← hK]; exact k.toNat_lt
  have bx : X < 256 := by rw [← hX]; exact x.toNat_lt
  have by' : Y < 256 := by rw [← hY]; exact y.toNat_lt
  have hD : spD k x y = List.replicate q (letC x) ++ if 128 ≤ K then [98] else [] := by unfold spD; rw [hd, if_pos rfl]; unfold letD; rw [hq, hK]
  have hk1 : spK k = (K : Int) % 8 + 1 := by unfold spK; rw [hK]; omega
  have hx : Value.int .u8 (97 + (X : Int) % 3) = bv (letC x) := by unfold bv; rw [letC_nat, hX]; exact int_eq (by omega)
  rw [hK] at h1 hi
  rw [hY] at hq
  have hqI : (Y : Int) % 4 = (q : Int) := by omega
  have hkv : (K : Int) % 8 + 1 = 1 := by omega
  have h128 : (128 : Int) ≤ (K : Int) := by omega
  have h248 : (248 : Int) ≤ (K : Int) := by omega
  have hP : spP k x = (X : Int) - 128 := by unfold spP; rw [hK, hX, if_pos hi]
  have hN : spN k y = (Y : Int) - 128 := by unfold spN; rw [hK, hY, if_pos hi]
  have ht : ∀ A n c, #[.int .i64 1, .int .i64 ((X : Int) - 128), .int .i64 ((Y : Int) - 128), .slice A n c] = stpV k x y A n c := fun A n c => by unfold stpV; rw [hk1, hP, hN, hkv]
  unfold bv
  rw [hK, hX, hY]
  have Ht := Lib.hid ht
  have HD := Lib.hid hD
  have Hx := Lib.hid hx
  clear hK hX hY hd hk1 hP hN ht hD hx
  go_enter Tryz.func17, Tryz.ntmps17
  go_wp2_with fail
  refine (Rep_any _ _ _ (letC x) q (by omega) _ (by rw [← Hx.out]; simpa using (Bk.new ((w.alloc (.cells #[.int .i64 0, .int .i64 0, .int .i64 0, .slice none 0 0] 29)).alloc (.cells #[.int .i64 1, .int .i64 ((X : Int) - 128), .int .i64 ((Y : Int) - 128), .slice none 0 0] 29)) 5 #[.int .u8 (97 + (X : Int) % 3)]).cell 0)).mono ?_
  rintro e w1 ⟨g, cs, rfl, hg, hb1, hs1, ht1, hbel1⟩
  simp only [World.size_alloc] at hg
  have hS := ((Bk.new (w.alloc (.cells #[.int .i64 0, .int .i64 0, .int .i64 0, .slice none 0 0] 29)) 29 #[.int .i64 1, .int .i64 ((X : Int) - 128), .int .i64 ((Y : Int) - 128), .slice none 0 0]).alloc (.cells #[.int .u8 (97 + (X : Int) % 3)] 5)).below hbel1 (by simp)
  have hR := (((Bk.new w 29 #[.int .i64 0, .int .i64 0, .int .i64 0, .slice none 0 0]).alloc (.cells #[.int .i64 1, .int .i64 ((X : Int) - 128), .int .i64 ((Y : Int) - 128), .slice none 0 0] 29)).alloc (.cells #[.int .u8 (97 + (X : Int) % 3)] 5)).below hbel1 (by simp; omega)
  have hbw : Below w.heap.size w w1 := (((Below.refl w.heap.size w).alloc (Nat.le_refl _) _).alloc (by simp) _).alloc (by simp; omega) _ |>.trans (hbel1.mono (by simp; omega))
  simp only [World.size_alloc] at hS
  have hgs : g ≠ w.heap.size + 1 := by omega
  have hb2 := hb1.far (p := ⟨w.heap.size + 1, 3, none⟩) hgs (.slice (some ⟨g, 0, none⟩) q q)
  have hS2 := hS.set 3 (.slice (some ⟨g, 0, none⟩) q q)
  have hR2 := hR.far (p := ⟨w.heap.size + 1, 3, none⟩) (by simp) (.slice (some ⟨g, 0, none⟩) q q)
  have hbw2 := hbw.setCell (p := ⟨w.heap.size + 1, 3, none⟩) (by simp) (.slice (some ⟨g, 0, none⟩) q q)
  have c3 := hS.cell 3
  have f3 := hS.frozen 3
  generalize hw2 : w1.setCell ⟨w.heap.size + 1, 3, none⟩ (.slice (some ⟨g, 0, none⟩) q q) = w2 at hb2 hS2 hR2 hbw2
  have HB2 := Lib.hid hb2
  have HS2 := Lib.hid hS2
  have HR2 := Lib.hid hR2
  have HBw2 := Lib.hid hbw2
  have s2 := hS2.cell 3
  clear hb1 hbel1 hS hR hbw hb2 hS2 hR2 hbw2
  have hsz2 := HS2.out.lt
  obtain ⟨A3, q3, w3, hr3, hd3, hb3⟩ := run_append_new (c := 98) (x := .int .u8 98) 22 rfl (HB2.out.alloc (.cells #[.int .u8 98] 5)) hs1 ht1 (List.length_replicate ..) (by omega) (Bk.new w2 _ _)
  have hd4 := hd3.mono (B' := w.heap.size) (by simp; omega)
  have hS3 := (HS2.out.alloc (.cells #[.int .u8 98] 5)).below hb3 (by simp; omega)
  have hR3 := (HR2.out.alloc (.cells #[.int .u8 98] 5)).below hb3 (by simp; omega)
  have hbw3 : Below w.heap.size w w3 := (HBw2.out.alloc (by omega) _).trans (hb3.mono (by simp; omega))
  have u3 := hS3.cell 3
  have v3 := hS3.frozen 3
  have hS4 := hS3.set 3 (.slice A3 (q + 1) q3)
  have hR4 := hR3.far (p := ⟨w.heap.size + 1, 3, none⟩) (by simp) (.slice A3 (q + 1) q3)
  have hbw4 := hbw3.setCell (p := ⟨w.heap.size + 1, 3, none⟩) (by simp) (.slice A3 (q + 1) q3)
  have hd5 : DataAt (w3.setCell ⟨w.heap.size + 1, 3, none⟩ (.slice A3 (q + 1) q3)) w.heap.size A3 (q + 1) q3 (List.replicate q (letC x) ++ [98]) := hd4.keep fun g cs hg hb => hb.far (fun e => hb.ne hS3 (by decide) e) _
  generalize hw4 : w3.setCell ⟨w.heap.size + 1, 3, none⟩ (.slice A3 (q + 1) q3) = w4 at hS4 hR4 hbw4 hd5
  have e0 := hS4.cell 0
  have e1 := hS4.cell 1
  have e2 := hS4.cell 2
  have e3 := hS4.cell 3
  have z0 := hR4.cell 0
  have z1 := hR4.cell 1
  have z2 := hR4.cell 2
  have z3 := hR4.cell 3
  have y0 := hR4.frozen 0
  have y1 := hR4.frozen 1
  have y2 := hR4.frozen 2
  have y3 := hR4.frozen 3
  have HR4 := Lib.hid hR4
  have Hbw4 := Lib.hid hbw4
  have Hd5 := Lib.hid hd5
  clear hd3 hd4 hS3 hR3 hbw3 hS4 hR4 hbw4 hd5 hb3 HB2 HS2 HR2 HBw2
  go_wp2_with (at_builtin; refine Lib.wpList_append_run _ rfl (.tmp 48) (.tmp 49) _ _ rfl _ _ rfl rfl _ _ hr3 ?_)
  have hR5 := (((HR4.out.set 0 (.int .i64 1)).set 1 (.int .i64 ((X : Int) - 128))).set 2 (.int .i64 ((Y : Int) - 128))).set 3 (.slice A3 (q + 1) q3)
  refine step_ret (g := w.heap.size) (A := A3) (n := (q + 1)) (c := q3) rfl ?_ ?_ ?_
  · rw [← Ht.out]; exact hR5
  · rw [HD.out, if_pos (by omega)]
    exact Hd5.out.keep fun g cs hg hb => by
      have hne := hb.ne HR4.out (by decide)
      exact (((hb.far (p := ⟨w.heap.size, 0, none⟩) hne _).far (p := ⟨w.heap.size, 1, none⟩) hne _).far (p := ⟨w.heap.size, 2, none⟩) hne _).far (p := ⟨w.heap.size, 3, none⟩) hne _
  · exact (((Hbw4.out.setCell (Nat.le_refl _) _).setCell (Nat.le_refl _) _).setCell (Nat.le_refl _) _).setCell (Nat.le_refl _) _
set_option maxRecDepth 100000 in
set_option maxHeartbeats 4000000 in
theorem Step_mid1 (k x y : UInt8) (hd : hasD k = true) (w : World) (q : Nat) (hq : y.toNat % 4 = q) (h1 : k.toNat % 8 = 0) (hi : 128 ≤ k.toNat ∧ k.toNat < 248) : Calls Tryz.prog 17 #[bv k, bv x, bv y] w (StepPost w k x y) := by
  obtain ⟨K, hK⟩ : ∃ K, k.toNat = K := ⟨_, rfl⟩
  obtain ⟨X, hX⟩ : ∃ X, x.toNat = X := ⟨_, rfl⟩
  obtain ⟨Y, hY⟩ : ∃ Y, y.toNat = Y := ⟨_, rfl⟩
  have bk : K < 256 := by rw [← hK]; exact k.toNat_lt
  have bx : X < 256 := by rw [← hX]; exact x.toNat_lt
  have by' : Y < 256 := by rw [← hY]; exact y.toNat_lt
  have hD : spD k x y = List.replicate q (letC x) ++ if 128 ≤ K then [98] else [] := by unfold spD; rw [hd, if_pos rfl]; unfold letD; rw [hq, hK]
  have hk1 : spK k = (K : Int) % 8 + 1 := by unfold spK; rw [hK]; omega
  have hx : Value.int .u8 (97 + (X : Int) % 3) = bv (letC x) := by unfold bv; rw [letC_nat, hX]; exact int_eq (by omega)
  rw [hK] at h1 hi
  rw [hY] at hq
  have hqI : (Y : Int) % 4 = (q : Int) := by omega
  have hkv : (K : Int) % 8 + 1 = 1 := by omega
  have h128 : (128 : Int) ≤ (K : Int) := by omega
  have h248 : ¬ (248 : Int) ≤ (K : Int) := by omega
  have hP : spP k x = (X : Int) % 32 := by unfold spP; rw [hK, hX, if_neg (by omega)]; omega
  have hN : spN k y = (Y : Int) % 8 := by unfold spN; rw [hK, hY, if_neg (by omega)]; omega
  have ht : ∀ A n c, #[.int .i64 1, .int .i64 ((X : Int) % 32), .int .i64 ((Y : Int) % 8), .slice A n c] = stpV k x y A n c := fun A n c => by unfold stpV; rw [hk1, hP, hN, hkv]
  unfold bv
  rw [hK, hX, hY]
  have Ht := Lib.hid ht
  have HD := Lib.hid hD
  have Hx := Lib.hid hx
  clear hK hX hY hd hk1 hP hN ht hD hx
  go_enter Tryz.func17, Tryz.ntmps17
  go_wp2_with fail
  refine (Rep_any _ _ _ (letC x) q (by omega) _ (by rw [← Hx.out]; simpa using (Bk.new ((w.alloc (.cells #[.int .i64 0, .int .i64 0, .int .i64 0, .slice none 0 0] 29)).alloc (.cells #[.int .i64 1, .int .i64 ((X : Int) % 32), .int .i64 ((Y : Int) % 8), .slice none 0 0] 29)) 5 #[.int .u8 (97 + (X : Int) % 3)]).cell 0)).mono ?_
  rintro e w1 ⟨g, cs, rfl, hg, hb1, hs1, ht1, hbel1⟩
  simp only [World.size_alloc] at hg
  have hS := ((Bk.new (w.alloc (.cells #[.int .i64 0, .int .i64 0, .int .i64 0, .slice none 0 0] 29)) 29 #[.int .i64 1, .int .i64 ((X : Int) % 32), .int .i64 ((Y : Int) % 8), .slice none 0 0]).alloc (.cells #[.int .u8 (97 + (X : Int) % 3)] 5)).below hbel1 (by simp)
  have hR := (((Bk.new w 29 #[.int .i64 0, .int .i64 0, .int .i64 0, .slice none 0 0]).alloc (.cells #[.int .i64 1, .int .i64 ((X : Int) % 32), .int .i64 ((Y : Int) % 8), .slice none 0 0] 29)).alloc (.cells #[.int .u8 (97 + (X : Int) % 3)] 5)).below hbel1 (by simp; omega)
  have hbw : Below w.heap.size w w1 := (((Below.refl w.heap.size w).alloc (Nat.le_refl _) _).alloc (by simp) _).alloc (by simp; omega) _ |>.trans (hbel1.mono (by simp; omega))
  simp only [World.size_alloc] at hS
  have hgs : g ≠ w.heap.size + 1 := by omega
  have hb2 := hb1.far (p := ⟨w.heap.size + 1, 3, none⟩) hgs (.slice (some ⟨g, 0, none⟩) q q)
  have hS2 := hS.set 3 (.slice (some ⟨g, 0, none⟩) q q)
  have hR2 := hR.far (p := ⟨w.heap.size + 1, 3, none⟩) (by simp) (.slice (some ⟨g, 0, none⟩) q q)
  have hbw2 := hbw.setCell (p := ⟨w.heap.size + 1, 3, none⟩) (by simp) (.slice (some ⟨g, 0, none⟩) q q)
  have c3 := hS.cell 3
  have f3 := hS.frozen 3
  generalize hw2 : w1.setCell ⟨w.heap.size + 1, 3, none⟩ (.slice (some ⟨g, 0, none⟩) q q) = w2 at hb2 hS2 hR2 hbw2
  have HB2 := Lib.hid hb2
  have HS2 := Lib.hid hS2
  have HR2 := Lib.hid hR2
  have HBw2 := Lib.hid hbw2
  have s2 := hS2.cell 3
  clear hb1 hbel1 hS hR hbw hb2 hS2 hR2 hbw2
  have hsz2 := HS2.out.lt
  obtain ⟨A3, q3, w3, hr3, hd3, hb3⟩ := run_append_new (c := 98) (x := .int .u8 98) 22 rfl (HB2.out.alloc (.cells #[.int .u8 98] 5)) hs1 ht1 (List.length_replicate ..) (by omega) (Bk.new w2 _ _)
  have hd4 := hd3.mono (B' := w.heap.size) (by simp; omega)
  have hS3 := (HS2.out.alloc (.cells #[.int .u8 98] 5)).below hb3 (by simp; omega)
  have hR3 := (HR2.out.alloc (.cells #[.int .u8 98] 5)).below hb3 (by simp; omega)
  have hbw3 : Below w.heap.size w w3 := (HBw2.out.alloc (by omega) _).trans (hb3.mono (by simp; omega))
  have u3 := hS3.cell 3
  have v3 := hS3.frozen 3
  have hS4 := hS3.set 3 (.slice A3 (q + 1) q3)
  have hR4 := hR3.far (p := ⟨w.heap.size + 1, 3, none⟩) (by simp) (.slice A3 (q + 1) q3)
  have hbw4 := hbw3.setCell (p := ⟨w.heap.size + 1, 3, none⟩) (by simp) (.slice A3 (q + 1) q3)
  have hd5 : DataAt (w3.setCell ⟨w.heap.size + 1, 3, none⟩ (.slice A3 (q + 1) q3)) w.heap.size A3 (q + 1) q3 (List.replicate q (letC x) ++ [98]) := hd4.keep fun g cs hg hb => hb.far (fun e => hb.ne hS3 (by decide) e) _
  generalize hw4 : w3.setCell ⟨w.heap.size + 1, 3, none⟩ (.slice A3 (q + 1) q3) = w4 at hS4 hR4 hbw4 hd5
  have e0 := hS4.cell 0
  have e1 := hS4.cell 1
  have e2 := hS4.cell 2
  have e3 := hS4.cell 3
  have z0 := hR4.cell 0
  have z1 := hR4.cell 1
  have z2 := hR4.cell 2
  have z3 := hR4.cell 3
  have y0 := hR4.frozen 0
  have y1 := hR4.frozen 1
  have y2 := hR4.frozen 2
  have y3 := hR4.frozen 3
  have HR4 := Lib.hid hR4
  have Hbw4 := Lib.hid hbw4
  have Hd5 := Lib.hid hd5
  clear hd3 hd4 hS3 hR3 hbw3 hS4 hR4 hbw4 hd5 hb3 HB2 HS2 HR2 HBw2
  go_wp2_with (at_builtin; refine Lib.wpList_append_run _ rfl (.tmp 48) (.tmp 49) _ _ rfl _ _ rfl rfl _ _ hr3 ?_)
  have hR5 := (((HR4.out.set 0 (.int .i64 1)).set 1 (.int .i64 ((X : Int) % 32))).set 2 (.int .i64 ((Y : Int) % 8))).set 3 (.slice A3 (q + 1) q3)
  refine step_ret (g := w.heap.size) (A := A3) (n := (q + 1)) (c := q3) rfl ?_ ?_ ?_
  · rw [← Ht.out]; exact hR5
  · rw [HD.out, if_pos (by omega)]
    exact Hd5.out.keep fun g cs hg hb => by
      have hne := hb.ne HR4.out (by decide)
      exact (((hb.far (p := ⟨w.heap.size, 0, none⟩) hne _).far (p := ⟨w.heap.size, 1, none⟩) hne _).far (p := ⟨w.heap.size, 2, none⟩) hne _).far (p := ⟨w.heap.size, 3, none⟩) hne _
  · exact (((Hbw4.out.setCell (Nat.le_refl _) _).setCell (Nat.le_refl _) _).setCell (Nat.le_refl _) _).setCell (Nat.le_refl _) _
set_option maxRecDepth 100000 in
set_option maxHeartbeats 4000000 in
theorem Step_low1 (k x y : UInt8) (hd : hasD k = true) (w : World) (q : Nat) (hq : y.toNat % 4 = q) (h1 : k.toNat % 8 = 0) (hi : k.toNat < 128) : Calls Tryz.prog 17 #[bv k, bv x, bv y] w (StepPost w k x y) := by
  obtain ⟨K, hK⟩ : ∃ K, k.toNat = K := ⟨_, rfl⟩
  obtain ⟨X, hX⟩ : ∃ X, x.toNat = X := ⟨_, rfl⟩
  obtain ⟨Y, hY⟩ : ∃ Y, y.toNat = Y := ⟨_, rfl⟩
  have bk : K < 256 := by rw [← hK]; exact k.toNat_lt
  have bx : X < 256 := by rw [← hX]; exact x.toNat_lt
  have by' : Y < 256 := by rw [← hY]; exact y.toNat_lt
  have hD : spD k x y = List.replicate q (letC x) ++ if 128 ≤ K then [98] else [] := by unfold spD; rw [hd, if_pos rfl]; unfold letD; rw [hq, hK]
  have hk1 : spK k = (K : Int) % 8 + 1 := by unfold spK; rw [hK]; omega
  have hx : Value.int .u8 (97 + (X : Int) % 3) = bv (letC x) := by unfold bv; rw [letC_nat, hX]; exact int_eq (by omega)
  rw [hK] at h1 hi
  rw [hY] at hq
  have hqI : (Y : Int) % 4 = (q : Int) := by omega
  have hkv : (K : Int) % 8 + 1 = 1 := by omega
  have h128 : ¬ (128 : Int) ≤ (K : Int) := by omega
  have h248 : ¬ (248 : Int) ≤ (K : Int) := by omega
  have hP : spP k x = (X : Int) % 32 := by unfold spP; rw [hK, hX, if_neg (by omega)]; omega
  have hN : spN k y = (Y : Int) % 8 := by unfold spN; rw [hK, hY, if_neg (by omega)]; omega
  have ht : ∀ A n c, #[.int .i64 1, .int .i64 ((X : Int) % 32), .int .i64 ((Y : Int) % 8), .slice A n c] = stpV k x y A n c := fun A n c => by unfold stpV; rw [hk1, hP, hN, hkv]
  unfold bv
  rw [hK, hX, hY]
  have Ht := Lib.hid ht
  have HD := Lib.hid hD
  have Hx := Lib.hid hx
  clear hK hX hY hd hk1 hP hN ht hD hx
  go_enter Tryz.func17, Tryz.ntmps17
  go_wp2_with fail
  refine (Rep_any _ _ _ (letC x) q (by omega) _ (by rw [← Hx.out]; simpa using (Bk.new ((w.alloc (.cells #[.int .i64 0, .int .i64 0, .int .i64 0, .slice none 0 0] 29)).alloc (.cells #[.int .i64 1, .int .i64 ((X : Int) % 32), .int .i64 ((Y : Int) % 8), .slice none 0 0] 29)) 5 #[.int .u8 (97 + (X : Int) % 3)]).cell 0)).mono ?_
  rintro e w1 ⟨g, cs, rfl, hg, hb1, hs1, ht1, hbel1⟩
  simp only [World.size_alloc] at hg
  have hS := ((Bk.new (w.alloc (.cells #[.int .i64 0, .int .i64 0, .int .i64 0, .slice none 0 0] 29)) 29 #[.int .i64 1, .int .i64 ((X : Int) % 32), .int .i64 ((Y : Int) % 8), .slice none 0 0]).alloc (.cells #[.int .u8 (97 + (X : Int) % 3)] 5)).below hbel1 (by simp)
  have hR := (((Bk.new w 29 #[.int .i64 0, .int .i64 0, .int .i64 0, .slice none 0 0]).alloc (.cells #[.int .i64 1, .int .i64 ((X : Int) % 32), .int .i64 ((Y : Int) % 8), .slice none 0 0] 29)).alloc (.cells #[.int .u8 (97 + (X : Int) % 3)] 5)).below hbel1 (by simp; omega)
  have hbw : Below w.heap.size w w1 := (((Below.refl w.heap.size w).alloc (Nat.le_refl _) _).alloc (by simp) _).alloc (by simp; omega) _ |>.trans (hbel1.mono (by simp; omega))
  simp only [World.size_alloc] at hS
  have hgs : g ≠ w.heap.size + 1 := by omega
  have hb2 := hb1.far (p := ⟨w.heap.size + 1, 3, none⟩) hgs (.slice (some ⟨g, 0, none⟩) q q)
  have hS2 := hS.set 3 (.slice (some ⟨g, 0, none⟩) q q)
  have hR2 := hR.far (p := ⟨w.heap.size + 1, 3, none⟩) (by simp) (.slice (some ⟨g, 0, none⟩) q q)
  have hbw2 := hbw.setCell (p := ⟨w.heap.size + 1, 3, none⟩) (by simp) (.slice (some ⟨g, 0, none⟩) q q)
  have c3 := hS.cell 3
  have f3 := hS.frozen 3
  generalize hw2 : w1.setCell ⟨w.heap.size + 1, 3, none⟩ (.slice (some ⟨g, 0, none⟩) q q) = w2 at hb2 hS2 hR2 hbw2
  obtain ⟨w4, rfl⟩ : ∃ w4, w2 = w4 := ⟨_, rfl⟩
  obtain ⟨A3, hA3⟩ : ∃ A3, some (⟨g, 0, none⟩ : Addr) = A3 := ⟨_, rfl⟩
  have hS4 := hS2
  have hR4 := hR2
  have hbw4 := hbw2
  have hd5 : DataAt w2 w.heap.size (some ⟨g, 0, none⟩) q q (List.replicate q (letC x)) := ⟨List.length_replicate .., Nat.le_refl _, by unfold maxLen; omega, .inr ⟨g, cs, rfl, by omega, hb2, hs1, ht1⟩⟩
  have e0 := hS4.cell 0
  have e1 := hS4.cell 1
  have e2 := hS4.cell 2
  have e3 := hS4.cell 3
  have z0 := hR4.cell 0
  have z1 := hR4.cell 1
  have z2 := hR4.cell 2
  have z3 := hR4.cell 3
  have y0 := hR4.frozen 0
  have y1 := hR4.frozen 1
  have y2 := hR4.frozen 2
  have y3 := hR4.frozen 3
  have HR4 := Lib.hid hR4
  have Hbw4 := Lib.hid hbw4
  have Hd5 := Lib.hid hd5
  clear hb1 hbel1 hS hR hbw hb2 hS2 hR2 hbw2 hS4 hR4 hbw4 hd5 hA3 A3
  go_wp2_with fail
  have hR5 := (((HR4.out.set 0 (.int .i64 1)).set 1 (.int .i64 ((X : Int) % 32))).set 2 (.int .i64 ((Y : Int) % 8))).set 3 (.slice (some ⟨g, 0, none⟩) q q)
  refine step_ret (g := w.heap.size) (A := (some ⟨g, 0, none⟩)) (n := q) (c := q) rfl ?_ ?_ ?_
  · rw [← Ht.out]; exact hR5
  · rw [HD.out, if_neg (by omega), List.append_nil]
    exact Hd5.out.keep fun g cs hg hb => by
      have hne := hb.ne HR4.out (by decide)
      exact (((hb.far (p := ⟨w.heap.size, 0, none⟩) hne _).far (p := ⟨w.heap.size, 1, none⟩) hne _).far (p := ⟨w.heap.size, 2, none⟩) hne _).far (p := ⟨w.heap.size, 3, none⟩) hne _
  · exact (((Hbw4.out.setCell (Nat.le_refl _) _).setCell (Nat.le_refl _) _).setCell (Nat.le_refl _) _).setCell (Nat.le_refl _) _
set_option maxRecDepth 100000 in
set_option maxHeartbeats 4000000 in
theorem Step_raw3 (k x y : UInt8) (hd : hasD k = true) (w : World) (q : Nat) (hq : y.toNat % 4 = q) (h1 : k.toNat % 8 = 2) (hi : 248 ≤ k.toNat) : Calls Tryz.prog 17 #[bv k, bv x, bv y] w (StepPost w k x y) := by
  obtain ⟨K, hK⟩ : ∃ K, k.toNat = K := ⟨_, rfl⟩
  obtain ⟨X, hX⟩ : ∃ X, x.toNat = X := ⟨_, rfl⟩
  obtain ⟨Y, hY⟩ : ∃ Y, y.toNat = Y := ⟨_, rfl⟩
  have bk : K < 256 := by rw [← hK]; exact k.toNat_lt
  have bx : X < 256 := by rw [← hX]; exact x.toNat_lt
  have by' : Y < 256 := by rw [← hY]; exact y.toNat_lt
  have hD : spD k x y = List.replicate q (letC x) ++ if 128 ≤ K then [98] else [] := by unfold spD; rw [hd, if_pos rfl]; unfold letD; rw [hq, hK]
  have hk1 : spK k = (K : Int) % 8 + 1 := by unfold spK; rw [hK]; omega
  have hx : Value.int .u8 (97 + (X : Int) % 3) = bv (letC x) := by unfold bv; rw [letC_nat, hX]; exact int_eq (by omega)
  rw [hK] at h1 hi
  rw [hY] at hq
  have hqI : (Y : Int) % 4 = (q : Int) := by omega
  have hkv : (K : Int) % 8 + 1 = 3 := by omega
  have h128 : (128 : Int) ≤ (K : Int) := by omega
  have h248 : (248 : Int) ≤ (K : Int) := by omega
  have hP : spP k x = (X : Int) - 128 := by unfold spP; rw [hK, hX, if_pos hi]
  have hN : spN k y = (Y : Int) - 128 := by unfold spN; rw [hK, hY, if_pos hi]
  have ht : ∀ A n c, #[.int .i64 3, .int .i64 ((X : Int) - 128), .int .i64 ((Y : Int) - 128), .slice A n c] = stpV k x y A n c := fun A n c => by unfold stpV; rw [hk1, hP, hN, hkv]
  unfold bv
  rw [hK, hX, hY]
  have Ht := Lib.hid ht
  have HD := Lib.hid hD
  have Hx := Lib.hid hx
  clear hK hX hY hd hk1 hP hN ht hD hx
  go_enter Tryz.func17, Tryz.ntmps17
  go_wp2_with fail
  refine (Rep_any _ _ _ (letC x) q (by omega) _ (by rw [← Hx.out]; simpa using (Bk.new ((w.alloc (.cells #[.int .i64 0, .int .i64 0, .int .i64 0, .slice none 0 0] 29)).alloc (.cells #[.int .i64 3, .int .i64 ((X : Int) - 128), .int .i64 ((Y : Int) - 128), .slice none 0 0] 29)) 5 #[.int .u8 (97 + (X : Int) % 3)]).cell 0)).mono ?_
  rintro e w1 ⟨g, cs, rfl, hg, hb1, hs1, ht1, hbel1⟩
  simp only [World.size_alloc] at hg
  have hS := ((Bk.new (w.alloc (.cells #[.int .i64 0, .int .i64 0, .int .i64 0, .slice none 0 0] 29)) 29 #[.int .i64 3, .int .i64 ((X : Int) - 128), .int .i64 ((Y : Int) - 128), .slice none 0 0]).alloc (.cells #[.int .u8 (97 + (X : Int) % 3)] 5)).below hbel1 (by simp)
  have hR := (((Bk.new w 29 #[.int .i64 0, .int .i64 0, .int .i64 0, .slice none 0 0]).alloc (.cells #[.int .i64 3, .int .i64 ((X : Int) - 128), .int .i64 ((Y : Int) - 128), .slice none 0 0] 29)).alloc (.cells #[.int .u8 (97 + (X : Int) % 3)] 5)).below hbel1 (by simp; omega)
  have hbw : Below w.heap.size w w1 := (((Below.refl w.heap.size w).alloc (Nat.le_refl _) _).alloc (by simp) _).alloc (by simp; omega) _ |>.trans (hbel1.mono (by simp; omega))
  simp only [World.size_alloc] at hS
  have hgs : g ≠ w.heap.size + 1 := by omega
  have hb2 := hb1.far (p := ⟨w.heap.size + 1, 3, none⟩) hgs (.slice (some ⟨g, 0, none⟩) q q)
  have hS2 := hS.set 3 (.slice (some ⟨g, 0, none⟩) q q)
  have hR2 := hR.far (p := ⟨w.heap.size + 1, 3, none⟩) (by simp) (.slice (some ⟨g, 0, none⟩) q q)
  have hbw2 := hbw.setCell (p := ⟨w.heap.size + 1, 3, none⟩) (by simp) (.slice (some ⟨g, 0, none⟩) q q)
  have c3 := hS.cell 3
  have f3 := hS.frozen 3
  generalize hw2 : w1.setCell ⟨w.heap.size + 1, 3, none⟩ (.slice (some ⟨g, 0, none⟩) q q) = w2 at hb2 hS2 hR2 hbw2
  have HB2 := Lib.hid hb2
  have HS2 := Lib.hid hS2
  have HR2 := Lib.hid hR2
  have HBw2 := Lib.hid hbw2
  have s2 := hS2.cell 3
  clear hb1 hbel1 hS hR hbw hb2 hS2 hR2 hbw2
  have hsz2 := HS2.out.lt
  obtain ⟨A3, q3, w3, hr3, hd3, hb3⟩ := run_append_new (c := 98) (x := .int .u8 98) 22 rfl (HB2.out.alloc (.cells #[.int .u8 98] 5)) hs1 ht1 (List.length_replicate ..) (by omega) (Bk.new w2 _ _)
  have hd4 := hd3.mono (B' := w.heap.size) (by simp; omega)
  have hS3 := (HS2.out.alloc (.cells #[.int .u8 98] 5)).below hb3 (by simp; omega)
  have hR3 := (HR2.out.alloc (.cells #[.int .u8 98] 5)).below hb3 (by simp; omega)
  have hbw3 : Below w.heap.size w w3 := (HBw2.out.alloc (by omega) _).trans (hb3.mono (by simp; omega))
  have u3 := hS3.cell 3
  have v3 := hS3.frozen 3
  have hS4 := hS3.set 3 (.slice A3 (q + 1) q3)
  have hR4 := hR3.far (p := ⟨w.heap.size + 1, 3, none⟩) (by simp) (.slice A3 (q + 1) q3)
  have hbw4 := hbw3.setCell (p := ⟨w.heap.size + 1, 3, none⟩) (by simp) (.slice A3 (q + 1) q3)
  have hd5 : DataAt (w3.setCell ⟨w.heap.size + 1, 3, none⟩ (.slice A3 (q + 1) q3)) w.heap.size A3 (q + 1) q3 (List.replicate q (letC x) ++ [98]) := hd4.keep fun g cs hg hb => hb.far (fun e => hb.ne hS3 (by decide) e) _
  generalize hw4 : w3.setCell ⟨w.heap.size + 1, 3, none⟩ (.slice A3 (q + 1) q3) = w4 at hS4 hR4 hbw4 hd5
  have e0 := hS4.cell 0
  have e1 := hS4.cell 1
  have e2 := hS4.cell 2
  have e3 := hS4.cell 3
  have z0 := hR4.cell 0
  have z1 := hR4.cell 1
  have z2 := hR4.cell 2
  have z3 := hR4.cell 3
  have y0 := hR4.frozen 0
  have y1 := hR4.frozen 1
  have y2 := hR4.frozen 2
  have y3 := hR4.frozen 3
  have HR4 := Lib.hid hR4
  have Hbw4 := Lib.hid hbw4
  have Hd5 := Lib.hid hd5
  clear hd3 hd4 hS3 hR3 hbw3 hS4 hR4 hbw4 hd5 hb3 HB2 HS2 HR2 HBw2
  go_wp2_with (at_builtin; refine Lib.wpList_append_run _ rfl (.tmp 48) (.tmp 49) _ _ rfl _ _ rfl rfl _ _ hr3 ?_)
  have hR5 := (((HR4.out.set 0 (.int .i64 3)).set 1 (.int .i64 ((X : Int) - 128))).set 2 (.int .i64 ((Y : Int) - 128))).set 3 (.slice A3 (q + 1) q3)
  refine step_ret (g := w.heap.size) (A := A3) (n := (q + 1)) (c := q3) rfl ?_ ?_ ?_
  · rw [← Ht.out]; exact hR5
  · rw [HD.out, if_pos (by omega)]
    exact Hd5.out.keep fun g cs hg hb => by
      have hne := hb.ne HR4.out (by decide)
      exact (((hb.far (p := ⟨w.heap.size, 0, none⟩) hne _).far (p := ⟨w.heap.size, 1, none⟩) hne _).far (p := ⟨w.heap.size, 2, none⟩) hne _).far (p := ⟨w.heap.size, 3, none⟩) hne _
  · exact (((Hbw4.out.setCell (Nat.le_refl _) _).setCell (Nat.le_refl _) _).setCell (Nat.le_refl _) _).setCell (Nat.le_refl _) _
set_option maxRecDepth 100000 in
set_option maxHeartbeats 4000000 in
theorem Step_mid3 (k x y : UInt8) (hd : hasD k = true) (w : World) (q : Nat) (hq : y.toNat % 4 = q) (h1 : k.toNat % 8 = 2) (hi : 128 ≤ k.toNat ∧ k.toNat < 248) : Calls Tryz.prog 17 #[bv k, bv x, bv y] w (StepPost w k x y) := by
  obtain ⟨K, hK⟩ : ∃ K, k.toNat = K := ⟨_, rfl⟩
  obtain ⟨X, hX⟩ : ∃ X, x.toNat = X := ⟨_, rfl⟩
  obtain ⟨Y, hY⟩ : ∃ Y, y.toNat = Y := ⟨_, rfl⟩
  have bk : K < 256 := by rw [← hK]; exact k.toNat_lt
  have bx : X < 256 := by rw [← hX]; exact x.toNat_lt
  have by' : Y < 256 := by rw [← hY]; exact y.toNat_lt
  have hD : spD k x y = List.replicate q (letC x) ++ if 128 ≤ K then [98] else [] := by unfold spD; rw [hd, if_pos rfl]; unfold letD; rw [hq, hK]
  have hk1 : spK k = (K : Int) % 8 + 1 := by unfold spK; rw [hK]; omega
  have hx : Value.int .u8 (97 + (X : Int) % 3) = bv (letC x) := by unfold bv; rw [letC_nat, hX]; exact int_eq (by omega)
  rw [hK] at h1 hi
  rw [hY] at hq
  have hqI : (Y : Int) % 4 = (q : Int) := by omega
  have hkv : (K : Int) % 8 + 1 = 3 := by omega
  have h128 : (128 : Int) ≤ (K : Int) := by omega
  have h248 : ¬ (248 : Int) ≤ (K : Int) := by omega
  have hP : spP k x = (X : Int) % 32 := by unfold spP; rw [hK, hX, if_neg (by omega)]; omega
  have hN : spN k y = (Y : Int) % 8 := by unfold spN; rw [hK, hY, if_neg (by omega)]; omega
  have ht : ∀ A n c, #[.int .i64 3, .int .i64 ((X : Int) % 32), .int .i64 ((Y : Int) % 8), .slice A n c] = stpV k x y A n c := fun A n c => by unfold stpV; rw [hk1, hP, hN, hkv]
  unfold bv
  rw [hK, hX, hY]
  have Ht := Lib.hid ht
  have HD := Lib.hid hD
  have Hx := Lib.hid hx
  clear hK hX hY hd hk1 hP hN ht hD hx
  go_enter Tryz.func17, Tryz.ntmps17
  go_wp2_with fail
  refine (Rep_any _ _ _ (letC x) q (by omega) _ (by rw [← Hx.out]; simpa using (Bk.new ((w.alloc (.cells #[.int .i64 0, .int .i64 0, .int .i64 0, .slice none 0 0] 29)).alloc (.cells #[.int .i64 3, .int .i64 ((X : Int) % 32), .int .i64 ((Y : Int) % 8), .slice none 0 0] 29)) 5 #[.int .u8 (97 + (X : Int) % 3)]).cell 0)).mono ?_
  rintro e w1 ⟨g, cs, rfl, hg, hb1, hs1, ht1, hbel1⟩
  simp only [World.size_alloc] at hg
  have hS := ((Bk.new (w.alloc (.cells #[.int .i64 0, .int .i64 0, .int .i64 0, .slice none 0 0] 29)) 29 #[.int .i64 3, .int .i64 ((X : Int) % 32), .int .i64 ((Y : Int) % 8), .slice none 0 0]).alloc (.cells #[.int .u8 (97 + (X : Int) % 3)] 5)).below hbel1 (by simp)
  have hR := (((Bk.new w 29 #[.int .i64 0, .int .i64 0, .int .i64 0, .slice none 0 0]).alloc (.cells #[.int .i64 3, .int .i64 ((X : Int) % 32), .int .i64 ((Y : Int) % 8), .slice none 0 0] 29)).alloc (.cells #[.int .u8 (97 + (X : Int) % 3)] 5)).below hbel1 (by simp; omega)
  have hbw : Below w.heap.size w w1 := (((Below.refl w.heap.size w).alloc (Nat.le_refl _) _).alloc (by simp) _).alloc (by simp; omega) _ |>.trans (hbel1.mono (by simp; omega))
  simp only [World.size_alloc] at hS
  have hgs : g ≠ w.heap.size + 1 := by omega
  have hb2 := hb1.far (p := ⟨w.heap.size + 1, 3, none⟩) hgs (.slice (some ⟨g, 0, none⟩) q q)
  have hS2 := hS.set 3 (.slice (some ⟨g, 0, none⟩) q q)
  have hR2 := hR.far (p := ⟨w.heap.size + 1, 3, none⟩) (by simp) (.slice (some ⟨g, 0, none⟩) q q)
  have hbw2 := hbw.setCell (p := ⟨w.heap.size + 1, 3, none⟩) (by simp) (.slice (some ⟨g, 0, none⟩) q q)
  have c3 := hS.cell 3
  have f3 := hS.frozen 3
  generalize hw2 : w1.setCell ⟨w.heap.size + 1, 3, none⟩ (.slice (some ⟨g, 0, none⟩) q q) = w2 at hb2 hS2 hR2 hbw2
  have HB2 := Lib.hid hb2
  have HS2 := Lib.hid hS2
  have HR2 := Lib.hid hR2
  have HBw2 := Lib.hid hbw2
  have s2 := hS2.cell 3
  clear hb1 hbel1 hS hR hbw hb2 hS2 hR2 hbw2
  have hsz2 := HS2.out.lt
  obtain ⟨A3, q3, w3, hr3, hd3, hb3⟩ := run_append_new (c := 98) (x := .int .u8 98) 22 rfl (HB2.out.alloc (.cells #[.int .u8 98] 5)) hs1 ht1 (List.length_replicate ..) (by omega) (Bk.new w2 _ _)
  have hd4 := hd3.mono (B' := w.heap.size) (by simp; omega)
  have hS3 := (HS2.out.alloc (.cells #[.int .u8 98] 5)).below hb3 (by simp; omega)
  have hR3 := (HR2.out.alloc (.cells #[.int .u8 98] 5)).below hb3 (by simp; omega)
  have hbw3 : Below w.heap.size w w3 := (HBw2.out.alloc (by omega) _).trans (hb3.mono (by simp; omega))
  have u3 := hS3.cell 3
  have v3 := hS3.frozen 3
  have hS4 := hS3.set 3 (.slice A3 (q + 1) q3)
  have hR4 := hR3.far (p := ⟨w.heap.size + 1, 3, none⟩) (by simp) (.slice A3 (q + 1) q3)
  have hbw4 := hbw3.setCell (p := ⟨w.heap.size + 1, 3, none⟩) (by simp) (.slice A3 (q + 1) q3)
  have hd5 : DataAt (w3.setCell ⟨w.heap.size + 1, 3, none⟩ (.slice A3 (q + 1) q3)) w.heap.size A3 (q + 1) q3 (List.replicate q (letC x) ++ [98]) := hd4.keep fun g cs hg hb => hb.far (fun e => hb.ne hS3 (by decide) e) _
  generalize hw4 : w3.setCell ⟨w.heap.size + 1, 3, none⟩ (.slice A3 (q + 1) q3) = w4 at hS4 hR4 hbw4 hd5
  have e0 := hS4.cell 0
  have e1 := hS4.cell 1
  have e2 := hS4.cell 2
  have e3 := hS4.cell 3
  have z0 := hR4.cell 0
  have z1 := hR4.cell 1
  have z2 := hR4.cell 2
  have z3 := hR4.cell 3
  have y0 := hR4.frozen 0
  have y1 := hR4.frozen 1
  have y2 := hR4.frozen 2
  have y3 := hR4.frozen 3
  have HR4 := Lib.hid hR4
  have Hbw4 := Lib.hid hbw4
  have Hd5 := Lib.hid hd5
  clear hd3 hd4 hS3 hR3 hbw3 hS4 hR4 hbw4 hd5 hb3 HB2 HS2 HR2 HBw2
  go_wp2_with (at_builtin; refine Lib.wpList_append_run _ rfl (.tmp 48) (.tmp 49) _ _ rfl _ _ rfl rfl _ _ hr3 ?_)
  have hR5 := (((HR4.out.set 0 (.int .i64 3)).set 1 (.int .i64 ((X : Int) % 32))).set 2 (.int .i64 ((Y : Int) % 8))).set 3 (.slice A3 (q + 1) q3)
  refine step_ret (g := w.heap.size) (A := A3) (n := (q + 1)) (c := q3) rfl ?_ ?_ ?_
  · rw [← Ht.out]; exact hR5
  · rw [HD.out, if_pos (by omega)]
    exact Hd5.out.keep fun g cs hg hb => by
      have hne := hb.ne HR4.out (by decide)
      exact (((hb.far (p := ⟨w.heap.size, 0, none⟩) hne _).far (p := ⟨w.heap.size, 1, none⟩) hne _).far (p := ⟨w.heap.size, 2, none⟩) hne _).far (p := ⟨w.heap.size, 3, none⟩) hne _
  · exact (((Hbw4.out.setCell (Nat.le_refl _) _).setCell (Nat.le_refl _) _).setCell (Nat.le_refl _) _).setCell (Nat.le_refl _) _
set_option maxRecDepth 100000 in
set_option maxHeartbeats 4000000 in
theorem Step_low3 (k x y : UInt8) (hd : hasD k = true) (w : World) (q : Nat) (hq : y.toNat % 4 = q) (h1 : k.toNat % 8 = 2) (hi : k.toNat < 128) : Calls Tryz.prog 17 #[bv k, bv x, bv y] w (StepPost w k x y) := by
  obtain ⟨K, hK⟩ : ∃ K, k.toNat = K := ⟨_, rfl⟩
  obtain ⟨X, hX⟩ : ∃ X, x.toNat = X := ⟨_, rfl⟩
  obtain ⟨Y, hY⟩ : ∃ Y, y.toNat = Y := ⟨_, rfl⟩
  have bk : K < 256 := by rw [← hK]; exact k.toNat_lt
  have bx : X < 256 := by rw [← hX]; exact x.toNat_lt
  have by' : Y < 256 := by rw [← hY]; exact y.toNat_lt
  have hD : spD k x y = List.replicate q (letC x) ++ if 128 ≤ K then [98] else [] := by unfold spD; rw [hd, if_pos rfl]; unfold letD; rw [hq, hK]
  have hk1 : spK k = (K : Int) % 8 + 1 := by unfold spK; rw [hK]; omega
  have hx : Value.int .u8 (97 + (X : Int) % 3) = bv (letC x) := by unfold bv; rw [letC_nat, hX]; exact int_eq (by omega)
  rw [hK] at h1 hi
  rw [hY] at hq
  have hqI : (Y : Int) % 4 = (q : Int) := by omega
  have hkv : (K : Int) % 8 + 1 = 3 := by omega
  have h128 : ¬ (128 : Int) ≤ (K : Int) := by omega
  have h248 : ¬ (248 : Int) ≤ (K : Int) := by omega
  have hP : spP k x = (X : Int) % 32 := by unfold spP; rw [hK, hX, if_neg (by omega)]; omega
  have hN : spN k y = (Y : Int) % 8 := by unfold spN; rw [hK, hY, if_neg (by omega)]; omega
  have ht : ∀ A n c, #[.int .i64 3, .int .i64 ((X : Int) % 32), .int .i64 ((Y : Int) % 8), .slice A n c] = stpV k x y A n c := fun A n c => by unfold stpV; rw [hk1, hP, hN, hkv]
  unfold bv
  rw [hK, hX, hY]
  have Ht := Lib.hid ht
  have HD := Lib.hid hD
  have Hx := Lib.hid hx
  clear hK hX hY hd hk1 hP hN ht hD hx
  go_enter Tryz.func17, Tryz.ntmps17
  go_wp2_with fail
  refine (Rep_any _ _ _ (letC x) q (by omega) _ (by rw [← Hx.out]; simpa using (Bk.new ((w.alloc (.cells #[.int .i64 0, .int .i64 0, .int .i64 0, .slice none 0 0] 29)).alloc (.cells #[.int .i64 3, .int .i64 ((X : Int) % 32), .int .i64 ((Y : Int) % 8), .slice none 0 0] 29)) 5 #[.int .u8 (97 + (X : Int) % 3)]).cell 0)).mono ?_
  rintro e w1 ⟨g, cs, rfl, hg, hb1, hs1, ht1, hbel1⟩
  simp only [World.size_alloc] at hg
  have hS := ((Bk.new (w.alloc (.cells #[.int .i64 0, .int .i64 0, .int .i64 0, .slice none 0 0] 29)) 29 #[.int .i64 3, .int .i64 ((X : Int) % 32), .int .i64 ((Y : Int) % 8), .slice none 0 0]).alloc (.cells #[.int .u8 (97 + (X : Int) % 3)] 5)).below hbel1 (by simp)
  have hR := (((Bk.new w 29 #[.int .i64 0, .int .i64 0, .int .i64 0, .slice none 0 0]).alloc (.cells #[.int .i64 3, .int .i64 ((X : Int) % 32), .int .i64 ((Y : Int) % 8), .slice none 0 0] 29)).alloc (.cells #[.int .u8 (97 + (X : Int) % 3)] 5)).below hbel1 (by simp; omega)
  have hbw : Below w.heap.size w w1 := (((Below.refl w.heap.size w).alloc (Nat.le_refl _) _).alloc (by simp) _).alloc (by simp; omega) _ |>.trans (hbel1.mono (by simp; omega))
  simp only [World.size_alloc] at hS
  have hgs : g ≠ w.heap.size + 1 := by omega
  have hb2 := hb1.far (p := ⟨w.heap.size + 1, 3, none⟩) hgs (.slice (some ⟨g, 0, none⟩) q q)
  have hS2 := hS.set 3 (.slice (some ⟨g, 0, none⟩) q q)
  have hR2 := hR.far (p := ⟨w.heap.size + 1, 3, none⟩) (by simp) (.slice (some ⟨g, 0, none⟩) q q)
  have hbw2 := hbw.setCell (p := ⟨w.heap.size + 1, 3, none⟩) (by simp) (.slice (some ⟨g, 0, none⟩) q q)
  have c3 := hS.cell 3
  have f3 := hS.frozen 3
  generalize hw2 : w1.setCell ⟨w.heap.size + 1, 3, none⟩ (.slice (some ⟨g, 0, none⟩) q q) = w2 at hb2 hS2 hR2 hbw2
  obtain ⟨w4, rfl⟩ : ∃ w4, w2 = w4 := ⟨_, rfl⟩
  obtain ⟨A3, hA3⟩ : ∃ A3, some (⟨g, 0, none⟩ : Addr) = A3 := ⟨_, rfl⟩
  have hS4 := hS2
  have hR4 := hR2
  have hbw4 := hbw2
  have hd5 : DataAt w2 w.heap.size (some ⟨g, 0, none⟩) q q (List.replicate q (letC x)) := ⟨List.length_replicate .., Nat.le_refl _, by unfold maxLen; omega, .inr ⟨g, cs, rfl, by omega, hb2, hs1, ht1⟩⟩
  have e0 := hS4.cell 0
  have e1 := hS4.cell 1
  have e2 := hS4.cell 2
  have e3 := hS4.cell 3
  have z0 := hR4.cell 0
  have z1 := hR4.cell 1
  have z2 := hR4.cell 2
  have z3 := hR4.cell 3
  have y0 := hR4.frozen 0
  have y1 := hR4.frozen 1
  have y2 := hR4.frozen 2
  have y3 := hR4.frozen 3
  have HR4 := Lib.hid hR4
  have Hbw4 := Lib.hid hbw4
  have Hd5 := Lib.hid hd5
  clear hb1 hbel1 hS hR hbw hb2 hS2 hR2 hbw2 hS4 hR4 hbw4 hd5 hA3 A3
  go_wp2_with fail
  have hR5 := (((HR4.out.set 0 (.int .i64 3)).set 1 (.int .i64 ((X : Int) % 32))).set 2 (.int .i64 ((Y : Int) % 8))).set 3 (.slice (some ⟨g, 0, none⟩) q q)
  refine step_ret (g := w.heap.size) (A := (some ⟨g, 0, none⟩)) (n := q) (c := q) rfl ?_ ?_ ?_
  · rw [← Ht.out]; exact hR5
  · rw [HD.out, if_neg (by omega), List.append_nil]
    exact Hd5.out.keep fun g cs hg hb => by
      have hne := hb.ne HR4.out (by decide)
      exact (((hb.far (p := ⟨w.heap.size, 0, none⟩) hne _).far (p := ⟨w.heap.size, 1, none⟩) hne _).far (p := ⟨w.heap.size, 2, none⟩) hne _).far (p := ⟨w.heap.size, 3, none⟩) hne _
  · exact (((Hbw4.out.setCell (Nat.le_refl _) _).setCell (Nat.le_refl _) _).setCell (Nat.le_refl _) _).setCell (Nat.le_refl _) _
set_option maxRecDepth 100000 in
set_option maxHeartbeats 4000000 in
theorem Step_raw6 (k x y : UInt8) (hd : hasD k = true) (w : World) (q : Nat) (hq : y.toNat % 4 = q) (h1 : k.toNat % 8 = 5) (hi : 248 ≤ k.toNat) : Calls Tryz.prog 17 #[bv k, bv x, bv y] w (StepPost w k x y) := by
  obtain ⟨K, hK⟩ : ∃ K, k.toNat = K := ⟨_, rfl⟩
  obtain ⟨X, hX⟩ : ∃ X, x.toNat = X := ⟨_, rfl⟩
  obtain ⟨Y, hY⟩ : ∃ Y, y.toNat = Y := ⟨_, rfl⟩
  have bk : K < 256 := by rw [← hK]; exact k.toNat_lt
  have bx : X < 256 := by rw [← hX]; exact x.toNat_lt
  have by' : Y < 256 := by rw [← hY]; exact y.toNat_lt
  have hD : spD k x y = List.replicate q (letC x) ++ if 128 ≤ K then [98] else [] := by unfold spD; rw [hd, if_pos rfl]; unfold letD; rw [hq, hK]
  have hk1 : spK k = (K : Int) % 8 + 1 := by unfold spK; rw [hK]; omega
  have hx : Value.int .u8 (97 + (X : Int) % 3) = bv (letC x) := by unfold bv; rw [letC_nat, hX]; exact int_eq (by omega)
  rw [hK] at h1 hi
  rw [hY] at hq
  have hqI : (Y : Int) % 4 = (q : Int) := by omega
  have hkv : (K : Int) % 8 + 1 = 6 := by omega
  have h128 : (128 : Int) ≤ (K : Int) := by omega
  have h248 : (248 : Int) ≤ (K : Int) := by omega
  have hP : spP k x = (X : Int) - 128 := by unfold spP; rw [hK, hX, if_pos hi]
  have hN : spN k y = (Y : Int) - 128 := by unfold spN; rw [hK, hY, if_pos hi]
  have ht : ∀ A n c, #[.int .i64 6, .int .i64 ((X : Int) - 128), .int .i64 ((Y : Int) - 128), .slice A n c] = stpV k x y A n c := fun A n c => by unfold stpV; rw [hk1, hP, hN, hkv]
  unfold bv
  rw [hK, hX, hY]
  have Ht := Lib.hid ht
  have HD := Lib.hid hD
  have Hx := Lib.hid hx
  clear hK hX hY hd hk1 hP hN ht hD hx
  go_enter Tryz.func17, Tryz.ntmps17
  go_wp2_with fail
  refine (Rep_any _ _ _ (letC x) q (by omega) _ (by rw [← Hx.out]; simpa using (Bk.new ((w.alloc (.cells #[.int .i64 0, .int .i64 0, .int .i64 0, .slice none 0 0] 29)).alloc (.cells #[.int .i64 6, .int .i64 ((X : Int) - 128), .int .i64 ((Y : Int) - 128), .slice none 0 0] 29)) 5 #[.int .u8 (97 + (X : Int) % 3)]).cell 0)).mono ?_
  rintro e w1 ⟨g, cs, rfl, hg, hb1, hs1, ht1, hbel1⟩
  simp only [World.size_alloc] at hg
  have hS := ((Bk.new (w.alloc (.cells #[.int .i64 0, .int .i64 0, .int .i64 0, .slice none 0 0] 29)) 29 #[.int .i64 6, .int .i64 ((X : Int) - 128), .int .i64 ((Y : Int) - 128), .slice none 0 0]).alloc (.cells #[.int .u8 (97 + (X : Int) % 3)] 5)).below hbel1 (by simp)
  have hR := (((Bk.new w 29 #[.int .i64 0, .int .i64 0, .int .i64 0, .slice none 0 0]).alloc (.cells #[.int .i64 6, .int .i64 ((X : Int) - 128), .int .i64 ((Y : Int) - 128), .slice none 0 0] 29)).alloc (.cells #[.int .u8 (97 + (X : Int) % 3)] 5)).below hbel1 (by simp; omega)
  have hbw : Below w.heap.size w w1 := (((Below.refl w.heap.size w).alloc (Nat.le_refl _) _).alloc (by simp) _).alloc (by simp; omega) _ |>.trans (hbel1.mono (by simp; omega))
  simp only [World.size_alloc] at hS
  have hgs : g ≠ w.heap.size + 1 := by omega
  have hb2 := hb1.far (p := ⟨w.heap.size + 1, 3, none⟩) hgs (.slice (some ⟨g, 0, none⟩) q q)
  have hS2 := hS.set 3 (.slice (some ⟨g, 0, none⟩) q q)
  have hR2 := hR.far (p := ⟨w.heap.size + 1, 3, none⟩) (by simp) (.slice (some ⟨g, 0, none⟩) q q)
  have hbw2 := hbw.setCell (p := ⟨w.heap.size + 1, 3, none⟩) (by simp) (.slice (some ⟨g, 0, none⟩) q q)
  have c3 := hS.cell 3
  have f3 := hS.frozen 3
  generalize hw2 : w1.setCell ⟨w.heap.size + 1, 3, none⟩ (.slice (some ⟨g, 0, none⟩) q q) = w2 at hb2 hS2 hR2 hbw2
  have HB2 := Lib.hid hb2
  have HS2 := Lib.hid hS2
  have HR2 := Lib.hid hR2
  have HBw2 := Lib.hid hbw2
  have s2 := hS2.cell 3
  clear hb1 hbel1 hS hR hbw hb2 hS2 hR2 hbw2
  have hsz2 := HS2.out.lt
  obtain ⟨A3, q3, w3, hr3, hd3, hb3⟩ := run_append_new (c := 98) (x := .int .u8 98) 22 rfl (HB2.out.alloc (.cells #[.int .u8 98] 5)) hs1 ht1 (List.length_replicate ..) (by omega) (Bk.new w2 _ _)
  have hd4 := hd3.mono (B' := w.heap.size) (by simp; omega)
  have hS3 := (HS2.out.alloc (.cells #[.int .u8 98] 5)).below hb3 (by simp; omega)
  have hR3 := (HR2.out.alloc (.cells #[.int .u8 98] 5)).below hb3 (by simp; omega)
  have hbw3 : Below w.heap.size w w3 := (HBw2.out.alloc (by omega) _).trans (hb3.mono (by simp; omega))
  have u3 := hS3.cell 3
  have v3 := hS3.frozen 3
  have hS4 := hS3.set 3 (.slice A3 (q + 1) q3)
  have hR4 := hR3.far (p := ⟨w.heap.size + 1, 3, none⟩) (by simp) (.slice A3 (q + 1) q3)
  have hbw4 := hbw3.setCell (p := ⟨w.heap.size + 1, 3, none⟩) (by simp) (.slice A3 (q + 1) q3)
  have hd5 : DataAt (w3.setCell ⟨w.heap.size + 1, 3, none⟩ (.slice A3 (q + 1) q3)) w.heap.size A3 (q + 1) q3 (List.replicate q (letC x) ++ [98]) := hd4.keep fun g cs hg hb => hb.far (fun e => hb.ne hS3 (by decide) e) _
  generalize hw4 : w3.setCell ⟨w.heap.size + 1, 3, none⟩ (.slice A3 (q + 1) q3) = w4 at hS4 hR4 hbw4 hd5
  have e0 := hS4.cell 0
  have e1 := hS4.cell 1
  have e2 := hS4.cell 2
  have e3 := hS4.cell 3
  have z0 := hR4.cell 0
  have z1 := hR4.cell 1
  have z2 := hR4.cell 2
  have z3 := hR4.cell 3
  have y0 := hR4.frozen 0
  have y1 := hR4.frozen 1
  have y2 := hR4.frozen 2
  have y3 := hR4.frozen 3
  have HR4 := Lib.hid hR4
  have Hbw4 := Lib.hid hbw4
  have Hd5 := Lib.hid hd5
  clear hd3 hd4 hS3 hR3 hbw3 hS4 hR4 hbw4 hd5 hb3 HB2 HS2 HR2 HBw2
  go_wp2_with (at_builtin; refine Lib.wpList_append_run _ rfl (.tmp 48) (.tmp 49) _ _ rfl _ _ rfl rfl _ _ hr3 ?_)
  have hR5 := (((HR4.out.set 0 (.int .i64 6)).set 1 (.int .i64 ((X : Int) - 128))).set 2 (.int .i64 ((Y : Int) - 128))).set 3 (.slice A3 (q + 1) q3)
  refine step_ret (g := w.heap.size) (A := A3) (n := (q + 1)) (c := q3) rfl ?_ ?_ ?_
  · rw [← Ht.out]; exact hR5
  · rw [HD.out, if_pos (by omega)]
    exact Hd5.out.keep fun g cs hg hb => by
      have hne := hb.ne HR4.out (by decide)
      exact (((hb.far (p := ⟨w.heap.size, 0, none⟩) hne _).far (p := ⟨w.heap.size, 1, none⟩) hne _).far (p := ⟨w.heap.size, 2, none⟩) hne _).far (p := ⟨w.heap.size, 3, none⟩) hne _
  · exact (((Hbw4.out.setCell (Nat.le_refl _) _).setCell (Nat.le_refl _) _).setCell (Nat.le_refl _) _).setCell (Nat.le_refl _) _
set_option maxRecDepth 100000 in
set_option maxHeartbeats 4000000 in
theorem Step_mid6 (k x y : UInt8) (hd : hasD k = true) (w : World) (q : Nat) (hq : y.toNat % 4 = q) (h1 : k.toNat % 8 = 5) (hi : 128 ≤ k.toNat ∧ k.toNat < 248) : Calls Tryz.prog 17 #[bv k, bv x, bv y] w (StepPost w k x y) := by
  obtain ⟨K, hK⟩ : ∃ K, k.toNat = K := ⟨_, rfl⟩
  obtain ⟨X, hX⟩ : ∃ X, x.toNat = X := ⟨_, rfl⟩
  obtain ⟨Y, hY⟩ : ∃ Y, y.toNat = Y := ⟨_, rfl⟩
  have bk : K < 256 := by rw [← hK]; exact k.toNat_lt
  have bx : X < 256 := by rw [← hX]; exact x.toNat_lt
  have by' : Y < 256 := by rw [← hY]; exact y.toNat_lt
  have hD : spD k x y = List.replicate q (letC x) ++ if 128 ≤ K then [98] else [] := by unfold spD; rw [hd, if_pos rfl]; unfold letD; rw [hq, hK]
  have hk1 : spK k = (K : Int) % 8 + 1 := by unfold spK; rw [hK]; omega
  have hx : Value.int .u8 (97 + (X : Int) % 3) = bv (letC x) := by unfold bv; rw [letC_nat, hX]; exact int_eq (by omega)
  rw [hK] at h1 hi
  rw [hY] at hq
  have hqI : (Y : Int) % 4 = (q : Int) := by omega
  have hkv : (K : Int) % 8 + 1 = 6 := by omega
  have h128 : (128 : Int) ≤ (K : Int) := by omega
  have h248 : ¬ (248 : Int) ≤ (K : Int) := by omega
  have hP : spP k x = (X : Int) % 32 := by unfold spP; rw [hK, hX, if_neg (by omega)]; omega
  have hN : spN k y = (Y : Int) % 8 := by unfold spN; rw [hK, hY, if_neg (by omega)]; omega
  have ht : ∀ A n c, #[.int .i64 6, .int .i64 ((X : Int) % 32), .int .i64 ((Y : Int) % 8), .slice A n c] = stpV k x y A n c := fun A n c => by unfold stpV; rw [hk1, hP, hN, hkv]
  unfold bv
  rw [hK, hX, hY]
  have Ht := Lib.hid ht
  have HD := Lib.hid hD
  have Hx := Lib.hid hx
  clear hK hX hY hd hk1 hP hN ht hD hx
  go_enter Tryz.func17, Tryz.ntmps17
  go_wp2_with fail
  refine (Rep_any _ _ _ (letC x) q (by omega) _ (by rw [← Hx.out]; simpa using (Bk.new ((w.alloc (.cells #[.int .i64 0, .int .i64 0, .int .i64 0, .slice none 0 0] 29)).alloc (.cells #[.int .i64 6, .int .i64 ((X : Int) % 32), .int .i64 ((Y : Int) % 8), .slice none 0 0] 29)) 5 #[.int .u8 (97 + (X : Int) % 3)]).cell 0)).mono ?_
  rintro e w1 ⟨g, cs, rfl, hg, hb1, hs1, ht1, hbel1⟩
  simp only [World.size_alloc] at hg
  have hS := ((Bk.new (w.alloc (.cells #[.int .i64 0, .int .i64 0, .int .i64 0, .slice none 0 0] 29)) 29 #[.int .i64 6, .int .i64 ((X : Int) % 32), .int .i64 ((Y : Int) % 8), .slice none 0 0]).alloc (.cells #[.int .u8 (97 + (X : Int) % 3)] 5)).below hbel1 (by simp)
  have hR := (((Bk.new w 29 #[.int .i64 0, .int .i64 0, .int .i64 0, .slice none 0 0]).alloc (.cells #[.int .i64 6, .int .i64 ((X : Int) % 32), .int .i64 ((Y : Int) % 8), .slice none 0 0] 29)).alloc (.cells #[.int .u8 (97 + (X : Int) % 3)] 5)).below hbel1 (by simp; omega)
  have hbw : Below w.heap.size w w1 := (((Below.refl w.heap.size w).alloc (Nat.le_refl _) _).alloc (by simp) _).alloc (by simp; omega) _ |>.trans (hbel1.mono (by simp; omega))
  simp only [World.size_alloc] at hS
  have hgs : g ≠ w.heap.size + 1 := by omega
  have hb2 := hb1.far (p := ⟨w.heap.size + 1, 3, none⟩) hgs (.slice (some ⟨g, 0, none⟩) q q)
  have hS2 := hS.set 3 (.slice (some ⟨g, 0, none⟩) q q)
  have hR2 := hR.far (p := ⟨w.heap.size + 1, 3, none⟩) (by simp) (.slice (some ⟨g, 0, none⟩) q q)
  have hbw2 := hbw.setCell (p := ⟨w.heap.size + 1, 3, none⟩) (by simp) (.slice (some ⟨g, 0, none⟩) q q)
  have c3 := hS.cell 3
  have f3 := hS.frozen 3
  generalize hw2 : w1.setCell ⟨w.heap.size + 1, 3, none⟩ (.slice (some ⟨g, 0, none⟩) q q) = w2 at hb2 hS2 hR2 hbw2
  have HB2 := Lib.hid hb2
  have HS2 := Lib.hid hS2
  have HR2 := Lib.hid hR2
  have HBw2 := Lib.hid hbw2
  have s2 := hS2.cell 3
  clear hb1 hbel1 hS hR hbw hb2 hS2 hR2 hbw2
  have hsz2 := HS2.out.lt
  obtain ⟨A3, q3, w3, hr3, hd3, hb3⟩ := run_append_new (c := 98) (x := .int .u8 98) 22 rfl (HB2.out.alloc (.cells #[.int .u8 98] 5)) hs1 ht1 (List.length_replicate ..) (by omega) (Bk.new w2 _ _)
  have hd4 := hd3.mono (B' := w.heap.size) (by simp; omega)
  have hS3 := (HS2.out.alloc (.cells #[.int .u8 98] 5)).below hb3 (by simp; omega)
  have hR3 := (HR2.out.alloc (.cells #[.int .u8 98] 5)).below hb3 (by simp; omega)
  have hbw3 : Below w.heap.size w w3 := (HBw2.out.alloc (by omega) _).trans (hb3.mono (by simp; omega))
  have u3 := hS3.cell 3
  have v3 := hS3.frozen 3
  have hS4 := hS3.set 3 (.slice A3 (q + 1) q3)
  have hR4 := hR3.far (p := ⟨w.heap.size + 1, 3, none⟩) (by simp) (.slice A3 (q + 1) q3)
  have hbw4 := hbw3.setCell (p := ⟨w.heap.size + 1, 3, none⟩) (by simp) (.slice A3 (q + 1) q3)
  have hd5 : DataAt (w3.setCell ⟨w.heap.size + 1, 3, none⟩ (.slice A3 (q + 1) q3)) w.heap.size A3 (q + 1) q3 (List.replicate q (letC x) ++ [98]) := hd4.keep fun g cs hg hb => hb.far (fun e => hb.ne hS3 (by decide) e) _
  generalize hw4 : w3.setCell ⟨w.heap.size + 1, 3, none⟩ (.slice A3 (q + 1) q3) = w4 at hS4 hR4 hbw4 hd5
  have e0 := hS4.cell 0
  have e1 := hS4.cell 1
  have e2 := hS4.cell 2
  have e3 := hS4.cell 3
  have z0 := hR4.cell 0
  have z1 := hR4.cell 1
  have z2 := hR4.cell 2
  have z3 := hR4.cell 3
  have y0 := hR4.frozen 0
  have y1 := hR4.frozen 1
  have y2 := hR4.frozen 2
  have y3 := hR4.frozen 3
  have HR4 := Lib.hid hR4
  have Hbw4 := Lib.hid hbw4
  have Hd5 := Lib.hid hd5
  clear hd3 hd4 hS3 hR3 hbw3 hS4 hR4 hbw4 hd5 hb3 HB2 HS2 HR2 HBw2
  go_wp2_with (at_builtin; refine Lib.wpList_append_run _ rfl (.tmp 48) (.tmp 49) _ _ rfl _ _ rfl rfl _ _ hr3 ?_)
  have hR5 := (((HR4.out.set 0 (.int .i64 6)).set 1 (.int .i64 ((X : Int) % 32))).set 2 (.int .i64 ((Y : Int) % 8))).set 3 (.slice A3 (q + 1) q3)
  refine step_ret (g := w.heap.size) (A := A3) (n := (q + 1)) (c := q3) rfl ?_ ?_ ?_
  · rw [← Ht.out]; exact hR5
  · rw [HD.out, if_pos (by omega)]
    exact Hd5.out.keep fun g cs hg hb => by
      have hne := hb.ne HR4.out (by decide)
      exact (((hb.far (p := ⟨w.heap.size, 0, none⟩) hne _).far (p := ⟨w.heap.size, 1, none⟩) hne _).far (p := ⟨w.heap.size, 2, none⟩) hne _).far (p := ⟨w.heap.size, 3, none⟩) hne _
  · exact (((Hbw4.out.setCell (Nat.le_refl _) _).setCell (Nat.le_refl _) _).setCell (Nat.le_refl _) _).setCell (Nat.le_refl _) _
set_option maxRecDepth 100000 in
set_option maxHeartbeats 4000000 in
theorem Step_low6 (k x y : UInt8) (hd : hasD k = true) (w : World) (q : Nat) (hq : y.toNat % 4 = q) (h1 : k.toNat % 8 = 5) (hi : k.toNat < 128) : Calls Tryz.prog 17 #[bv k, bv x, bv y] w (StepPost w k x y) := by
  obtain ⟨K, hK⟩ : ∃ K, k.toNat = K := ⟨_, rfl⟩
  obtain ⟨X, hX⟩ : ∃ X, x.toNat = X := ⟨_, rfl⟩
  obtain ⟨Y, hY⟩ : ∃ Y, y.toNat = Y := ⟨_, rfl⟩
  have bk : K < 256 := by rw [← hK]; exact k.toNat_lt
  have bx : X < 256 := by rw [← hX]; exact x.toNat_lt
  have by' : Y < 256 := by rw [← hY]; exact y.toNat_lt
  have hD : spD k x y = List.replicate q (letC x) ++ if 128 ≤ K then [98] else [] := by unfold spD; rw [hd, if_pos rfl]; unfold letD; rw [hq, hK]
  have hk1 : spK k = (K : Int) % 8 + 1 := by unfold spK; rw [hK]; omega
  have hx : Value.int .u8 (97 + (X : Int) % 3) = bv (letC x) := by unfold bv; rw [letC_nat, hX]; exact int_eq (by omega)
  rw [hK] at h1 hi
  rw [hY] at hq
  have hqI : (Y : Int) % 4 = (q : Int) := by omega
  have hkv : (K : Int) % 8 + 1 = 6 := by omega
  have h128 : ¬ (128 : Int) ≤ (K : Int) := by omega
  have h248 : ¬ (248 : Int) ≤ (K : Int) := by omega
  have hP : spP k x = (X : Int) % 32 := by unfold spP; rw [hK, hX, if_neg (by omega)]; omega
  have hN : spN k y = (Y : Int) % 8 := by unfold spN; rw [hK, hY, if_neg (by omega)]; omega
  have ht : ∀ A n c, #[.int .i64 6, .int .i64 ((X : Int) % 32), .int .i64 ((Y : Int) % 8), .slice A n c] = stpV k x y A n c := fun A n c => by unfold stpV; rw [hk1, hP, hN, hkv]
  unfold bv
  rw [hK, hX, hY]
  have Ht := Lib.hid ht
  have HD := Lib.hid hD
  have Hx := Lib.hid hx
  clear hK hX hY hd hk1 hP hN ht hD hx
  go_enter Tryz.func17, Tryz.ntmps17
  go_wp2_with fail
  refine (Rep_any _ _ _ (letC x) q (by omega) _ (by rw [← Hx.out]; simpa using (Bk.new ((w.alloc (.cells #[.int .i64 0, .int .i64 0, .int .i64 0, .slice none 0 0] 29)).alloc (.cells #[.int .i64 6, .int .i64 ((X : Int) % 32), .int .i64 ((Y : Int) % 8), .slice none 0 0] 29)) 5 #[.int .u8 (97 + (X : Int) % 3)]).cell 0)).mono ?_
  rintro e w1 ⟨g, cs, rfl, hg, hb1, hs1, ht1, hbel1⟩
  simp only [World.size_alloc] at hg
  have hS := ((Bk.new (w.alloc (.cells #[.int .i64 0, .int .i64 0, .int .i64 0, .slice none 0 0] 29)) 29 #[.int .i64 6, .int .i64 ((X : Int) % 32), .int .i64 ((Y : Int) % 8), .slice none 0 0]).alloc (.cells #[.int .u8 (97 + (X : Int) % 3)] 5)).below hbel1 (by simp)
  have hR := (((Bk.new w 29 #[.int .i64 0, .int .i64 0, .int .i64 0, .slice none 0 0]).alloc (.cells #[.int .i64 6, .int .i64 ((X : Int) % 32), .int .i64 ((Y : Int) % 8), .slice none 0 0] 29)).alloc (.cells #[.int .u8 (97 + (X : Int) % 3)] 5)).below hbel1 (by simp; omega)
  have hbw : Below w.heap.size w w1 := (((Below.refl w.heap.size w).alloc (Nat.le_refl _) _).alloc (by simp) _).alloc (by simp; omega) _ |>.trans (hbel1.mono (by simp; omega))
  simp only [World.size_alloc] at hS
  have hgs : g ≠ w.heap.size + 1 := by omega
  have hb2 := hb1.far (p := ⟨w.heap.size + 1, 3, none⟩) hgs (.slice (some ⟨g, 0, none⟩) q q)
  have hS2 := hS.set 3 (.slice (some ⟨g, 0, none⟩) q q)
  have hR2 := hR.far (p := ⟨w.heap.size + 1, 3, none⟩) (by simp) (.slice (some ⟨g, 0, none⟩) q q)
  have hbw2 := hbw.setCell (p := ⟨w.heap.size + 1, 3, none⟩) (by simp) (.slice (some ⟨g, 0, none⟩) q q)
  have c3 := hS.cell 3
  have f3 := hS.frozen 3
  generalize hw2 : w1.setCell ⟨w.heap.size + 1, 3, none⟩ (.slice (some ⟨g, 0, none⟩) q q) = w2 at hb2 hS2 hR2 hbw2
  obtain ⟨w4, rfl⟩ : ∃ w4, w2 = w4 := ⟨_, rfl⟩
  obtain ⟨A3, hA3⟩ : ∃ A3, some (⟨g, 0, none⟩ : Addr) = A3 := ⟨_, rfl⟩
  have hS4 := hS2
  have hR4 := hR2
  have hbw4 := hbw2
  have hd5 : DataAt w2 w.heap.size (some ⟨g, 0, none⟩) q q (List.replicate q (letC x)) := ⟨List.length_replicate .., Nat.le_refl _, by unfold maxLen; omega, .inr ⟨g, cs, rfl, by omega, hb2, hs1, ht1⟩⟩
  have e0 := hS4.cell 0
  have e1 := hS4.cell 1
  have e2 := hS4.cell 2
  have e3 := hS4.cell 3
  have z0 := hR4.cell 0
  have z1 := hR4.cell 1
  have z2 := hR4.cell 2
  have z3 := hR4.cell 3
  have y0 := hR4.frozen 0
  have y1 := hR4.frozen 1
  have y2 := hR4.frozen 2
  have y3 := hR4.frozen 3
  have HR4 := Lib.hid hR4
  have Hbw4 := Lib.hid hbw4
  have Hd5 := Lib.hid hd5
  clear hb1 hbel1 hS hR hbw hb2 hS2 hR2 hbw2 hS4 hR4 hbw4 hd5 hA3 A3
  go_wp2_with fail
  have hR5 := (((HR4.out.set 0 (.int .i64 6)).set 1 (.int .i64 ((X : Int) % 32))).set 2 (.int .i64 ((Y : Int) % 8))).set 3 (.slice (some ⟨g, 0, none⟩) q q)
  refine step_ret (g := w.heap.size) (A := (some ⟨g, 0, none⟩)) (n := q) (c := q) rfl ?_ ?_ ?_
  · rw [← Ht.out]; exact hR5
  · rw [HD.out, if_neg (by omega), List.append_nil]
    exact Hd5.out.keep fun g cs hg hb => by
      have hne := hb.ne HR4.out (by decide)
      exact (((hb.far (p := ⟨w.heap.size, 0, none⟩) hne _).far (p := ⟨w.heap.size, 1, none⟩) hne _).far (p := ⟨w.heap.size, 2, none⟩) hne _).far (p := ⟨w.heap.size, 3, none⟩) hne _
  · exact (((Hbw4.out.setCell (Nat.le_refl _) _).setCell (Nat.le_refl _) _).setCell (Nat.le_refl _) _).setCell (Nat.le_refl _) _
set_option maxRecDepth 100000 in
set_option maxHeartbeats 4000000 in
theorem Step_raw7 (k x y : UInt8) (hd : hasD k = true) (w : World) (q : Nat) (hq : y.toNat % 4 = q) (h1 : k.toNat % 8 = 6) (hi : 248 ≤ k.toNat) : Calls Tryz.prog 17 #[bv k, bv x, bv y] w (StepPost w k x y) := by
  obtain ⟨K, hK⟩ : ∃ K, k.toNat = K := ⟨_, rfl⟩
  obtain ⟨X, hX⟩ : ∃ X, x.toNat = X := ⟨_, rfl⟩
  obtain ⟨Y, hY⟩ : ∃ Y, y.toNat = Y := ⟨_, rfl⟩
  have bk : K < 256 := by rw [← hK]; exact k.toNat_lt
  have bx : X < 256 := by rw [← hX]; exact x.toNat_lt
  have by' : Y < 256 := by rw [← hY]; exact y.toNat_lt
  have hD : spD k x y = List.replicate q (letC x) ++ if 128 ≤ K then [98] else [] := by unfold spD; rw [hd, if_pos rfl]; unfold letD; rw [hq, hK]
  have hk1 : spK k = (K : Int) % 8 + 1 := by unfold spK; rw [hK]; omega
  have hx : Value.int .u8 (97 + (X : Int) % 3) = bv (letC x) := by unfold bv; rw [letC_nat, hX]; exact int_eq (by omega)
  rw [hK] at h1 hi
  rw [hY] at hq
  have hqI : (Y : Int) % 4 = (q : Int) := by omega
  have hkv : (K : Int) % 8 + 1 = 7 := by omega
  have h128 : (128 : Int) ≤ (K : Int) := by omega
  have h248 : (248 : Int) ≤ (K : Int) := by omega
  have hP : spP k x = (X : Int) - 128 := by unfold spP; rw [hK, hX, if_pos hi]
  have hN : spN k y = (Y : Int) - 128 := by unfold spN; rw [hK, hY, if_pos hi]
  have ht : ∀ A n c, #[.int .i64 7, .int .i64 ((X : Int) - 128), .int .i64 ((Y : Int) - 128), .slice A n c] = stpV k x y A n c := fun A n c => by unfold stpV; rw [hk1, hP, hN, hkv]
  unfold bv
  rw [hK, hX, hY]
  have Ht := Lib.hid ht
  have HD := Lib.hid hD
  have Hx := Lib.hid hx
  clear hK hX hY hd hk1 hP hN ht hD hx
  go_enter Tryz.func17, Tryz.ntmps17
  go_wp2_with fail
  refine (Rep_any _ _ _ (letC x) q (by omega) _ (by rw [← Hx.out]; simpa using (Bk.new ((w.alloc (.cells #[.int .i64 0, .int .i64 0, .int .i64 0, .slice none 0 0] 29)).alloc (.cells #[.int .i64 7, .int .i64 ((X : Int) - 128), .int .i64 ((Y : Int) - 128), .slice none 0 0] 29)) 5 #[.int .u8 (97 + (X : Int) % 3)]).cell 0)).mono ?_
  rintro e w1 ⟨g, cs, rfl, hg, hb1, hs1, ht1, hbel1⟩
  simp only [World.size_alloc] at hg
  have hS := ((Bk.new (w.alloc (.cells #[.int .i64 0, .int .i64 0, .int .i64 0, .slice none 0 0] 29)) 29 #[.int .i64 7, .int .i64 ((X : Int) - 128), .int .i64 ((Y : Int) - 128), .slice none 0 0]).alloc (.cells #[.int .u8 (97 + (X : Int) % 3)] 5)).below hbel1 (by simp)
  have hR := (((Bk.new w 29 #[.int .i64 0, .int .i64 0, .int .i64 0, .slice none 0 0]).alloc (.cells #[.int .i64 7, .int .i64 ((X : Int) - 128), .int .i64 ((Y : Int) - 128), .slice none 0 0] 29)).alloc (.cells #[.int .u8 (97 + (X : Int) % 3)] 5)).below hbel1 (by simp; omega)
  have hbw : Below w.heap.size w w1 := (((Below.refl w.heap.size w).alloc (Nat.le_refl _) _).alloc (by simp) _).alloc (by simp; omega) _ |>.trans (hbel1.mono (by simp; omega))
  simp only [World.size_alloc] at hS
  have hgs : g ≠ w.heap.size + 1 := by omega
  have hb2 := hb1.far (p := ⟨w.heap.size + 1, 3, none⟩) hgs (.slice (some ⟨g, 0, none⟩) q q)
  have hS2 := hS.set 3 (.slice (some ⟨g, 0, none⟩) q q)
  have hR2 := hR.far (p := ⟨w.heap.size + 1, 3, none⟩) (by simp) (.slice (some ⟨g, 0, none⟩) q q)
  have hbw2 := hbw.setCell (p := ⟨w.heap.size + 1, 3, none⟩) (by simp) (.slice (some ⟨g, 0, none⟩) q q)
  have c3 := hS.cell 3
  have f3 := hS.frozen 3
  generalize hw2 : w1.setCell ⟨w.heap.size + 1, 3, none⟩ (.slice (some ⟨g, 0, none⟩) q q) = w2 at hb2 hS2 hR2 hbw2
  have HB2 := Lib.hid hb2
  have HS2 := Lib.hid hS2
  have HR2 := Lib.hid hR2
  have HBw2 := Lib.hid hbw2
  have s2 := hS2.cell 3
  clear hb1 hbel1 hS hR hbw hb2 hS2 hR2 hbw2
  have hsz2 := HS2.out.lt
  obtain ⟨A3, q3, w3, hr3, hd3, hb3⟩ := run_append_new (c := 98) (x := .int .u8 98) 22 rfl (HB2.out.alloc (.cells #[.int .u8 98] 5)) hs1 ht1 (List.length_replicate ..) (by omega) (Bk.new w2 _ _)
  have hd4 := hd3.mono (B' := w.heap.size) (by simp; omega)
  have hS3 := (HS2.out.alloc (.cells #[.int .u8 98] 5)).below hb3 (by simp; omega)
  have hR3 := (HR2.out.alloc (.cells #[.int .u8 98] 5)).below hb3 (by simp; omega)
  have hbw3 : Below w.heap.size w w3 := (HBw2.out.alloc (by omega) _).trans (hb3.mono (by simp; omega))
  have u3 := hS3.cell 3
  have v3 := hS3.frozen 3
  have hS4 := hS3.set 3 (.slice A3 (q + 1) q3)
  have hR4 := hR3.far (p := ⟨w.heap.size + 1, 3, none⟩) (by simp) (.slice A3 (q + 1) q3)
  have hbw4 := hbw3.setCell (p := ⟨w.heap.size + 1, 3, none⟩) (by simp) (.slice A3 (q + 1) q3)
  have hd5 : DataAt (w3.setCell ⟨w.heap.size + 1, 3, none⟩ (.slice A3 (q + 1) q3)) w.heap.size A3 (q + 1) q3 (List.replicate q (letC x) ++ [98]) := hd4.keep fun g cs hg hb => hb.far (fun e => hb.ne hS3 (by decide) e) _
  generalize hw4 : w3.setCell ⟨w.heap.size + 1, 3, none⟩ (.slice A3 (q + 1) q3) = w4 at hS4 hR4 hbw4 hd5
  have e0 := hS4.cell 0
  have e1 := hS4.cell 1
  have e2 := hS4.cell 2
  have e3 := hS4.cell 3
  have z0 := hR4.cell 0
  have z1 := hR4.cell 1
  have z2 := hR4.cell 2
  have z3 := hR4.cell 3
  have y0 := hR4.frozen 0
  have y1 := hR4.frozen 1
  have y2 := hR4.frozen 2
  have y3 := hR4.frozen 3
  have HR4 := Lib.hid hR4
  have Hbw4 := Lib.hid hbw4
  have Hd5 := Lib.hid hd5
  clear hd3 hd4 hS3 hR3 hbw3 hS4 hR4 hbw4 hd5 hb3 HB2 HS2 HR2 HBw2
  go_wp2_with (at_builtin; refine Lib.wpList_append_run _ rfl (.tmp 48) (.tmp 49) _ _ rfl _ _ rfl rfl _ _ hr3 ?_)
  have hR5 := (((HR4.out.set 0 (.int .i64 7)).set 1 (.int .i64 ((X : Int) - 128))).set 2 (.int .i64 ((Y : Int) - 128))).set 3 (.slice A3 (q + 1) q3)
  refine step_ret (g := w.heap.size) (A := A3) (n := (q + 1)) (c := q3) rfl ?_ ?_ ?_
  · rw [← Ht.out]; exact hR5
  · rw [HD.out, if_pos (by omega)]
    exact Hd5.out.keep fun g cs hg hb => by
      have hne := hb.ne HR4.out (by decide)
      exact (((hb.far (p := ⟨w.heap.size, 0, none⟩) hne _).far (p := ⟨w.heap.size, 1, none⟩) hne _).far (p := ⟨w.heap.size, 2, none⟩) hne _).far (p := ⟨w.heap.size, 3, none⟩) hne _
  · exact (((Hbw4.out.setCell (Nat.le_refl _) _).setCell (Nat.le_refl _) _).setCell (Nat.le_refl _) _).setCell (Nat.le_refl _) _
set_option maxRecDepth 100000 in
set_option maxHeartbeats 4000000 in
theorem Step_mid7 (k x y : UInt8) (hd : hasD k = true) (w : World) (q : Nat) (hq : y.toNat % 4 = q) (h1 : k.toNat % 8 = 6) (hi : 128 ≤ k.toNat ∧ k.toNat < 248) : Calls Tryz.prog 17 #[bv k, bv x, bv y] w (StepPost w k x y) := by
  obtain ⟨K, hK⟩ : ∃ K, k.toNat = K := ⟨_, rfl⟩
  obtain ⟨X, hX⟩ : ∃ X, x.toNat = X := ⟨_, rfl⟩
  obtain ⟨Y, hY⟩ : ∃ Y, y.toNat = Y := ⟨_, rfl⟩
  have bk : K < 256 := by rw [← hK]; exact k.toNat_lt
  have bx : X < 256 := by rw [← hX]; exact x.toNat_lt
  have by' : Y < 256 := by rw [← hY]; exact y.toNat_lt
  have hD : spD k x y = List.replicate q (letC x) ++ if 128 ≤ K then [98] else [] := by unfold spD; rw [hd, if_pos rfl]; unfold letD; rw [hq, hK]
  have hk1 : spK k = (K : Int) % 8 + 1 := by unfold spK; rw [hK]; omega
  have hx : Value.int .u8 (97 + (X : Int) % 3) = bv (letC x) := by unfold bv; rw [letC_nat, hX]; exact int_eq (by omega)
  rw [hK] at h1 hi
  rw [hY] at hq
  have hqI : (Y : Int) % 4 = (q : Int) := by omega
  have hkv : (K : Int) % 8 + 1 = 7 := by omega
  have h128 : (128 : Int) ≤ (K : Int) := by omega
  have h248 : ¬ (248 : Int) ≤ (K : Int) := by omega
  have hP : spP k x = (X : Int) % 32 := by unfold spP; rw [hK, hX, if_neg (by omega)]; omega
  have hN : spN k y = (Y : Int) % 8 := by unfold spN; rw [hK, hY, if_neg (by omega)]; omega
  have ht : ∀ A n c, #[.int .i64 7, .int .i64 ((X : Int) % 32), .int .i64 ((Y : Int) % 8), .slice A n c] = stpV k x y A n c := fun A n c => by unfold stpV; rw [hk1, hP, hN, hkv]
  unfold bv
  rw [hK, hX, hY]
  have Ht := Lib.hid ht
  have HD := Lib.hid hD
  have Hx := Lib.hid hx
  clear hK hX hY hd hk1 hP hN ht hD hx
  go_enter Tryz.func17, Tryz.ntmps17
  go_wp2_with fail
  refine (Rep_any _ _ _ (letC x) q (by omega) _ (by rw [← Hx.out]; simpa using (Bk.new ((w.alloc (.cells #[.int .i64 0, .int .i64 0, .int .i64 0, .slice none 0 0] 29)).alloc (.cells #[.int .i64 7, .int .i64 ((X : Int) % 32), .int .i64 ((Y : Int) % 8), .slice none 0 0] 29)) 5 #[.int .u8 (97 + (X : Int) % 3)]).cell 0)).mono ?_
  rintro e w1 ⟨g, cs, rfl, hg, hb1, hs1, ht1, hbel1⟩
  simp only [World.size_alloc] at hg
  have hS := ((Bk.new (w.alloc (.cells #[.int .i64 0, .int .i64 0, .int .i64 0, .slice none 0 0] 29)) 29 #[.int .i64 7, .int .i64 ((X : Int) % 32), .int .i64 ((Y : Int) % 8), .slice none 0 0]).alloc (.cells #[.int .u8 (97 + (X : Int) % 3)] 5)).below hbel1 (by simp)
  have hR := (((Bk.new w 29 #[.int .i64 0, .int .i64 0, .int .i64 0, .slice none 0 0]).alloc (.cells #[.int .i64 7, .int .i64 ((X : Int) % 32), .int .i64 ((Y : Int) % 8), .slice none 0 0] 29)).alloc (.cells #[.int .u8 (97 + (X : Int) % 3)] 5)).below hbel1 (by simp; omega)
  have hbw : Below w.heap.size w w1 := (((Below.refl w.heap.size w).alloc (Nat.le_refl _) _).alloc (by simp) _).alloc (by simp; omega) _ |>.trans (hbel1.mono (by simp; omega))
  simp only [World.size_alloc] at hS
  have hgs : g ≠ w.heap.size + 1 := by omega
  have hb2 := hb1.far (p := ⟨w.heap.size + 1, 3, none⟩) hgs (.slice (some ⟨g, 0, none⟩) q q)
  have hS2 := hS.set 3 (.slice (some ⟨g, 0, none⟩) q q)
  have hR2 := hR.far (p := ⟨w.heap.size + 1, 3, none⟩) (by simp) (.slice (some ⟨g, 0, none⟩) q q)
  have hbw2 := hbw.setCell (p := ⟨w.heap.size + 1, 3, none⟩) (by simp) (.slice (some ⟨g, 0, none⟩) q q)
  have c3 := hS.cell 3
  have f3 := hS.frozen 3
  generalize hw2 : w1.setCell ⟨w.heap.size + 1, 3, none⟩ (.slice (some ⟨g, 0, none⟩) q q) = w2 at hb2 hS2 hR2 hbw2
  have HB2 := Lib.hid hb2
  have HS2 := Lib.hid hS2
  have HR2 := Lib.hid hR2
  have HBw2 := Lib.hid hbw2
  have s2 := hS2.cell 3
  clear hb1 hbel1 hS hR hbw hb2 hS2 hR2 hbw2
  have hsz2 := HS2.out.lt
  obtain ⟨A3, q3, w3, hr3, hd3, hb3⟩ := run_append_new (c := 98) (x := .int .u8 98) 22 rfl (HB2.out.alloc (.cells #[.int .u8 98] 5)) hs1 ht1 (List.length_replicate ..) (by omega) (Bk.new w2 _ _)
  have hd4 := hd3.mono (B' := w.heap.size) (by simp; omega)
  have hS3 := (HS2.out.alloc (.cells #[.int .u8 98] 5)).below hb3 (by simp; omega)
  have hR3 := (HR2.out.alloc (.cells #[.int .u8 98] 5)).below hb3 (by simp; omega)
  have hbw3 : Below w.heap.size w w3 := (HBw2.out.alloc (by omega) _).trans (hb3.mono (by simp; omega))
  have u3 := hS3.cell 3
  have v3 := hS3.frozen 3
  have hS4 := hS3.set 3 (.slice A3 (q + 1) q3)
  have hR4 := hR3.far (p := ⟨w.heap.size + 1, 3, none⟩) (by simp) (.slice A3 (q + 1) q3)
  have hbw4 := hbw3.setCell (p := ⟨w.heap.size + 1, 3, none⟩) (by simp) (.slice A3 (q + 1) q3)
  have hd5 : DataAt (w3.setCell ⟨w.heap.size + 1, 3, none⟩ (.slice A3 (q + 1) q3)) w.heap.size A3 (q + 1) q3 (List.replicate q (letC x) ++ [98]) := hd4.keep fun g cs hg hb => hb.far (fun e => hb.ne hS3 (by decide) e) _
  generalize hw4 : w3.setCell ⟨w.heap.size + 1, 3, none⟩ (.slice A3 (q + 1) q3) = w4 at hS4 hR4 hbw4 hd5
  have e0 := hS4.cell 0
  have e1 := hS4.cell 1
  have e2 := hS4.cell 2
  have e3 := hS4.cell 3
  have z0 := hR4.cell 0
  have z1 := hR4.cell 1
  have z2 := hR4.cell 2
  have z3 := hR4.cell 3
  have y0 := hR4.frozen 0
  have y1 := hR4.frozen 1
  have y2 := hR4.frozen 2
  have y3 := hR4.frozen 3
  have HR4 := Lib.hid hR4
  have Hbw4 := Lib.hid hbw4
  have Hd5 := Lib.hid hd5
  clear hd3 hd4 hS3 hR3 hbw3 hS4 hR4 hbw4 hd5 hb3 HB2 HS2 HR2 HBw2
  go_wp2_with (at_builtin; refine Lib.wpList_append_run _ rfl (.tmp 48) (.tmp 49) _ _ rfl _ _ rfl rfl _ _ hr3 ?_)
  have hR5 := (((HR4.out.set 0 (.int .i64 7)).set 1 (.int .i64 ((X : Int) % 32))).set 2 (.int .i64 ((Y : Int) % 8))).set 3 (.slice A3 (q + 1) q3)
  refine step_ret (g := w.heap.size) (A := A3) (n := (q + 1)) (c := q3) rfl ?_ ?_ ?_
  · rw [← Ht.out]; exact hR5
  · rw [HD.out, if_pos (by omega)]
    exact Hd5.out.keep fun g cs hg hb => by
      have hne := hb.ne HR4.out (by decide)
      exact (((hb.far (p := ⟨w.heap.size, 0, none⟩) hne _).far (p := ⟨w.heap.size, 1, none⟩) hne _).far (p := ⟨w.heap.size, 2, none⟩) hne _).far (p := ⟨w.heap.size, 3, none⟩) hne _
  · exact (((Hbw4.out.setCell (Nat.le_refl _) _).setCell (Nat.le_refl _) _).setCell (Nat.le_refl _) _).setCell (Nat.le_refl _) _
set_option maxRecDepth 100000 in
set_option maxHeartbeats 4000000 in
theorem Step_low7 (k x y : UInt8) (hd : hasD k = true) (w : World) (q : Nat) (hq : y.toNat % 4 = q) (h1 : k.toNat % 8 = 6) (hi : k.toNat < 128) : Calls Tryz.prog 17 #[bv k, bv x, bv y] w (StepPost w k x y) := by
  obtain ⟨K, hK⟩ : ∃ K, k.toNat = K := ⟨_, rfl⟩
  obtain ⟨X, hX⟩ : ∃ X, x.toNat = X := ⟨_, rfl⟩
  obtain ⟨Y, hY⟩ : ∃ Y, y.toNat = Y := ⟨_, rfl⟩
  have bk : K < 256 := by rw [← hK]; exact k.toNat_lt
  have bx : X < 256 := by rw [← hX]; exact x.toNat_lt
  have by' : Y < 256 := by rw [← hY]; exact y.toNat_lt
  have hD : spD k x y = List.replicate q (letC x) ++ if 128 ≤ K then [98] else [] := by unfold spD; rw [hd, if_pos rfl]; unfold letD; rw [hq, hK]
  have hk1 : spK k = (K : Int) % 8 + 1 := by unfold spK; rw [hK]; omega
  have hx : Value.int .u8 (97 + (X : Int) % 3) = bv (letC x) := by unfold bv; rw [letC_nat, hX]; exact int_eq (by omega)
  rw [hK] at h1 hi
  rw [hY] at hq
  have hqI : (Y : Int) % 4 = (q : Int) := by omega
  have hkv : (K : Int) % 8 + 1 = 7 := by omega
  have h128 : ¬ (128 : Int) ≤ (K : Int) := by omega
  have h248 : ¬ (248 : Int) ≤ (K : Int) := by omega
  have hP : spP k x = (X : Int) % 32 := by unfold spP; rw [hK, hX, if_neg (by omega)]; omega
  have hN : spN k y = (Y : Int) % 8 := by unfold spN; rw [hK, hY, if_neg (by omega)]; omega
  have ht : ∀ A n c, #[.int .i64 7, .int .i64 ((X : Int) % 32), .int .i64 ((Y : Int) % 8), .slice A n c] = stpV k x y A n c := fun A n c => by unfold stpV; rw [hk1, hP, hN, hkv]
  unfold bv
  rw [hK, hX, hY]
  have Ht := Lib.hid ht
  have HD := Lib.hid hD
  have Hx := Lib.hid hx
  clear hK hX hY hd hk1 hP hN ht hD hx
  go_enter Tryz.func17, Tryz.ntmps17
  go_wp2_with fail
  refine (Rep_any _ _ _ (letC x) q (by omega) _ (by rw [← Hx.out]; simpa using (Bk.new ((w.alloc (.cells #[.int .i64 0, .int .i64 0, .int .i64 0, .slice none 0 0] 29)).alloc (.cells #[.int .i64 7, .int .i64 ((X : Int) % 32), .int .i64 ((Y : Int) % 8), .slice none 0 0] 29)) 5 #[.int .u8 (97 + (X : Int) % 3)]).cell 0)).mono ?_
  rintro e w1 ⟨g, cs, rfl, hg, hb1, hs1, ht1, hbel1⟩
  simp only [World.size_alloc] at hg
  have hS := ((Bk.new (w.alloc (.cells #[.int .i64 0, .int .i64 0, .int .i64 0, .slice none 0 0] 29)) 29 #[.int .i64 7, .int .i64 ((X : Int) % 32), .int .i64 ((Y : Int) % 8), .slice none 0 0]).alloc (.cells #[.int .u8 (97 + (X : Int) % 3)] 5)).below hbel1 (by simp)
  have hR := (((Bk.new w 29 #[.int .i64 0, .int .i64 0, .int .i64 0, .slice none 0 0]).alloc (.cells #[.int .i64 7, .int .i64 ((X : Int) % 32), .int .i64 ((Y : Int) % 8), .slice none 0 0] 29)).alloc (.cells #[.int .u8 (97 + (X : Int) % 3)] 5)).below hbel1 (by simp; omega)
  have hbw : Below w.heap.size w w1 := (((Below.refl w.heap.size w).alloc (Nat.le_refl _) _).alloc (by simp) _).alloc (by simp; omega) _ |>.trans (hbel1.mono (by simp; omega))
  simp only [World.size_alloc] at hS
  have hgs : g ≠ w.heap.size + 1 := by omega
  have hb2 := hb1.far (p := ⟨w.heap.size + 1, 3, none⟩) hgs (.slice (some ⟨g, 0, none⟩) q q)
  have hS2 := hS.set 3 (.slice (some ⟨g, 0, none⟩) q q)
  have hR2 := hR.far (p := ⟨w.heap.size + 1, 3, none⟩) (by simp) (.slice (some ⟨g, 0, none⟩) q q)
  have hbw2 := hbw.setCell (p := ⟨w.heap.size + 1, 3, none⟩) (by simp) (.slice (some ⟨g, 0, none⟩) q q)
  have c3 := hS.cell 3
  have f3 := hS.frozen 3
  generalize hw2 : w1.setCell ⟨w.heap.size + 1, 3, none⟩ (.slice (some ⟨g, 0, none⟩) q q) = w2 at hb2 hS2 hR2 hbw2
  obtain ⟨w4, rfl⟩ : ∃ w4, w2 = w4 := ⟨_, rfl⟩
  obtain ⟨A3, hA3⟩ : ∃ A3, some (⟨g, 0, none⟩ : Addr) = A3 := ⟨_, rfl⟩
  have hS4 := hS2
  have hR4 := hR2
  have hbw4 := hbw2
  have hd5 : DataAt w2 w.heap.size (some ⟨g, 0, none⟩) q q (List.replicate q (letC x)) := ⟨List.length_replicate .., Nat.le_refl _, by unfold maxLen; omega, .inr ⟨g, cs, rfl, by omega, hb2, hs1, ht1⟩⟩
  have e0 := hS4.cell 0
  have e1 := hS4.cell 1
  have e2 := hS4.cell 2
  have e3 := hS4.cell 3
  have z0 := hR4.cell 0
  have z1 := hR4.cell 1
  have z2 := hR4.cell 2
  have z3 := hR4.cell 3
  have y0 := hR4.frozen 0
  have y1 := hR4.frozen 1
  have y2 := hR4.frozen 2
  have y3 := hR4.frozen 3
  have HR4 := Lib.hid hR4
  have Hbw4 := Lib.hid hbw4
  have Hd5 := Lib.hid hd5
  clear hb1 hbel1 hS hR hbw hb2 hS2 hR2 hbw2 hS4 hR4 hbw4 hd5 hA3 A3
  go_wp2_with fail
  have hR5 := (((HR4.out.set 0 (.int .i64 7)).set 1 (.int .i64 ((X : Int) % 32))).set 2 (.int .i64 ((Y : Int) % 8))).set 3 (.slice (some ⟨g, 0, none⟩) q q)
  refine step_ret (g := w.heap.size) (A := (some ⟨g, 0, none⟩)) (n := q) (c := q) rfl ?_ ?_ ?_
  · rw [← Ht.out]; exact hR5
  · rw [HD.out, if_neg (by omega), List.append_nil]
    exact Hd5.out.keep fun g cs hg hb => by
      have hne := hb.ne HR4.out (by decide)
      exact (((hb.far (p := ⟨w.heap.size, 0, none⟩) hne _).far (p := ⟨w.heap.size, 1, none⟩) hne _).far (p := ⟨w.heap.size, 2, none⟩) hne _).far (p := ⟨w.heap.size, 3, none⟩) hne _
  · exact (((Hbw4.out.setCell (Nat.le_refl _) _).setCell (Nat.le_refl _) _).setCell (Nat.le_refl _) _).setCell (Nat.le_refl _) _
theorem Step_any (k x y : UInt8) (w : World) : Calls Tryz.prog 17 #[bv k, bv x, bv y] w (StepPost w k x y) := by
  cases hd : hasD k with
  | false => exact Step_other k x y hd w
  | true =>
    have h := hd
    unfold hasD at h
    simp only [Bool.or_eq_true, decide_eq_true_eq] at h
    have hr : 248 ≤ k.toNat ∨ (128 ≤ k.toNat ∧ k.toNat < 248) ∨ k.toNat < 128 := by omega
    rcases h with ((h | h) | h) | h <;> rcases hr with hr | hr | hr
    · exact Step_raw1 k x y hd w _ rfl h hr
    · exact Step_mid1 k x y hd w _ rfl h hr
    · exact Step_low1 k x y hd w _ rfl h hr
    · exact Step_raw3 k x y hd w _ rfl h hr
    · exact Step_mid3 k x y hd w _ rfl h hr
    · exact Step_low3 k x y hd w _ rfl h hr
    · exact Step_raw6 k x y hd w _ rfl h hr
    · exact Step_mid6 k x y hd w _ rfl h hr
    · exact Step_low6 k x y hd w _ rfl h hr
    · exact Step_raw7 k x y hd w _ rfl h hr
    · exact Step_mid7 k x y hd w _ rfl h hr
    · exact Step_low7 k x y hd w _ rfl h hr
end Go.Proofs.YtnileogagoipiaaGreatDoor
namespace Go.Proofs.YtnileogagoipiaaGreatDoor
open Go.RowKit
set_option linter.unusedVariables false
set_option linter.unusedSimpArgs false
/-- Steps in a row, each with its bytes elsewhere. -/
def StpsAt (w : World) (B : Nat) : List Value → List Sp → Prop
  | xs, [] => xs = []
  | xs, s :: L => ∃ A n c ys, xs = .int .i64 s.kind :: .int .i64 s.p :: .int .i64 s.k :: .slice A n c :: ys ∧ DataAt w B A n c s.D ∧ StpsAt w B ys L
theorem StpsAt.keep {w w' : World} {B : Nat} (k : ∀ g cs, B ≤ g → Bk w g 5 cs → Bk w' g 5 cs) : ∀ {L : List Sp} {xs : List Value}, StpsAt w B xs L → StpsAt w' B xs L
  | [], _, h => h
  | _ :: _, _, ⟨A, n, c, ys, e, hd, h⟩ => ⟨A, n, c, ys, e, hd.keep k, StpsAt.keep k h⟩
theorem StpsAt.below {w w' : World} {B : Nat} {L : List Sp} {xs : List Value} (h : StpsAt w B xs L) (k : Below w.heap.size w w') : StpsAt w' B xs L := h.keep fun g cs _ hb => hb.below k hb.lt
theorem StpsAt.grown {w w' : World} {B b sz n : Nat} {v : Value} {ys : List Value} {L : List Sp} {xs : List Value} (h : StpsAt w B xs L) (ho : w.ownsRow b 29 sz v n ys) (hg : w.grownBy w' v.ownBlock) : StpsAt w' B xs L :=
  h.keep fun g cs _ hb => (hg.block g hb.lt (own_bk_ne ho hb (by decide))).trans hb
theorem DataAt.grown {w w' : World} {B b sz n m c : Nat} {v : Value} {ys : List Value} {A : Option Addr} {D : List UInt8} (h : DataAt w B A m c D) (ho : w.ownsRow b 29 sz v n ys) (hg : w.grownBy w' v.ownBlock) : DataAt w' B A m c D :=
  h.keep fun g cs _ hb => (hg.block g hb.lt (own_bk_ne ho hb (by decide))).trans hb
theorem DataAt.keepF {F : Nat → Prop} {w w' : World} {B n c : Nat} {A : Option Addr} {D : List UInt8} (h : DataAt w B A n c D) (k : Keep F w w') (hF : ∀ b, F b → b < B) : DataAt w' B A n c D :=
  h.keep fun g cs hg hb => k.bk hb (fun f => by have := hF g f; omega)
theorem StpsAt.snoc {w : World} {B : Nat} {s : Sp} {A : Option Addr} {n c : Nat} (hd : DataAt w B A n c s.D) : ∀ {L : List Sp} {xs : List Value}, StpsAt w B xs L → StpsAt w B (xs ++ [.int .i64 s.kind, .int .i64 s.p, .int .i64 s.k, .slice A n c]) (L ++ [s])
  | [], _, h => by
    have h' := h
    subst h'
    exact ⟨A, n, c, [], rfl, hd, rfl⟩
  | _ :: _, _, ⟨A', n', c', ys, e, hd', h⟩ => ⟨A', n', c', ys ++ _, by rw [e]; rfl, hd', StpsAt.snoc hd h⟩
theorem sc_rd_bk {w : World} {g sz : Nat} {e : TypeId} {cs : Array Value} (h : Bk w g e cs) (hs : cs.size = sz) : Rd w w.heap.size sz (some ⟨g, 0, none⟩) 1 cs.toList := by
  refine ⟨by simp [hs], fun _ => ⟨g, 0, rfl, h.lt, fun i u hu => ?_⟩⟩
  rw [Nat.zero_add, h.cell i]
  rw [← hu]
  simp
theorem stpV_one (k x y : UInt8) (A : Option Addr) (n c : Nat) : ∀ u ∈ (stpV k x y A n c).toList, u.oneCell' = true := by
  intro u hu
  simp [stpV] at hu
  rcases hu with rfl | rfl | rfl | rfl <;> rfl
theorem step_info : (Tryz.prog.info? 29).map (fun i => (i.zero.map (·.cells.size), i.size, i.bytes)) = some (some 4, 4, 48) := by kernel_rfl
theorem step_parts : ∃ i0 z0, Tryz.prog.info? 29 = some i0 ∧ i0.zero = some z0 ∧ i0.size = 4 ∧ i0.bytes = 48 ∧ z0.cells.size = 4 := by
  have h := step_info
  cases hi : Tryz.prog.info? 29 with
  | none => rw [hi] at h; cases h
  | some i0 =>
    rw [hi] at h
    cases hz : i0.zero with
    | none => simp [hz] at h
    | some z0 =>
      simp [hz] at h
      exact ⟨i0, z0, rfl, hz, h.2.1, h.2.2, h.1⟩
/-- All steps of bytes. -/
def spAll (l : List UInt8) (k : Nat) : List Sp := (List.range k).map (spAt l)
theorem spAll_succ (l : List UInt8) (k : Nat) : spAll l (k + 1) = spAll l k ++ [spAt l k] := by
  unfold spAll
  rw [List.range_succ, List.map_append]
  rfl
def AllPostS (w : World) (l : List UInt8) (e : Ending) (w' : World) : Prop :=
  ∃ v xs, e = .returned v ∧ w'.ownsRow w.heap.size 29 4 v (l.length / 3) xs ∧ StpsAt w' w.heap.size xs (spAll l (l.length / 3)) ∧ Below w.heap.size w w'
set_option maxRecDepth 100000 in
set_option maxHeartbeats 1000000 in
theorem ScAll_any (A : Option Addr) (m c : Nat) (l : List UInt8) (w : World) (hr : Rd w w.heap.size 1 A m (l.map bv)) (hm : m ≤ 100000) (hc : m ≤ c) :
    Calls Tryz.prog 7 #[.slice A m c] w (AllPostS w l) := by
  obtain ⟨i0, z0, hi0, hz0, hz1, hz2, hz3⟩ := step_parts
  have hlm : l.length = m := by simpa using hr.1
  have Hlm := Lib.hid hlm
  have hr0 := Lib.hid hr
  clear hr hlm
  go_enter Tryz.func7, Tryz.ntmps7
  go_wp2_with fail
  go_loopw [0, 3] (fun b v wr => ∃ (k n' c' : Nat) (A' : Option Addr) (xs : List Value), b = .slice A' n' c' ∧ n' + 3 * k = m ∧ n' ≤ c' ∧ Rd wr w.heap.size 1 A' n' ((l.drop (3 * k)).map bv) ∧ wr.ownsRow w.heap.size 29 4 v k xs ∧ StpsAt wr w.heap.size xs (spAll l k) ∧ Below w.heap.size w wr) (fun b _ _ => match b with | .slice _ n _ => n | _ => 0)
  case atStart => exact ⟨0, m, c, A, [], rfl, by omega, hc, by simpa using hr0.out, World.ownsRow_nil _ _ _ _, rfl, Below.refl _ _⟩
  case round =>
    obtain ⟨k, n', c', A', xs, rfl, hnk, hnc, hrd, hown, hst, hb⟩ := hrel
    by_cases h3 : 3 ≤ n'
    · obtain ⟨bk, off, rfl, hbB, hcell⟩ := hrd.2 (by omega)
      have hx : ∀ j, j < 3 → ∃ x, l[3 * k + j]? = some x := fun j hj => ⟨_, List.getElem?_eq_getElem (by rw [Hlm.out]; omega)⟩
      obtain ⟨x0, hx0⟩ := hx 0 (by omega)
      obtain ⟨x1, hx1⟩ := hx 1 (by omega)
      obtain ⟨x2, hx2⟩ := hx 2 (by omega)
      have d0 : wr.cell? ⟨bk, off + 0, none⟩ = some (bv x0) := hcell 0 _ (by rw [List.getElem?_map, List.getElem?_drop, hx0]; rfl)
      have d1 : wr.cell? ⟨bk, off + 1, none⟩ = some (bv x1) := hcell 1 _ (by rw [List.getElem?_map, List.getElem?_drop, hx1]; rfl)
      have d2 : wr.cell? ⟨bk, off + 2, none⟩ = some (bv x2) := hcell 2 _ (by rw [List.getElem?_map, List.getElem?_drop, hx2]; rfl)
      have hsp : spAt l k = spOf x0 x1 x2 := by
        unfold spAt
        rw [List.getD_eq_getElem?_getD, List.getD_eq_getElem?_getD, List.getD_eq_getElem?_getD, show 3 * k = 3 * k + 0 from rfl, hx0, show 3 * k + 0 + 1 = 3 * k + 1 from rfl, hx1, show 3 * k + 0 + 2 = 3 * k + 2 from rfl, hx2]
        rfl
      have hns := spAll_succ l k
      rw [hsp] at hns
      have hcut := (hrd.cut (k := 3) (cap := c') h3 hnc)
      rw [← List.map_drop, List.drop_drop] at hcut
      have Hcut := Lib.hid hcut
      have Hns := Lib.hid hns
      have hF : ∀ b, u3.ownBlock = some b → b < wr.heap.size := fun b hb' => (hown.lt _ hb').2
      have hF2 : ∀ b, u3.ownBlock = some b → w.heap.size ≤ b := fun b hb' => (hown.lt _ hb').1
      have hszr := hb.size
      have hbk : bk < wr.heap.size := by omega
      have hbF : ¬ u3.ownBlock = some bk := fun h => by have := hF2 _ h; omega
      have Hown := Lib.hid hown
      have Hst := Lib.hid hst
      have Hb := Lib.hid hb
      obtain ⟨L, hL⟩ : ∃ L, spAll l k = L := ⟨_, rfl⟩
      rw [hL] at Hns Hst
      have HF := Lib.hid hF
      have HF2 := Lib.hid hF2
      have Hbf := Lib.hid hbF
      have N1 := Lib.hid (show 0 < n' by omega)
      have N2 := Lib.hid (show (1 : Int) < (n' : Int) by omega)
      have N3 := Lib.hid (show (2 : Int) < (n' : Int) by omega)
      clear hx hx0 hx1 hx2 hcell hrd hown hst hb hsp hns hcut hL hF2 hF
      go_wp2_with fail
      refine wp_region_any (by kernel_rfl) ?_
      refine wpAny_keep_tail 13 [9, 10, 11, 12, 13, 14, 15, 16, 17, 18, 19, 20, 21] (fun b => u3.ownBlock = some b) 12 [12] (fun w2 => w2.ownsRow w.heap.size 29 4 u3 k xs ∧ StpsAt w2 w.heap.size xs L) (fun v w2 => ∃ ys, w2.ownsRow w.heap.size 29 4 v (k + 1) ys ∧ StpsAt w2 w.heap.size ys (L ++ [spOf x0 x1 x2])) [is (u3), is (.slice (some ⟨bk, off, none⟩) n' c'), is (.pointer (some ⟨bk, off, none⟩)), is (bv x0), is (.slice (some ⟨bk, off, none⟩) n' c'), is (.pointer (some ⟨bk, off + 1, none⟩)), is (bv x1), is (.slice (some ⟨bk, off, none⟩) n' c'), is (.pointer (some ⟨bk, off + 2, none⟩)), is (bv x2), fun v w2 => ∃ A n c, v = .agg (stpV x0 x1 x2 A n c) ∧ DataAt w2 wr.heap.size A n c (spD x0 x1 x2), fun v w2 => ∃ g A n c, v = .slice (some ⟨g, 0, none⟩) 1 1 ∧ Bk w2 g 29 (stpV x0 x1 x2 A n c) ∧ u3.ownBlock ≠ some g ∧ DataAt w2 wr.heap.size A n c (spD x0 x1 x2), anyV] _ _ rfl (by decide) (by kernel_rfl) (by kernel_rfl) (by kernel_rfl) (⟨Hown.out, Hst.out.below (Below.refl _ _).drew⟩) (fun w1 w2 h _ hg => ⟨own_below h.1 hg, h.2.below hg⟩) (fun _ _ _ ⟨ys, h1, h2⟩ k => ⟨ys, own_below h1 k, h2.below k⟩) (by repeat' (first | exact stbk_is _ _ | exact stbk_any _ | exact fun _ _ _ ⟨A, n, c, h1, h2⟩ k => ⟨A, n, c, h1, h2.keepF k HF.out⟩ | exact fun _ _ _ ⟨g, A, n, c, h1, h2, h3, h4⟩ k => ⟨g, A, n, c, h1, k.bk h2 h3, h3, h4.keepF k HF.out⟩ | (refine List.forall_mem_cons.2 ⟨?_, ?_⟩) | (intro p hp; cases hp))) ?_ ?_
      · refine steps_of_n ?_
        refine steps_cons ?_ ?_
        · refine step_on3 rfl rfl ?_
          intro ev w5 hS hU hc hf hold hval a K ha hK
          replace hS : Keep (fun b => u3.ownBlock = some b) wr w5 := ⟨hS.os, hS.tape, hS.output, hS.size, hS.block⟩
          clear hU
          have e3 : ev (.tmp 3) = u3 := hold 3 (by kernel_rfl)
          go_simp
          exact hK _ _ (kstep_grow (Below.refl _ _)) rfl
        refine steps_cons ?_ ?_
        · refine step_on3 rfl rfl ?_
          intro ev w5 hS hU hc hf hold hval a K ha hK
          replace hS : Keep (fun b => u3.ownBlock = some b) wr w5 := ⟨hS.os, hS.tape, hS.output, hS.size, hS.block⟩
          clear hU
          have e0 : ev (.tmp 0) = .slice (some ⟨bk, off, none⟩) n' c' := hold 0 (by kernel_rfl)
          go_simp
          exact hK _ _ (kstep_grow (Below.refl _ _)) rfl
        refine steps_cons ?_ ?_
        · refine step_on3 rfl rfl ?_
          intro ev w5 hS hU hc hf hold hval a K ha hK
          replace hS : Keep (fun b => u3.ownBlock = some b) wr w5 := ⟨hS.os, hS.tape, hS.output, hS.size, hS.block⟩
          clear hU
          have e10 : ev (.tmp 10) = .slice (some ⟨bk, off, none⟩) n' c' := hval 1 10 (by kernel_rfl) rfl
          have nn := N1.out
          go_simp
          exact hK _ _ (kstep_grow (Below.refl _ _)) rfl
        refine steps_cons ?_ ?_
        · refine step_on3 rfl rfl ?_
          intro ev w5 hS hU hc hf hold hval a K ha hK
          replace hS : Keep (fun b => u3.ownBlock = some b) wr w5 := ⟨hS.os, hS.tape, hS.output, hS.size, hS.block⟩
          clear hU
          have e11 : ev (.tmp 11) = .pointer (some ⟨bk, off, none⟩) := hval 2 11 (by kernel_rfl) rfl
          have hbF := Hbf.out
          have cc := (Keep.cell hS (p := ⟨bk, off + 0, none⟩) hbk hbF).trans d0
          rw [Nat.add_zero] at cc
          go_simp
          exact hK _ _ (kstep_grow (Below.refl _ _)) rfl
        refine steps_cons ?_ ?_
        · refine step_on3 rfl rfl ?_
          intro ev w5 hS hU hc hf hold hval a K ha hK
          replace hS : Keep (fun b => u3.ownBlock = some b) wr w5 := ⟨hS.os, hS.tape, hS.output, hS.size, hS.block⟩
          clear hU
          have e0 : ev (.tmp 0) = .slice (some ⟨bk, off, none⟩) n' c' := hold 0 (by kernel_rfl)
          go_simp
          exact hK _ _ (kstep_grow (Below.refl _ _)) rfl
        refine steps_cons ?_ ?_
        · refine step_on3 rfl rfl ?_
          intro ev w5 hS hU hc hf hold hval a K ha hK
          replace hS : Keep (fun b => u3.ownBlock = some b) wr w5 := ⟨hS.os, hS.tape, hS.output, hS.size, hS.block⟩
          clear hU
          have e13 : ev (.tmp 13) = .slice (some ⟨bk, off, none⟩) n' c' := hval 4 13 (by kernel_rfl) rfl
          have nn := N2.out
          go_simp
          exact hK _ _ (kstep_grow (Below.refl _ _)) rfl
        refine steps_cons ?_ ?_
        · refine step_on3 rfl rfl ?_
          intro ev w5 hS hU hc hf hold hval a K ha hK
          replace hS : Keep (fun b => u3.ownBlock = some b) wr w5 := ⟨hS.os, hS.tape, hS.output, hS.size, hS.block⟩
          clear hU
          have e14 : ev (.tmp 14) = .pointer (some ⟨bk, off + 1, none⟩) := hval 5 14 (by kernel_rfl) rfl
          have hbF := Hbf.out
          have cc := (Keep.cell hS (p := ⟨bk, off + 1, none⟩) hbk hbF).trans d1
          go_simp
          exact hK _ _ (kstep_grow (Below.refl _ _)) rfl
        refine steps_cons ?_ ?_
        · refine step_on3 rfl rfl ?_
          intro ev w5 hS hU hc hf hold hval a K ha hK
          replace hS : Keep (fun b => u3.ownBlock = some b) wr w5 := ⟨hS.os, hS.tape, hS.output, hS.size, hS.block⟩
          clear hU
          have e0 : ev (.tmp 0) = .slice (some ⟨bk, off, none⟩) n' c' := hold 0 (by kernel_rfl)
          go_simp
          exact hK _ _ (kstep_grow (Below.refl _ _)) rfl
        refine steps_cons ?_ ?_
        · refine step_on3 rfl rfl ?_
          intro ev w5 hS hU hc hf hold hval a K ha hK
          replace hS : Keep (fun b => u3.ownBlock = some b) wr w5 := ⟨hS.os, hS.tape, hS.output, hS.size, hS.block⟩
          clear hU
          have e16 : ev (.tmp 16) = .slice (some ⟨bk, off, none⟩) n' c' := hval 7 16 (by kernel_rfl) rfl
          have nn := N3.out
          go_simp
          exact hK _ _ (kstep_grow (Below.refl _ _)) rfl
        refine steps_cons ?_ ?_
        · refine step_on3 rfl rfl ?_
          intro ev w5 hS hU hc hf hold hval a K ha hK
          replace hS : Keep (fun b => u3.ownBlock = some b) wr w5 := ⟨hS.os, hS.tape, hS.output, hS.size, hS.block⟩
          clear hU
          have e17 : ev (.tmp 17) = .pointer (some ⟨bk, off + 2, none⟩) := hval 8 17 (by kernel_rfl) rfl
          have hbF := Hbf.out
          have cc := (Keep.cell hS (p := ⟨bk, off + 2, none⟩) hbk hbF).trans d2
          go_simp
          exact hK _ _ (kstep_grow (Below.refl _ _)) rfl
        refine steps_cons ?_ ?_
        · refine step_on3 rfl rfl ?_
          intro ev w5 hS hU hc hf hold hval a K ha hK
          replace hS : Keep (fun b => u3.ownBlock = some b) wr w5 := ⟨hS.os, hS.tape, hS.output, hS.size, hS.block⟩
          clear hU
          have e12 : ev (.tmp 12) = bv x0 := hval 3 12 (by kernel_rfl) rfl
          have e15 : ev (.tmp 15) = bv x1 := hval 6 15 (by kernel_rfl) rfl
          have e18 : ev (.tmp 18) = bv x2 := hval 9 18 (by kernel_rfl) rfl
          go_simp
          refine (Step_any x0 x1 x2 w5).mono ?_
          rintro e w8 ⟨A9, n9, c9, rfl, h9, hb9⟩
          exact hK _ _ (kstep_grow hb9) ⟨A9, n9, c9, rfl, h9.mono hS.size⟩
        refine steps_cons ?_ ?_
        · refine step_on3 rfl rfl ?_
          intro ev w5 hS hU hc hf hold hval a K ha hK
          replace hS : Keep (fun b => u3.ownBlock = some b) wr w5 := ⟨hS.os, hS.tape, hS.output, hS.size, hS.block⟩
          clear hU
          have p19 : (fun v w2 => ∃ A n c, v = .agg (stpV x0 x1 x2 A n c) ∧ DataAt w2 wr.heap.size A n c (spD x0 x1 x2)) (ev (.tmp 19)) w5 := hval 10 19 (by kernel_rfl) rfl
          obtain ⟨A9, n9, c9, e19, h9⟩ := p19
          go_simp
          exact hK _ _ (kstep_grow ((Below.refl _ _).alloc (Nat.le_refl _) _)) ⟨_, A9, n9, c9, rfl, Bk.new _ _ _, fun h => by have := HF.out _ h; have := hS.size; omega, h9.below ((Below.refl _ _).alloc (Nat.le_refl _) _)⟩
        refine steps_cons ?_ ?_
        · refine step_on3 rfl rfl ?_
          intro ev w5 hS hU hc hf hold hval a K ha hK
          replace hS : Keep (fun b => u3.ownBlock = some b) wr w5 := ⟨hS.os, hS.tape, hS.output, hS.size, hS.block⟩
          have hpre := hU rfl
          clear hU
          have e9 : ev (.tmp 9) = u3 := hval 0 9 (by kernel_rfl) rfl
          have p20 : (fun v w2 => ∃ g A n c, v = .slice (some ⟨g, 0, none⟩) 1 1 ∧ Bk w2 g 29 (stpV x0 x1 x2 A n c) ∧ u3.ownBlock ≠ some g ∧ DataAt w2 wr.heap.size A n c (spD x0 x1 x2)) (ev (.tmp 20)) w5 := hval 11 20 (by kernel_rfl) rfl
          obtain ⟨g9, A9, n9, c9, e20, hb9, hn9, h9⟩ := p20
          subst ha
          refine wp_append_rd w5 (.tmp 9) (.tmp 20) _ rfl w.heap.size 29 i0 z0 4 48 Tryz.underlying24 hi0 hz0 hz1 hz2 hz3 (by decide) u3 k xs e9 hpre.1 w5.heap.size _ 1 1 (stpV x0 x1 x2 A9 n9 c9).toList e20 (sc_rd_bk hb9 rfl) (stpV_one _ _ _ _ _ _) (by unfold maxLen; omega) (by omega) (Nat.le_trans hszr hS.size) ?_
          intro v6 w6 hown6 hg6 hat6
          exact hK _ _ (kstep_keep (Keep.grown (Keep.refl _ _) hg6 fun k hk => .inl hk)) ⟨_, hown6, StpsAt.snoc (s := spOf x0 x1 x2) (A := A9) (n := n9) (c := c9) (h9.grown hpre.1 hg6 |>.mono hszr) (hpre.2.grown hpre.1 hg6)⟩
        exact steps_nil
      · intro ev w6 f hS hval
        replace hS : Keep (fun b => u3.ownBlock = some b) wr w6 := ⟨hS.os, hS.tape, hS.output, hS.size, hS.block⟩
        have p21 : (fun v w2 => ∃ ys, w2.ownsRow w.heap.size 29 4 v (k + 1) ys ∧ StpsAt w2 w.heap.size ys (L ++ [spOf x0 x1 x2])) (ev (.tmp 21)) w6 := hval 12 21 (by decide) rfl
        simp only [putsOf, List.foldl_cons, List.foldl_nil, Act.put, List.setIfInBounds_toArray, List.set_cons_zero, List.set_cons_succ]
        clear hval
        obtain ⟨ys, hown6, hst6⟩ := p21
        have Hown6 := Lib.hid hown6
        have Hst6 := Lib.hid hst6
        clear hown6 hst6
        change wpAny Tryz.prog Region.Mode.any _ _ (1 + f) (firstN 13 14) _ w6
        rw [Nat.add_comm 1 f]
        refine wpAny_one (f := f) (i := 13) (by kernel_rfl) ?_
        refine wpOp_run rfl rfl ?_
        generalize hK : wpAny Tryz.prog _ _ _ f _ = K5
        go_simp
        subst hK
        refine wpAny_all (by kernel_rfl) ?_
        generalize ev (.tmp 21) = v6 at Hown6 ⊢
        have hb5 : Below w.heap.size wr w6 := hS.to_below Hb.out.size (fun b hb' h => by have := HF2.out _ h; omega)
        have hb6 : Below w.heap.size w w6 := Hb.out.trans hb5
        have kc := run_cut_lo (P := Tryz.prog) 22 5 1 Tryz.underlying22 (fun w => by kernel_rfl) (some ⟨bk, off, none⟩) n' c' 3 h3
        go_wp2_with fail
        go_roundw
        case rel => exact ⟨k + 1, n' - 3, c' - 3, _, ys, rfl, by omega, by omega, Hcut.out.below hb5, Hown6.out, by rw [Hns.out]; exact Hst6.out, hb6⟩
        case measure => simp; omega
    · have hk3 : l.length / 3 = k := by rw [Hlm.out]; omega
      go_wp2_with fail
      go_ret
      exact ⟨_, xs, rfl, by rw [hk3]; exact hown, by rw [hk3]; exact hst, hb⟩
end Go.Proofs.YtnileogagoipiaaGreatDoor
