/- The walks of the tree's build of one leaf, tree.New, and what a tree is: TreeAt. Conditions: at most 128 bits. -/
import Derived.Test.YtdpknieiigibfaaFnNode
namespace Go.Proofs.Ytdpknieiigibfaa
open Go.RowKit
set_option linter.unusedVariables false
set_option linter.unusedSimpArgs false
/-- A block made since B (its place is told), with its error 0. -/
def blkV (B : Nat) (bs : List Bool) : Value → World → Prop := fun v w => ∃ gb, v = .tuple #[.pointer (some ⟨gb, 0, none⟩), .int .i64 0] ∧ Bk w gb 145 (blkC bs) ∧ B ≤ gb
def blkP (B : Nat) (bs : List Bool) : Value → World → Prop := fun v w => ∃ gb, v = .pointer (some ⟨gb, 0, none⟩) ∧ Bk w gb 145 (blkC bs) ∧ B ≤ gb
theorem stbk_blkV (B : Nat) (bs : List Bool) : StbK (fun _ => False) (blkV B bs) := fun _ _ _ ⟨gb, h1, h2, h3⟩ k => ⟨gb, h1, k.bk h2 (fun h => h), h3⟩
theorem stbk_blkP (B : Nat) (bs : List Bool) : StbK (fun _ => False) (blkP B bs) := fun _ _ _ ⟨gb, h1, h2, h3⟩ k => ⟨gb, h1, k.bk h2 (fun h => h), h3⟩
theorem Leaf.mono {w : World} {B B' gt ga gl cl gb : Nat} {rt v : Int} {bs : List Bool} (h : Leaf w B gt ga gl cl gb rt v bs) (hB : B' ≤ B) : Leaf w B' gt ga gl cl gb rt v bs := by
  obtain ⟨A, c, h1, h2⟩ := h.arena
  exact ⟨h.tree, own_mono h.row hB, h.blk, A, c, h1, h2.mono hB⟩
theorem size_bool : ∀ w, (sizeOf 4).run Try.prog w = .ok 1 w := fun w => by kernel_rfl
set_option maxRecDepth 100000 in
set_option maxHeartbeats 4000000 in
theorem build_one (gt ga : Nat) (v : Int) (A : Option Addr) (m c B : Nat) (bs : List Bool) (w : World) (ht : Bk w gt 125 #[.pointer (some ⟨ga, 0, none⟩), .slice none 0 0, .int .i64 (-1), .int .i64 v]) (ha : Bk w ga 88 #[.slice none 0 0, .slice none 0 0, .int .i64 268435456]) (hr : Rd w B 1 A m (bs.map Value.bool)) (hB : B ≤ w.heap.size) (hm : m ≤ 128) (hmc : m ≤ c) :
    Calls Try.prog 80 #[.pointer (some ⟨gt, 0, none⟩), .slice A m c, .int .i64 0, .int .i64 1, .int .i64 1] w fun e w' => e = .returned (.int .i64 0) ∧ Keep (fun b => b = ga ∨ b = gt) w w' ∧ ∃ gl cl gb, Leaf w' w.heap.size gt ga gl cl gb (-1) v bs ∧ w.heap.size ≤ gb := by
  have hbl : bs.length = m := by simpa using hr.1
  have hd1 : ((m : Int) * 1).tdiv 1 = (m : Int) := by rw [Int.mul_one, Int.tdiv_one]
  have hgt := ht.lt
  have hga := ha.lt
  have Ht := Lib.hid ht
  have Ha := Lib.hid ha
  have Hr := Lib.hid (hr.mono hB)
  have Hbl := Lib.hid hbl
  have HW := Lib.hid (Below.refl w.heap.size w)
  clear ht ha hr hbl
  go_enter Try.func80, Try.ntmps80
  go_wp2_with fail
  refine wp_region_any (by kernel_rfl) ?_
  refine wpAny_keep [20, 21, 22, 23, 24, 25, 26, 27, 28, 29, 30, 31, 32, 33, 34, 19, 35, 36, 11, 12] (fun _ => False) 19 [] (fun _ => True) (anyV) [is (.slice A m c), is (.slice A m c), is (.int .i64 (m : Int)), is (.int .i64 0), is (.int .i64 0), is (.int .i64 1), is (.int .i64 0), is (.slice A m c), is (.int .i64 (m : Int)), is (.int .i64 1), is (.int .i64 (m : Int)), is (.int .i64 1), is (.int .i64 (m : Int)), is (.slice A m c), blkV w.heap.size bs, blkV w.heap.size bs, blkP w.heap.size bs, is (.int .i64 0), blkP w.heap.size bs, anyV] _ _ rfl (by kernel_rfl) (by kernel_rfl) (trivial) (fun _ _ _ _ _ => trivial) (fun _ _ _ _ _ => trivial) (by repeat' (first | exact stbk_is _ _ | exact stbk_any _ | exact stbk_blkV _ _ | exact stbk_blkP _ _ | (refine List.forall_mem_cons.2 ⟨?_, ?_⟩) | (intro p hp; cases hp))) ?_ ?_
  · refine steps_of ?_
    refine steps_cons ?_ ?_
    · refine step_on3 rfl rfl ?_
      intro ev w5 hS hU hc hf hold hval a K ha hK
      replace hS : Keep (fun _ => False) w w5 := ⟨hS.os, hS.tape, hS.output, hS.size, hS.block⟩
      clear hU
      have e1 : ev (.tmp 1) = .slice A m c := hold 1 (by kernel_rfl)
      go_simp
      exact hK _ _ (kstep_grow (Below.refl _ _)) rfl
    refine steps_cons ?_ ?_
    · refine step_on3 rfl rfl ?_
      intro ev w5 hS hU hc hf hold hval a K ha hK
      replace hS : Keep (fun _ => False) w w5 := ⟨hS.os, hS.tape, hS.output, hS.size, hS.block⟩
      clear hU
      have e1 : ev (.tmp 1) = .slice A m c := hold 1 (by kernel_rfl)
      go_simp
      exact hK _ _ (kstep_grow (Below.refl _ _)) rfl
    refine steps_cons ?_ ?_
    · refine step_on3 rfl rfl ?_
      intro ev w5 hS hU hc hf hold hval a K ha hK
      replace hS : Keep (fun _ => False) w w5 := ⟨hS.os, hS.tape, hS.output, hS.size, hS.block⟩
      clear hU
      have e21 : ev (.tmp 21) = .slice A m c := hval 1 21 (by kernel_rfl) rfl
      go_simp
      exact hK _ _ (kstep_grow (Below.refl _ _)) rfl
    refine steps_cons ?_ ?_
    · refine step_on3 rfl rfl ?_
      intro ev w5 hS hU hc hf hold hval a K ha hK
      replace hS : Keep (fun _ => False) w w5 := ⟨hS.os, hS.tape, hS.output, hS.size, hS.block⟩
      clear hU
      have e2 : ev (.tmp 2) = .int .i64 0 := hold 2 (by kernel_rfl)
      go_simp
      exact hK _ _ (kstep_grow (Below.refl _ _)) rfl
    refine steps_cons ?_ ?_
    · refine step_on3 rfl rfl ?_
      intro ev w5 hS hU hc hf hold hval a K ha hK
      replace hS : Keep (fun _ => False) w w5 := ⟨hS.os, hS.tape, hS.output, hS.size, hS.block⟩
      clear hU
      have e22 : ev (.tmp 22) = .int .i64 (m : Int) := hval 2 22 (by kernel_rfl) rfl
      have e23 : ev (.tmp 23) = .int .i64 0 := hval 3 23 (by kernel_rfl) rfl
      go_simp
      exact hK _ _ (kstep_grow (Below.refl _ _)) (i64_eq (by simp [IntKind.wrap_i64] <;> omega))
    refine steps_cons ?_ ?_
    · refine step_on3 rfl rfl ?_
      intro ev w5 hS hU hc hf hold hval a K ha hK
      replace hS : Keep (fun _ => False) w w5 := ⟨hS.os, hS.tape, hS.output, hS.size, hS.block⟩
      clear hU
      have e4 : ev (.tmp 4) = .int .i64 1 := hold 4 (by kernel_rfl)
      go_simp
      exact hK _ _ (kstep_grow (Below.refl _ _)) rfl
    refine steps_cons ?_ ?_
    · refine step_on3 rfl rfl ?_
      intro ev w5 hS hU hc hf hold hval a K ha hK
      replace hS : Keep (fun _ => False) w w5 := ⟨hS.os, hS.tape, hS.output, hS.size, hS.block⟩
      clear hU
      have e24 : ev (.tmp 24) = .int .i64 0 := hval 4 24 (by kernel_rfl) rfl
      have e25 : ev (.tmp 25) = .int .i64 1 := hval 5 25 (by kernel_rfl) rfl
      go_simp
      exact hK _ _ (kstep_grow (Below.refl _ _)) (i64_eq (by simp [IntKind.wrap_i64] <;> omega))
    refine steps_cons ?_ ?_
    · refine step_on3 rfl rfl ?_
      intro ev w5 hS hU hc hf hold hval a K ha hK
      replace hS : Keep (fun _ => False) w w5 := ⟨hS.os, hS.tape, hS.output, hS.size, hS.block⟩
      clear hU
      have e1 : ev (.tmp 1) = .slice A m c := hold 1 (by kernel_rfl)
      go_simp
      exact hK _ _ (kstep_grow (Below.refl _ _)) rfl
    refine steps_cons ?_ ?_
    · refine step_on3 rfl rfl ?_
      intro ev w5 hS hU hc hf hold hval a K ha hK
      replace hS : Keep (fun _ => False) w w5 := ⟨hS.os, hS.tape, hS.output, hS.size, hS.block⟩
      clear hU
      have e27 : ev (.tmp 27) = .slice A m c := hval 7 27 (by kernel_rfl) rfl
      go_simp
      exact hK _ _ (kstep_grow (Below.refl _ _)) rfl
    refine steps_cons ?_ ?_
    · refine step_on3 rfl rfl ?_
      intro ev w5 hS hU hc hf hold hval a K ha hK
      replace hS : Keep (fun _ => False) w w5 := ⟨hS.os, hS.tape, hS.output, hS.size, hS.block⟩
      clear hU
      have e3 : ev (.tmp 3) = .int .i64 1 := hold 3 (by kernel_rfl)
      go_simp
      exact hK _ _ (kstep_grow (Below.refl _ _)) rfl
    refine steps_cons ?_ ?_
    · refine step_on3 rfl rfl ?_
      intro ev w5 hS hU hc hf hold hval a K ha hK
      replace hS : Keep (fun _ => False) w w5 := ⟨hS.os, hS.tape, hS.output, hS.size, hS.block⟩
      clear hU
      have e28 : ev (.tmp 28) = .int .i64 (m : Int) := hval 8 28 (by kernel_rfl) rfl
      have e29 : ev (.tmp 29) = .int .i64 1 := hval 9 29 (by kernel_rfl) rfl
      go_simp
      exact hK _ _ (kstep_grow (Below.refl _ _)) (i64_eq (by simp [IntKind.wrap_i64] <;> omega))
    refine steps_cons ?_ ?_
    · refine step_on3 rfl rfl ?_
      intro ev w5 hS hU hc hf hold hval a K ha hK
      replace hS : Keep (fun _ => False) w w5 := ⟨hS.os, hS.tape, hS.output, hS.size, hS.block⟩
      clear hU
      have e4 : ev (.tmp 4) = .int .i64 1 := hold 4 (by kernel_rfl)
      go_simp
      exact hK _ _ (kstep_grow (Below.refl _ _)) rfl
    refine steps_cons ?_ ?_
    · refine step_on3 rfl rfl ?_
      intro ev w5 hS hU hc hf hold hval a K ha hK
      replace hS : Keep (fun _ => False) w w5 := ⟨hS.os, hS.tape, hS.output, hS.size, hS.block⟩
      clear hU
      have e30 : ev (.tmp 30) = .int .i64 (m : Int) := hval 10 30 (by kernel_rfl) rfl
      have e31 : ev (.tmp 31) = .int .i64 1 := hval 11 31 (by kernel_rfl) rfl
      go_simp
      exact hK _ _ (kstep_grow (Below.refl _ _)) (i64_eq (by simp [IntKind.wrap_i64] <;> omega))
    refine steps_cons ?_ ?_
    · refine step_on3 rfl rfl ?_
      intro ev w5 hS hU hc hf hold hval a K ha hK
      replace hS : Keep (fun _ => False) w w5 := ⟨hS.os, hS.tape, hS.output, hS.size, hS.block⟩
      clear hU
      have e20 : ev (.tmp 20) = .slice A m c := hval 0 20 (by kernel_rfl) rfl
      have e26 : ev (.tmp 26) = .int .i64 0 := hval 6 26 (by kernel_rfl) rfl
      have e32 : ev (.tmp 32) = .int .i64 (m : Int) := hval 12 32 (by kernel_rfl) rfl
      go_simp
      exact hK _ _ (kstep_grow (Below.refl _ _)) rfl
    refine steps_cons ?_ ?_
    · refine step_on3 rfl rfl ?_
      intro ev w5 hS hU hc hf hold hval a K ha hK
      replace hS : Keep (fun _ => False) w w5 := ⟨hS.os, hS.tape, hS.output, hS.size, hS.block⟩
      clear hU
      have e33 : ev (.tmp 33) = .slice A m c := hval 13 33 (by kernel_rfl) rfl
      go_simp
      have hr5 := hS.rd Hr.out (Nat.le_refl _) (fun _ _ h => h)
      refine (BlockNew_any A m c w.heap.size bs w5 hr5 hS.size hm).mono ?_
      rintro e w8 ⟨rfl, hb8, hk8⟩
      exact hK _ _ (kstep_grow hk8) ⟨_, rfl, hb8, hS.size⟩
    refine steps_cons ?_ ?_
    · refine step_on3 rfl rfl ?_
      intro ev w5 hS hU hc hf hold hval a K ha hK
      replace hS : Keep (fun _ => False) w w5 := ⟨hS.os, hS.tape, hS.output, hS.size, hS.block⟩
      clear hU
      have p34 : (blkV w.heap.size bs) (ev (.tmp 34)) w5 := hval 14 34 (by kernel_rfl) rfl
      go_simp
      exact hK _ _ (kstep_grow (Below.refl _ _)) p34
    refine steps_cons ?_ ?_
    · refine step_on3 rfl rfl ?_
      intro ev w5 hS hU hc hf hold hval a K ha hK
      replace hS : Keep (fun _ => False) w w5 := ⟨hS.os, hS.tape, hS.output, hS.size, hS.block⟩
      clear hU
      have p19 : (blkV w.heap.size bs) (ev (.tmp 19)) w5 := hval 15 19 (by kernel_rfl) rfl
      go_simp
      obtain ⟨gb, e19, hb9, hg9⟩ := p19
      subst ha
      rw [e19]
      go_simp
      exact hK _ _ (kstep_grow (Below.refl _ _)) ⟨gb, rfl, hb9, hg9⟩
    refine steps_cons ?_ ?_
    · refine step_on3 rfl rfl ?_
      intro ev w5 hS hU hc hf hold hval a K ha hK
      replace hS : Keep (fun _ => False) w w5 := ⟨hS.os, hS.tape, hS.output, hS.size, hS.block⟩
      clear hU
      have p19 : (blkV w.heap.size bs) (ev (.tmp 19)) w5 := hval 15 19 (by kernel_rfl) rfl
      go_simp
      obtain ⟨gb, e19, hb9, hg9⟩ := p19
      subst ha
      rw [e19]
      go_simp
      exact hK _ _ (kstep_grow (Below.refl _ _)) rfl
    refine steps_cons ?_ ?_
    · refine step_on3 rfl rfl ?_
      intro ev w5 hS hU hc hf hold hval a K ha hK
      replace hS : Keep (fun _ => False) w w5 := ⟨hS.os, hS.tape, hS.output, hS.size, hS.block⟩
      clear hU
      have p35 : (blkP w.heap.size bs) (ev (.tmp 35)) w5 := hval 16 35 (by kernel_rfl) rfl
      go_simp
      exact hK _ _ (kstep_grow (Below.refl _ _)) p35
    refine steps_cons ?_ ?_
    · refine step_on3 rfl rfl ?_
      intro ev w5 hS hU hc hf hold hval a K ha hK
      replace hS : Keep (fun _ => False) w w5 := ⟨hS.os, hS.tape, hS.output, hS.size, hS.block⟩
      clear hU
      have e36 : ev (.tmp 36) = .int .i64 0 := hval 17 36 (by kernel_rfl) rfl
      go_simp
      exact hK _ _ (kstep_grow (Below.refl _ _)) trivial
    exact steps_nil
  · intro ev w6 hS hval hall
    replace hS : Keep (fun _ => False) w w6 := ⟨hS.os, hS.tape, hS.output, hS.size, hS.block⟩
    have p11 : (blkP w.heap.size bs) (ev (.tmp 11)) w6 := hval 18 11 rfl
    have e36 : ev (.tmp 36) = .int .i64 0 := hval 17 36 rfl
    obtain ⟨vJ, pJ⟩ : ∃ vJ0, (anyV) vJ0 w6 := hall 19 (by decide)
    simp only [putsOf, List.foldl_cons, List.foldl_nil, Act.put, List.setIfInBounds_toArray, List.set_cons_zero, List.set_cons_succ]
    rw [e36]
    clear hval hall
    obtain ⟨gb, e11, hb6, hg6⟩ := p11
    rw [e11]
    have ht6 := hS.bk Ht.out (fun h => h)
    have ha6 := hS.bk Ha.out (fun h => h)
    have hs6 := hS.size
    have HS := Lib.hid hS
    clear hS
    go_wp2_with fail
    refine (leaf_first gt ga gb v bs w6 ht6 ha6 hb6 (by rw [Hbl.out]; exact hm)).mono ?_
    rintro e w7 ⟨rfl, hk7, gl, cl, h7⟩
    go_wp2_with fail
    go_ret
    exact ⟨rfl, (HS.out.mono (fun _ _ h => h.elim)).trans hk7, gl, cl, gb, h7.mono hs6, hg6⟩
end Go.Proofs.Ytdpknieiigibfaa
