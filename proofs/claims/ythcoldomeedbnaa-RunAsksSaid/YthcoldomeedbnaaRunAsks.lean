/- The walk of the law RunAsks. No conditions. -/
import Derived.Test.YthcoldomeedbnaaRefPut
import Derived.Test.YthcoldomeedbnaaRefGet
import Derived.Test.YthcoldomeedbnaaPush
namespace Go.Proofs.Ythcoldomeedbnaa
open Go.RowKit
set_option linter.unusedVariables false
/-- A run of at most 300 symbols. -/
def clipX (x : Int × Int) : Int × Int := (x.1, if x.2 > 300 then 300 else x.2)
def clipTo (k : Nat) (qs : List (Int × Int)) : List (Int × Int) := (qs.take k).map clipX ++ qs.drop k
theorem run2Cells_snoc (r : List (Int × Int)) (x : Int × Int) : run2Cells (r ++ [x]) = run2Cells r ++ [iv x.1, iv x.2] := by simp [run2Cells, run2Cell]
theorem clipTo_get (k : Nat) (qs : List (Int × Int)) (x : Int × Int) (h : qs[k]? = some x) : (clipTo k qs)[k]? = some x := by
  have hk : k < qs.length := (List.getElem?_eq_some_iff.1 h).1
  unfold clipTo
  rw [List.getElem?_append_right (by simp; omega), List.length_map, List.length_take, List.getElem?_drop]
  rw [← h]
  congr 1
  omega
theorem clipTo_succ (k : Nat) (qs : List (Int × Int)) (x : Int × Int) (h : qs[k]? = some x) : clipTo (k + 1) qs = (qs.take k).map clipX ++ clipX x :: qs.drop (k + 1) := by
  have hk : k < qs.length := (List.getElem?_eq_some_iff.1 h).1
  unfold clipTo
  rw [List.take_succ_eq_append_getElem hk, (List.getElem?_eq_some_iff.1 h).2]
  simp
theorem clipTo_here (k : Nat) (qs : List (Int × Int)) (x : Int × Int) (h : qs[k]? = some x) : clipTo k qs = (qs.take k).map clipX ++ x :: qs.drop (k + 1) := by
  have hk : k < qs.length := (List.getElem?_eq_some_iff.1 h).1
  unfold clipTo
  rw [List.drop_eq_getElem_cons hk, (List.getElem?_eq_some_iff.1 h).2]
theorem clip_snoc (k : Nat) (qs : List (Int × Int)) (x : Int × Int) (h : qs[k]? = some x) : (qs.take (k + 1)).map clipX = (qs.take k).map clipX ++ [clipX x] := by
  have hk : k < qs.length := (List.getElem?_eq_some_iff.1 h).1
  rw [List.take_succ_eq_append_getElem hk, (List.getElem?_eq_some_iff.1 h).2]
  simp
theorem run2_set (a b : List (Int × Int)) (s n z : Int) : (run2Cells (a ++ (s, n) :: b)).set (a.length * 2 + 1) (.int .i64 z) = run2Cells (a ++ (s, z) :: b) := by
  have e : ∀ y, run2Cells (a ++ (s, y) :: b) = run2Cells a ++ (iv s :: iv y :: run2Cells b) := fun y => by simp [run2Cells, run2Cell]
  rw [e, e, List.set_append_right _ _ (by rw [run2Cells_len]; omega), run2Cells_len, show a.length * 2 + 1 - a.length * 2 = 1 by omega]
  rfl
theorem own_keep {w w' : World} {base : Nat} {e : TypeId} {sz n : Nat} {v vs : Value} {xs : List Value} (h : w.ownsRow base e sz v n xs) (hS : Keep (fun b => vs.ownBlock = some b) w.drew w') (hne : v.ownBlock = none ∨ v.ownBlock ≠ vs.ownBlock) : w'.ownsRow base e sz v n xs := by
  refine ⟨h.1, ?_⟩
  rcases h.2 with hn | ⟨g, cap, cur, rfl, hb, hgg, rest⟩
  · exact .inl hn
  · refine .inr ⟨g, cap, cur, rfl, hb, ?_, rest⟩
    have hg : g < w.heap.size := lt_of_block hgg
    have : w'.heap[g]? = w.heap[g]? := hS.block g hg (fun h => by
      rcases hne with h1 | h1
      · simp [Value.ownBlock] at h1
      · exact h1 (by rw [h]; rfl))
    rw [this]
    exact hgg
set_option maxRecDepth 100000 in
set_option maxHeartbeats 4000000 in
theorem walkRunAsks (w : World) (A0 : Option Addr) (m0 c0 : Nat) (l : List Int) (hr0 : Rd w w.heap.size 1 A0 m0 (l.map iv)) (hbd0 : ∀ x ∈ l, -9223372036854775808 ≤ x ∧ x ≤ 9223372036854775807) (hmc0 : m0 ≤ c0) (hcl0 : c0 ≤ maxLen)
    (A1 : Option Addr) (m1 c1 : Nat) (raw : List Int) (hr1 : Rd w w.heap.size 1 A1 m1 (raw.map iv)) (hbd1 : ∀ x ∈ raw, -9223372036854775808 ≤ x ∧ x ≤ 9223372036854775807) (hmc1 : m1 ≤ c1) (hcl1 : c1 ≤ maxLen)
    (A2 : Option Addr) (m2 c2 : Nat) (qs : List (Int × Int)) (hr2 : Rd w w.heap.size 2 A2 m2 (run2Cells qs)) (hmc2 : m2 ≤ c2) (hcl2 : c2 ≤ maxLen)
    (A3 : Option Addr) (m3 c3 : Nat) (b : List UInt8) (hr3 : Rd w w.heap.size 1 A3 m3 (b.map bv)) (hmc3 : m3 ≤ c3) (hcl3 : c3 ≤ maxLen) (most : Int) (hmost : (Lit.int .i64 most).wf = true) :
    Calls Try.prog 13 #[.slice A0 m0 c0, .slice A1 m1 c1, .slice A2 m2 c2, .slice A3 m3 c3, .int .i64 most] w fun e w' => e = .returned (.bool true) ∧ Below w.heap.size w w' := by
  obtain ⟨iq, hiq, hzq0, hzq1, hzq2⟩ := info_parts run_info
  obtain ⟨ir, hir, hzr0, hzr1, hzr2⟩ := info_parts run_infoR
  have hbm := bounds_i64 hmost
  have hll : qs.length = m2 := by have := hr2.1; rw [run2Cells_len] at this; omega
  have Hll := Lib.hid hll
  have Hr0 := Lib.hid hr0
  have Hr1 := Lib.hid hr1
  have Hr2 := Lib.hid hr2
  have Hr3 := Lib.hid hr3
  have hB0 := Below.refl w.heap.size w
  clear hr0 hr1 hr2 hr3 hbd0 hbd1 hmost hll
  by_cases h1 : m1 ≤ 60
  · by_cases h2 : m2 ≤ 20
    · by_cases h3 : m3 ≤ 100
      · go_enter Try.func13, Try.ntmps13
        go_wp2_with fail
        refine (Syms_any _ _ _ l _ Hr0.out (by omega)).mono ?_
        rintro e w1 ⟨sy, n5, A5, c5, rfl, hsn, hn5, _, hm5, hb1⟩
        have hs1 := hb1.size
        have Hr5 := Lib.hid hm5.rd
        have Hsn := Lib.hid hsn
        have Hr1 := Lib.hid (Hr1.out.below hb1 |>.mono hb1.size)
        have Hr2 := Lib.hid (Hr2.out.below hb1 |>.mono hb1.size)
        have Hr3 := Lib.hid (Hr3.out.below hb1 |>.mono hb1.size)
        clear hm5 Hr0 hsn
        go_wp2_with (at_builtin; refine wpList_append_rd _ rfl (.tmp 42) (.tmp 43) _ rfl w1.heap.size 57 iq _ 2 16 Try.underlying54 hiq hzq0 hzq1 hzq2 rfl (by decide) (.slice (some ⟨w1.heap.size, 0, none⟩) 0 0) 0 [] rfl (own_empty w1 57 2) w1.heap.size A2 m2 c2 _ rfl (Hr2.out.alloc (Nat.le_refl _) _) (by intro u hu; obtain ⟨x, _, hx⟩ := List.mem_flatMap.1 hu; simp [run2Cell] at hx; rcases hx with rfl | rfl <;> rfl) (by unfold maxLen; omega) (by omega) (by simp) ?_; intro v6 w6 hown6 hg6 hat6; rw [Nat.zero_add] at hown6; have hB6 := below_grown ((Below.refl w1.heap.size w1).alloc (Nat.le_refl _) _) (own_empty w1 57 2) hg6 (by simp); clear hg6 hat6)
        obtain ⟨Aq, cq, rfl, hmq⟩ := made_of_own hown6
        clear hmq
        go_loopw [12, 13] (fun v i wr => ∃ k : Nat, k ≤ m2 ∧ i = .int .i64 k ∧ wr.ownsRow w1.heap.size 57 2 (.slice Aq m2 cq) m2 (run2Cells (clipTo k qs)) ∧ wr.ownsRow w1.heap.size 60 2 v k (run2Cells ((qs.take k).map clipX)) ∧ Below w1.heap.size w1 wr) (fun _ i _ => m2 - (intOf i).toNat)
        case atStart => exact ⟨0, Nat.zero_le _, rfl, by simpa [clipTo] using hown6, World.ownsRow_nil _ _ _ _, hB6⟩
        case round =>
          obtain ⟨k, hk, rfl, hown_q0, hown_s0, hbW0⟩ := hrel
          have hsW0 := hbW0.size
          by_cases hlt : k < m2
          · obtain ⟨gq, cur, hAq, hg0, hgb⟩ : ∃ g cur, Aq = some ⟨g, 0, none⟩ ∧ w1.heap.size ≤ g ∧ wr.heap[g]? = some (.cells cur 57 (0, 0)) := by
              rcases hown_q0.2 with ⟨_, h⟩ | ⟨g, cap, cur, h1, h2, h3, _⟩
              · omega
              · injection h1 with h1 _ _
                exact ⟨g, cur, h1, h2, h3⟩
            subst hAq
            have hgq0 : gq < wr.heap.size := lt_of_block hgb
            obtain ⟨x, hx⟩ : ∃ x, qs[k]? = some x := ⟨qs[k]'(by have := Hll.out; omega), List.getElem?_eq_getElem (by have := Hll.out; omega)⟩
            obtain ⟨s, n0⟩ := x
            have hcl0 := clipTo_get k qs _ hx
            have c0 : wr.cell? ⟨gq, k * 2, none⟩ = some (.int .i64 s) := (hown_q0.cellAt (k * 2) (by omega)).trans ((run2Cells_get _ k 0 _ hcl0 (by omega)).trans rfl)
            have c1 : wr.cell? ⟨gq, k * 2 + 1, none⟩ = some (.int .i64 n0) := (hown_q0.cellAt (k * 2 + 1) (by omega)).trans ((run2Cells_get _ k 1 _ hcl0 (by omega)).trans rfl)
            have f1 := hown_q0.frozenAt (k * 2 + 1)
            have hsucc := clipTo_succ k qs _ hx
            have hhere := clipTo_here k qs _ hx
            have hsnoc := clip_snoc k qs _ hx
            have hqs0 : (Value.slice (some ⟨gq, 0, none⟩) m2 cq).ownBlock = none ∨ (Value.slice (some ⟨gq, 0, none⟩) m2 cq).ownBlock ≠ u12.ownBlock := own_ne_own hown_q0 hown_s0 (by decide)
            have hlk : ((qs.take k).map clipX).length = k := by rw [List.length_map, List.length_take]; have := Hll.out; omega
            obtain ⟨vs, hvs⟩ : ∃ vs, u12 = vs := ⟨_, rfl⟩
            rw [hvs] at hown_s0 hqs0 ⊢
            clear hvs
            have hqs : (Value.slice (some ⟨gq, 0, none⟩) m2 cq).ownBlock = none ∨ (Value.slice (some ⟨gq, 0, none⟩) m2 cq).ownBlock ≠ vs.ownBlock := hqs0
            have hneq : ¬ vs.ownBlock = some gq := fun h => by
              rcases hqs with h1 | h1
              · simp [Value.ownBlock] at h1
              · exact h1 (by rw [h]; rfl)
            obtain ⟨olds, holds⟩ : ∃ olds, (qs.take k).map clipX = olds := ⟨_, rfl⟩
            rw [holds] at hown_s0 hsucc hhere hsnoc hlk
            by_cases hbig : n0 > 300
            · have hcx : clipX (s, n0) = (s, 300) := by simp [clipX, hbig]
              rw [hcx] at hsucc hsnoc
              obtain ⟨n, hn⟩ : ∃ n : Int, n = 300 := ⟨_, rfl⟩
              obtain ⟨hst, hgr⟩ := hown_q0.stored (k * 2 + 1) (.int .i64 300)
              have hown_q1 : (wr.setCell ⟨gq, k * 2 + 1, none⟩ (.int .i64 300)).ownsRow w1.heap.size 57 2 (.slice (some ⟨gq, 0, none⟩) m2 cq) m2 (run2Cells (clipTo (k + 1) qs)) := by
                rw [hsucc, ← hlk, ← run2_set _ _ s n0 300, hlk, ← hhere]
                exact hst
              have hown_s1 := hown_s0.kept hgr (by rcases own_ne_own hown_s0 hown_q0 (by decide) with h | h; exact .inl h; exact .inr h)
              have hbW1 := hbW0.setCell (p := ⟨gq, k * 2 + 1, none⟩) hg0 (.int .i64 300)
              rw [← hn] at hsnoc
              have Hsnoc := Lib.hid hsnoc
              clear hcl0 hsucc hhere hsnoc hlk hst holds hgb
              go_wp2
              obtain ⟨wq, hwq⟩ : ∃ wq, wr.setCell ⟨gq, k * 2 + 1, none⟩ (.int .i64 300) = wq := ⟨_, rfl⟩
              have hown_q : wq.ownsRow w1.heap.size 57 2 (.slice (some ⟨gq, 0, none⟩) m2 cq) m2 (run2Cells (clipTo (k + 1) qs)) := by rw [← hwq]; exact hown_q1
              have hown_s : wq.ownsRow w1.heap.size 60 2 vs k (run2Cells olds) := by rw [← hwq]; exact hown_s1
              have hbW : Below w1.heap.size w1 wq := by rw [← hwq]; exact hbW1
              have hgq : gq < wq.heap.size := by rw [← hwq]; simpa using hgq0
              have d0 : wq.cell? ⟨gq, k * 2, none⟩ = some (.int .i64 s) := by
                rw [← hwq]
                exact (World.cell?_setCell_other _ _ _ _ (by intro h; injection h with _ h _; omega)).trans c0
              have d1 : wq.cell? ⟨gq, k * 2 + 1, none⟩ = some (.int .i64 n) := by
                rw [← hwq, hn]
                exact World.cell?_setCell_same _ _ _ c1
              have hsW := hbW.size
              rw [hwq]
              clear hwq hown_q0 hown_q1 hown_s0 hown_s1 hbW0 hbW1 hgq0 c0 c1 f1 hgr hn hcx
              refine wp_region_any (by kernel_rfl) ?_
              refine wpAny_loose4 [61, 62, 63, 64, 65, 66, 67, 68, 69, 70, 71, 72, 73, 74, 12] (GrowP vs wq.drew) (PushStep 13 vs) (PushPre 13 w1.heap.size 60 2 vs k (run2Cells olds)) (Vs [is vs, is (.slice (some ⟨gq, 0, none⟩) m2 cq), is (.int .i64 (k : Int)), is (.pointer (some ⟨gq, k * 2, none⟩)), is (.pointer (some ⟨gq, k * 2, none⟩)), is (.int .i64 s), is (.slice (some ⟨gq, 0, none⟩) m2 cq), is (.int .i64 (k : Int)), is (.pointer (some ⟨gq, k * 2, none⟩)), is (.pointer (some ⟨gq, k * 2 + 1, none⟩)), is (.int .i64 n), is (.agg #[.int .i64 s, .int .i64 n]), new1 vs 60 #[.int .i64 s, .int .i64 n], ownr w1.heap.size 60 2 (k + 1) (run2Cells (olds ++ [(s, n)])), ownr w1.heap.size 60 2 (k + 1) (run2Cells (olds ++ [(s, n)]))]) _ _ rfl (by kernel_rfl) (Keep.refl _ _) (fun i _ => hown_s) (fun j w1 w2 h k => pushC h k) (fun i j w1 w2 hij h k => pushPre_stab hij h k) ?_ ?_ ?_
              · intro i j v w1 w2 hij haf hv hS
                rcases i with _ | _ | _ | _ | _ | _ | _ | _ | _ | _ | _ | _ | _ | _ | _ | i
                iterate 12 exact hv
                · exact new1_stab hS hv
                · exact ownr_stab (fun h => hij h.symm) hS hv
                · refine ownr_stab (fun h => ?_) hS hv
                  subst h
                  revert haf
                  rw [show aftB _ _ _ _ = true from by kernel_rfl]
                  intro h; cases h
                · exact trivial
              · refine steps_of ?_
                refine steps_cons ?_ ?_
                · refine step_on3 rfl rfl ?_
                  intro ev w5 hS hU hc hf hold hval a K ha hK
                  have e12 : ev (.tmp 12) = vs := hold 12 (by kernel_rfl)
                  go_simp
                  exact hK _ _ (push_grow (by decide) (Below.refl _ _)) rfl
                refine steps_cons ?_ ?_
                · refine step_on3 rfl rfl ?_
                  intro ev w5 hS hU hc hf hold hval a K ha hK
                  have e2 : ev (.tmp 2) = .slice (some ⟨gq, 0, none⟩) m2 cq := hold 2 (by kernel_rfl)
                  go_simp
                  exact hK _ _ (push_grow (by decide) (Below.refl _ _)) rfl
                refine steps_cons ?_ ?_
                · refine step_on3 rfl rfl ?_
                  intro ev w5 hS hU hc hf hold hval a K ha hK
                  have e13 : ev (.tmp 13) = .int .i64 (k : Int) := hold 13 (by kernel_rfl)
                  go_simp
                  exact hK _ _ (push_grow (by decide) (Below.refl _ _)) rfl
                refine steps_cons ?_ ?_
                · refine step_on3 rfl rfl ?_
                  intro ev w5 hS hU hc hf hold hval a K ha hK
                  have e62 : ev (.tmp 62) = .slice (some ⟨gq, 0, none⟩) m2 cq := hval 1 62 (by kernel_rfl) rfl
                  have e63 : ev (.tmp 63) = .int .i64 (k : Int) := hval 2 63 (by kernel_rfl) rfl
                  go_simp
                  exact hK _ _ (push_grow (by decide) (Below.refl _ _)) rfl
                refine steps_cons ?_ ?_
                · refine step_on3 rfl rfl ?_
                  intro ev w5 hS hU hc hf hold hval a K ha hK
                  have e64 : ev (.tmp 64) = .pointer (some ⟨gq, k * 2, none⟩) := hval 3 64 (by kernel_rfl) rfl
                  go_simp
                  exact hK _ _ (push_grow (by decide) (Below.refl _ _)) rfl
                refine steps_cons ?_ ?_
                · refine step_on3 rfl rfl ?_
                  intro ev w5 hS hU hc hf hold hval a K ha hK
                  have e65 : ev (.tmp 65) = .pointer (some ⟨gq, k * 2, none⟩) := hval 4 65 (by kernel_rfl) rfl
                  have c66 : w5.cell? ⟨gq, k * 2, none⟩ = some (.int .i64 s) := (Keep.cell hS (p := ⟨gq, k * 2, none⟩) hgq hneq).trans d0
                  go_simp
                  exact hK _ _ (push_grow (by decide) (Below.refl _ _)) rfl
                refine steps_cons ?_ ?_
                · refine step_on3 rfl rfl ?_
                  intro ev w5 hS hU hc hf hold hval a K ha hK
                  have e2 : ev (.tmp 2) = .slice (some ⟨gq, 0, none⟩) m2 cq := hold 2 (by kernel_rfl)
                  go_simp
                  exact hK _ _ (push_grow (by decide) (Below.refl _ _)) rfl
                refine steps_cons ?_ ?_
                · refine step_on3 rfl rfl ?_
                  intro ev w5 hS hU hc hf hold hval a K ha hK
                  have e13 : ev (.tmp 13) = .int .i64 (k : Int) := hold 13 (by kernel_rfl)
                  go_simp
                  exact hK _ _ (push_grow (by decide) (Below.refl _ _)) rfl
                refine steps_cons ?_ ?_
                · refine step_on3 rfl rfl ?_
                  intro ev w5 hS hU hc hf hold hval a K ha hK
                  have e67 : ev (.tmp 67) = .slice (some ⟨gq, 0, none⟩) m2 cq := hval 6 67 (by kernel_rfl) rfl
                  have e68 : ev (.tmp 68) = .int .i64 (k : Int) := hval 7 68 (by kernel_rfl) rfl
                  go_simp
                  exact hK _ _ (push_grow (by decide) (Below.refl _ _)) rfl
                refine steps_cons ?_ ?_
                · refine step_on3 rfl rfl ?_
                  intro ev w5 hS hU hc hf hold hval a K ha hK
                  have e69 : ev (.tmp 69) = .pointer (some ⟨gq, k * 2, none⟩) := hval 8 69 (by kernel_rfl) rfl
                  go_simp
                  exact hK _ _ (push_grow (by decide) (Below.refl _ _)) rfl
                refine steps_cons ?_ ?_
                · refine step_on3 rfl rfl ?_
                  intro ev w5 hS hU hc hf hold hval a K ha hK
                  have e70 : ev (.tmp 70) = .pointer (some ⟨gq, k * 2 + 1, none⟩) := hval 9 70 (by kernel_rfl) rfl
                  have c71 : w5.cell? ⟨gq, k * 2 + 1, none⟩ = some (.int .i64 n) := (Keep.cell hS (p := ⟨gq, k * 2 + 1, none⟩) hgq hneq).trans d1
                  go_simp
                  exact hK _ _ (push_grow (by decide) (Below.refl _ _)) rfl
                refine steps_cons ?_ ?_
                · refine step_on3 rfl rfl ?_
                  intro ev w5 hS hU hc hf hold hval a K ha hK
                  have e66 : ev (.tmp 66) = .int .i64 s := hval 5 66 (by kernel_rfl) rfl
                  have e71 : ev (.tmp 71) = .int .i64 n := hval 10 71 (by kernel_rfl) rfl
                  go_simp
                  exact hK _ _ (push_grow (by decide) (Below.refl _ _)) rfl
                refine steps_cons ?_ ?_
                · refine step_on3 rfl rfl ?_
                  intro ev w5 hS hU hc hf hold hval a K ha hK
                  have e72 : ev (.tmp 72) = .agg #[.int .i64 s, .int .i64 n] := hval 11 72 (by kernel_rfl) rfl
                  go_simp
                  exact hK _ _ (push_grow (by decide) ((Below.refl _ _).alloc (Nat.le_refl _) _)) ⟨_, rfl, Bk.new _ _ _, push_ne hown_s.drew hS⟩
                refine steps_cons ?_ ?_
                · refine step_on3 rfl rfl ?_
                  intro ev w5 hS hU hc hf hold hval a K ha hK
                  have e61 : ev (.tmp 61) = vs := hval 0 61 (by kernel_rfl) rfl
                  obtain ⟨g73, e73, hb73, hn73⟩ : new1 vs 60 #[.int .i64 s, .int .i64 n] (ev (.tmp 73)) w5 := hval 12 73 (by kernel_rfl) rfl
                  subst ha
                  refine wp_append_rd w5 (.tmp 61) (.tmp 73) _ rfl w1.heap.size 60 ir _ 2 16 Try.underlying59 hir hzr0 hzr1 hzr2 rfl (by decide) vs k _ e61 (hU rfl) w5.heap.size (some ⟨g73, 0, none⟩) 1 1 _ e73 (rd_bk hb73 rfl) (by simp [Value.oneCell']) (by unfold maxLen; omega) (by omega) (Nat.le_trans (show w1.heap.size ≤ wq.drew.heap.size from hsW) (Keep.size hS)) ?_
                  intro v6 w6 hown6 hg6 _
                  refine hK _ _ (push_keep hg6) ?_
                  show w6.ownsRow w1.heap.size 60 2 v6 (k + 1) (run2Cells (olds ++ [(s, n)]))
                  rw [run2Cells_snoc]
                  exact hown6
                refine steps_cons ?_ ?_
                · refine step_on3 rfl rfl ?_
                  intro ev w5 hS hU hc hf hold hval a K ha hK
                  have r74 : ownr w1.heap.size 60 2 (k + 1) (run2Cells (olds ++ [(s, n)])) (ev (.tmp 74)) w5 := hval 13 74 (by kernel_rfl) rfl
                  go_simp
                  exact hK _ _ (push_grow (by decide) (Below.refl _ _)) r74
                exact steps_nil
              · intro ev w6 hS hval
                have r12 : w6.ownsRow w1.heap.size 60 2 (ev (.tmp 12)) (k + 1) (run2Cells (olds ++ [(s, n)])) := hval 14 12 rfl
                simp only [putsOf, List.foldl_cons, List.foldl_nil, Act.put, List.setIfInBounds_toArray, List.set_cons_zero, List.set_cons_succ]
                clear hval
                have hB6 : Below w1.heap.size w1 w6 := hbW.drew.trans (Keep.to_below hS hsW (fun b hb hF => by have := (hown_s.lt b hF).1; omega))
                have hq6 := own_keep hown_q hS hqs
                generalize ev (Operand.tmp 12) = x12 at r12 ⊢
                go_wp2
                go_roundw
                case rel => exact ⟨k + 1, by omega, by go_num, hq6, by rw [Hsnoc.out]; exact r12, hB6⟩
                case measure => simp [intOf]; omega
            · have hcx : clipX (s, n0) = (s, n0) := by simp [clipX, hbig]
              rw [hcx] at hsucc hsnoc
              obtain ⟨n, hn⟩ : ∃ n, n = n0 := ⟨_, rfl⟩
              rw [← hn] at c1 hsnoc
              have Hsnoc := Lib.hid hsnoc
              have hown_q : wr.ownsRow w1.heap.size 57 2 (.slice (some ⟨gq, 0, none⟩) m2 cq) m2 (run2Cells (clipTo (k + 1) qs)) := by rw [hsucc, ← hhere]; exact hown_q0
              have hown_s := hown_s0
              have hbW := hbW0
              have hgq := hgq0
              have d0 := c0
              have d1 := c1
              have hsW := hbW.size
              rw [← hn] at hbig
              clear hcl0 hsucc hhere hsnoc hlk holds hgb hown_q0 hown_s0 hbW0 hgq0 c0 f1 hn hcx
              go_wp2
              refine wp_region_any (by kernel_rfl) ?_
              refine wpAny_loose4 [61, 62, 63, 64, 65, 66, 67, 68, 69, 70, 71, 72, 73, 74, 12] (GrowP vs wr.drew) (PushStep 13 vs) (PushPre 13 w1.heap.size 60 2 vs k (run2Cells olds)) (Vs [is vs, is (.slice (some ⟨gq, 0, none⟩) m2 cq), is (.int .i64 (k : Int)), is (.pointer (some ⟨gq, k * 2, none⟩)), is (.pointer (some ⟨gq, k * 2, none⟩)), is (.int .i64 s), is (.slice (some ⟨gq, 0, none⟩) m2 cq), is (.int .i64 (k : Int)), is (.pointer (some ⟨gq, k * 2, none⟩)), is (.pointer (some ⟨gq, k * 2 + 1, none⟩)), is (.int .i64 n), is (.agg #[.int .i64 s, .int .i64 n]), new1 vs 60 #[.int .i64 s, .int .i64 n], ownr w1.heap.size 60 2 (k + 1) (run2Cells (olds ++ [(s, n)])), ownr w1.heap.size 60 2 (k + 1) (run2Cells (olds ++ [(s, n)]))]) _ _ rfl (by kernel_rfl) (Keep.refl _ _) (fun i _ => hown_s) (fun j w1 w2 h k => pushC h k) (fun i j w1 w2 hij h k => pushPre_stab hij h k) ?_ ?_ ?_
              · intro i j v w1 w2 hij haf hv hS
                rcases i with _ | _ | _ | _ | _ | _ | _ | _ | _ | _ | _ | _ | _ | _ | _ | i
                iterate 12 exact hv
                · exact new1_stab hS hv
                · exact ownr_stab (fun h => hij h.symm) hS hv
                · refine ownr_stab (fun h => ?_) hS hv
                  subst h
                  revert haf
                  rw [show aftB _ _ _ _ = true from by kernel_rfl]
                  intro h; cases h
                · exact trivial
              · refine steps_of ?_
                refine steps_cons ?_ ?_
                · refine step_on3 rfl rfl ?_
                  intro ev w5 hS hU hc hf hold hval a K ha hK
                  have e12 : ev (.tmp 12) = vs := hold 12 (by kernel_rfl)
                  go_simp
                  exact hK _ _ (push_grow (by decide) (Below.refl _ _)) rfl
                refine steps_cons ?_ ?_
                · refine step_on3 rfl rfl ?_
                  intro ev w5 hS hU hc hf hold hval a K ha hK
                  have e2 : ev (.tmp 2) = .slice (some ⟨gq, 0, none⟩) m2 cq := hold 2 (by kernel_rfl)
                  go_simp
                  exact hK _ _ (push_grow (by decide) (Below.refl _ _)) rfl
                refine steps_cons ?_ ?_
                · refine step_on3 rfl rfl ?_
                  intro ev w5 hS hU hc hf hold hval a K ha hK
                  have e13 : ev (.tmp 13) = .int .i64 (k : Int) := hold 13 (by kernel_rfl)
                  go_simp
                  exact hK _ _ (push_grow (by decide) (Below.refl _ _)) rfl
                refine steps_cons ?_ ?_
                · refine step_on3 rfl rfl ?_
                  intro ev w5 hS hU hc hf hold hval a K ha hK
                  have e62 : ev (.tmp 62) = .slice (some ⟨gq, 0, none⟩) m2 cq := hval 1 62 (by kernel_rfl) rfl
                  have e63 : ev (.tmp 63) = .int .i64 (k : Int) := hval 2 63 (by kernel_rfl) rfl
                  go_simp
                  exact hK _ _ (push_grow (by decide) (Below.refl _ _)) rfl
                refine steps_cons ?_ ?_
                · refine step_on3 rfl rfl ?_
                  intro ev w5 hS hU hc hf hold hval a K ha hK
                  have e64 : ev (.tmp 64) = .pointer (some ⟨gq, k * 2, none⟩) := hval 3 64 (by kernel_rfl) rfl
                  go_simp
                  exact hK _ _ (push_grow (by decide) (Below.refl _ _)) rfl
                refine steps_cons ?_ ?_
                · refine step_on3 rfl rfl ?_
                  intro ev w5 hS hU hc hf hold hval a K ha hK
                  have e65 : ev (.tmp 65) = .pointer (some ⟨gq, k * 2, none⟩) := hval 4 65 (by kernel_rfl) rfl
                  have c66 : w5.cell? ⟨gq, k * 2, none⟩ = some (.int .i64 s) := (Keep.cell hS (p := ⟨gq, k * 2, none⟩) hgq hneq).trans d0
                  go_simp
                  exact hK _ _ (push_grow (by decide) (Below.refl _ _)) rfl
                refine steps_cons ?_ ?_
                · refine step_on3 rfl rfl ?_
                  intro ev w5 hS hU hc hf hold hval a K ha hK
                  have e2 : ev (.tmp 2) = .slice (some ⟨gq, 0, none⟩) m2 cq := hold 2 (by kernel_rfl)
                  go_simp
                  exact hK _ _ (push_grow (by decide) (Below.refl _ _)) rfl
                refine steps_cons ?_ ?_
                · refine step_on3 rfl rfl ?_
                  intro ev w5 hS hU hc hf hold hval a K ha hK
                  have e13 : ev (.tmp 13) = .int .i64 (k : Int) := hold 13 (by kernel_rfl)
                  go_simp
                  exact hK _ _ (push_grow (by decide) (Below.refl _ _)) rfl
                refine steps_cons ?_ ?_
                · refine step_on3 rfl rfl ?_
                  intro ev w5 hS hU hc hf hold hval a K ha hK
                  have e67 : ev (.tmp 67) = .slice (some ⟨gq, 0, none⟩) m2 cq := hval 6 67 (by kernel_rfl) rfl
                  have e68 : ev (.tmp 68) = .int .i64 (k : Int) := hval 7 68 (by kernel_rfl) rfl
                  go_simp
                  exact hK _ _ (push_grow (by decide) (Below.refl _ _)) rfl
                refine steps_cons ?_ ?_
                · refine step_on3 rfl rfl ?_
                  intro ev w5 hS hU hc hf hold hval a K ha hK
                  have e69 : ev (.tmp 69) = .pointer (some ⟨gq, k * 2, none⟩) := hval 8 69 (by kernel_rfl) rfl
                  go_simp
                  exact hK _ _ (push_grow (by decide) (Below.refl _ _)) rfl
                refine steps_cons ?_ ?_
                · refine step_on3 rfl rfl ?_
                  intro ev w5 hS hU hc hf hold hval a K ha hK
                  have e70 : ev (.tmp 70) = .pointer (some ⟨gq, k * 2 + 1, none⟩) := hval 9 70 (by kernel_rfl) rfl
                  have c71 : w5.cell? ⟨gq, k * 2 + 1, none⟩ = some (.int .i64 n) := (Keep.cell hS (p := ⟨gq, k * 2 + 1, none⟩) hgq hneq).trans d1
                  go_simp
                  exact hK _ _ (push_grow (by decide) (Below.refl _ _)) rfl
                refine steps_cons ?_ ?_
                · refine step_on3 rfl rfl ?_
                  intro ev w5 hS hU hc hf hold hval a K ha hK
                  have e66 : ev (.tmp 66) = .int .i64 s := hval 5 66 (by kernel_rfl) rfl
                  have e71 : ev (.tmp 71) = .int .i64 n := hval 10 71 (by kernel_rfl) rfl
                  go_simp
                  exact hK _ _ (push_grow (by decide) (Below.refl _ _)) rfl
                refine steps_cons ?_ ?_
                · refine step_on3 rfl rfl ?_
                  intro ev w5 hS hU hc hf hold hval a K ha hK
                  have e72 : ev (.tmp 72) = .agg #[.int .i64 s, .int .i64 n] := hval 11 72 (by kernel_rfl) rfl
                  go_simp
                  exact hK _ _ (push_grow (by decide) ((Below.refl _ _).alloc (Nat.le_refl _) _)) ⟨_, rfl, Bk.new _ _ _, push_ne hown_s.drew hS⟩
                refine steps_cons ?_ ?_
                · refine step_on3 rfl rfl ?_
                  intro ev w5 hS hU hc hf hold hval a K ha hK
                  have e61 : ev (.tmp 61) = vs := hval 0 61 (by kernel_rfl) rfl
                  obtain ⟨g73, e73, hb73, hn73⟩ : new1 vs 60 #[.int .i64 s, .int .i64 n] (ev (.tmp 73)) w5 := hval 12 73 (by kernel_rfl) rfl
                  subst ha
                  refine wp_append_rd w5 (.tmp 61) (.tmp 73) _ rfl w1.heap.size 60 ir _ 2 16 Try.underlying59 hir hzr0 hzr1 hzr2 rfl (by decide) vs k _ e61 (hU rfl) w5.heap.size (some ⟨g73, 0, none⟩) 1 1 _ e73 (rd_bk hb73 rfl) (by simp [Value.oneCell']) (by unfold maxLen; omega) (by omega) (Nat.le_trans (show w1.heap.size ≤ wr.drew.heap.size from hsW) (Keep.size hS)) ?_
                  intro v6 w6 hown6 hg6 _
                  refine hK _ _ (push_keep hg6) ?_
                  show w6.ownsRow w1.heap.size 60 2 v6 (k + 1) (run2Cells (olds ++ [(s, n)]))
                  rw [run2Cells_snoc]
                  exact hown6
                refine steps_cons ?_ ?_
                · refine step_on3 rfl rfl ?_
                  intro ev w5 hS hU hc hf hold hval a K ha hK
                  have r74 : ownr w1.heap.size 60 2 (k + 1) (run2Cells (olds ++ [(s, n)])) (ev (.tmp 74)) w5 := hval 13 74 (by kernel_rfl) rfl
                  go_simp
                  exact hK _ _ (push_grow (by decide) (Below.refl _ _)) r74
                exact steps_nil
              · intro ev w6 hS hval
                have r12 : w6.ownsRow w1.heap.size 60 2 (ev (.tmp 12)) (k + 1) (run2Cells (olds ++ [(s, n)])) := hval 14 12 rfl
                simp only [putsOf, List.foldl_cons, List.foldl_nil, Act.put, List.setIfInBounds_toArray, List.set_cons_zero, List.set_cons_succ]
                clear hval
                have hB6 : Below w1.heap.size w1 w6 := hbW.drew.trans (Keep.to_below hS hsW (fun b hb hF => by have := (hown_s.lt b hF).1; omega))
                have hq6 := own_keep hown_q hS hqs
                generalize ev (Operand.tmp 12) = x12 at r12 ⊢
                go_wp2
                go_roundw
                case rel => exact ⟨k + 1, by omega, by go_num, hq6, by rw [Hsnoc.out]; exact r12, hB6⟩
                case measure => simp [intOf]; omega
          · have hge : m2 ≤ k := by omega
            have hkm : k = m2 := by omega
            have hq2 : clipTo k qs = qs.map clipX := by unfold clipTo; rw [List.take_of_length_le (by have := Hll.out; omega), List.drop_eq_nil_of_le (by have := Hll.out; omega), List.append_nil]
            have hs2 : (qs.take k).map clipX = qs.map clipX := by rw [List.take_of_length_le (by have := Hll.out; omega)]
            obtain ⟨q2, hq2e⟩ : ∃ q2, qs.map clipX = q2 := ⟨_, rfl⟩
            rw [hq2, hq2e] at hown_q0
            rw [hs2, hq2e, hkm] at hown_s0
            obtain ⟨As, cs, rfl, hms⟩ := made_of_own hown_s0
            have Hq9 := Lib.hid (Rd.of_own hown_q0)
            have Hs9 := Lib.hid hms.rd
            have Hraw := Lib.hid (Hr1.out.below hbW0 |>.mono hbW0.size)
            have Hb9 := Lib.hid (Hr3.out.below hbW0 |>.mono hbW0.size)
            have Hx9 := Lib.hid (Hr5.out.below hbW0 |>.mono hbW0.size)
            have hB9' := hb1.trans (hbW0.mono hs1)
            have hrl : raw.length = m1 := by simpa using Hr1.out.1
            have hbl : b.length = m3 := by simpa using Hr3.out.1
            have Hrl := Lib.hid hrl
            have Hbl := Lib.hid hbl
            obtain ⟨ll, hall⟩ : ∃ ll, allRuns q2 = ll := ⟨_, rfl⟩
            obtain ⟨nl, hnl⟩ : ∃ nl, ll.length = nl := ⟨_, rfl⟩
            have hnlb : nl ≤ 1000000 := by rw [← hnl, ← hall]; exact allRuns_len q2
            have Hall := Lib.hid hall
            have Hnl := Lib.hid hnl
            clear hq2 hs2 hq2e hown_q0 hown_s0 hms hbW0 hkm hrl hbl hall hnl hown6 hB6 Hr1 Hr2 Hr3 Hr5
            go_wp2
            go_loopw [11, 14] (fun v i wx => ∃ (t : Nat) (A : Option Addr) (c n : Nat) (x : List Int), t ≤ 2 ∧ i = .int .i64 t ∧ v = .slice A n c ∧ x.length = n ∧ n ≤ 200 ∧ Rd wx wx.heap.size 1 A n (x.map iv) ∧ Below w.heap.size w wx ∧ Below wr.heap.size wr wx) (fun _ i _ => 2 - (intOf i).toNat)
            case atStart => exact ⟨0, A5, c5, n5, sy, by omega, rfl, rfl, Hsn.out, hn5, Hx9.out, hB9', Below.refl _ _⟩
            case round =>
              obtain ⟨t, A, c, n, x, ht, rfl, rfl, hxn, hn200, hx, hb, hc⟩ := hrel
              by_cases ht2 : t < 2
              · obtain ⟨r, hr⟩ : ∃ r, runsOf x = r := ⟨_, rfl⟩
                obtain ⟨q, hq⟩ : ∃ q, r.length = q := ⟨_, rfl⟩
                have hqn : q ≤ n := by rw [← hq, ← hr, ← hxn]; exact runsOf_len x
                have Hr := Lib.hid hr
                have Hq := Lib.hid hq
                have Hx := Lib.hid hx
                clear hr hq hx hxn
                rcases hput : putRuns x with _ | bs
                · go_wp2_with fail
                  refine (RunPut_bad _ _ _ _ x _ hput Hx.out (Nat.le_refl _) (by omega)).mono ?_
                  rintro e w3 ⟨rfl, hb3⟩
                  have hB3 := hb.trans (hb3.mono hb.size)
                  have hc3 := hc.trans (hb3.mono hc.size)
                  have hs3 := hB3.size
                  have Hx3 := Lib.hid (Hx.out.below hb3 |>.mono hb3.size)
                  clear hb3 hb hc
                  go_wp2_with fail
                  refine (refPutRuns_bad _ _ _ _ x _ hput Hx3.out (by omega)).mono ?_
                  rintro e w4 ⟨rfl, rfl⟩
                  have hB4 := hB3
                  have hc4 := hc3
                  have hs4 := hs3
                  have Hx4 := Hx3
                  clear hB3 hc3
                  go_wp2_with fail
                  refine (RunOf_is _ _ _ _ x _ r q Hr.out Hq.out Hx4.out (Nat.le_refl _) (by omega)).mono ?_
                  rintro e wu ⟨Au, cu, rfl, hmu, hbu⟩
                  have hBu := hB4.trans (hbu.mono hs4)
                  have hcu := hc4.trans (hbu.mono hc4.size)
                  have hsu := hBu.size
                  have Hxu := Lib.hid (Hx4.out.below hbu |>.mono hbu.size)
                  have Hru0 := Lib.hid hmu.rd
                  clear hbu hmu hB4 hc4
                  go_wp2_with fail
                  refine (refRuns_is _ _ _ _ x _ r q Hr.out Hq.out Hxu.out (Nat.le_refl _) (by omega)).mono ?_
                  rintro e wz ⟨Av, cv, rfl, hmv, hbz⟩
                  have hBz := hBu.trans (hbz.mono hsu)
                  have hczz := hcu.trans (hbz.mono hcu.size)
                  have Hru := Lib.hid (Hru0.out.below hbz |>.mono hbz.size)
                  have Hrv := Lib.hid hmv.rd
                  have tz := str_at (l := []) (Rd.nil wz wz.heap.size 1 none) (Below.refl _ _) 0
                  clear hbz hmv hBu hcu
                  go_wp2
                  go_loopw [21] (fun i wy => ∃ j : Nat, j ≤ q ∧ i = .int .i64 j ∧ Below w.heap.size w wy ∧ Below wz.heap.size wz wy) (fun i _ => q - (intOf i).toNat)
                  case atStart => exact ⟨0, Nat.zero_le _, rfl, hBz, Below.refl _ _⟩
                  case round =>
                    obtain ⟨j, hj, rfl, hby, hcy⟩ := hrel
                    by_cases hjq : j < q
                    · obtain ⟨x, hx⟩ : ∃ x, r[j]? = some x := ⟨r[j]'(by have := Hq.out; omega), List.getElem?_eq_getElem (by have := Hq.out; omega)⟩
                      obtain ⟨bu, ou, rfl, hlu, hcu⟩ := (Hru.out.below hcy).2 (by omega)
                      obtain ⟨bv_, ov, rfl, hlv, hcv⟩ := (Hrv.out.below hcy).2 (by omega)
                      obtain ⟨s, c⟩ := x
                      have du0 : wr.cell? ⟨bu, ou + j * 2, none⟩ = some (.int .i64 s) := hcu (j * 2 + 0) _ ((runCells_get r j 0 _ hx (by omega)).trans rfl)
                      have du1 : wr.cell? ⟨bu, ou + j * 2 + 1, none⟩ = some (.int .i64 (c : Int)) := by rw [Nat.add_assoc]; exact hcu (j * 2 + 1) _ ((runCells_get r j 1 _ hx (by omega)).trans rfl)
                      have dv0 : wr.cell? ⟨bv_, ov + j * 2, none⟩ = some (.int .i64 s) := hcv (j * 2 + 0) _ ((runCells_get r j 0 _ hx (by omega)).trans rfl)
                      have dv1 : wr.cell? ⟨bv_, ov + j * 2 + 1, none⟩ = some (.int .i64 (c : Int)) := by rw [Nat.add_assoc]; exact hcv (j * 2 + 1) _ ((runCells_get r j 1 _ hx (by omega)).trans rfl)
                      clear hcu hcv hx
                      go_wp2
                      go_quiet (fail)
                      go_wp2
                      go_roundw
                      case rel => exact ⟨j + 1, by omega, by go_num, below_drewN hby _, below_drewN hcy _⟩
                      case measure => simp [intOf]; omega
                    · have hge : q ≤ j := by omega
                      have hB9 := hczz.trans (hcy.mono hczz.size)
                      have hR1 := Hraw.out.below hB9 |>.mono hB9.size
                      go_wp2
                      go_roundw
                      case rel => exact ⟨t + 1, A1, c1, m1, raw, by omega, by go_num, rfl, Hrl.out, by omega, hR1, hby, hB9⟩
                      case measure => simp [intOf]; omega
                · obtain ⟨p, hp⟩ : ∃ p, bs.length = p := ⟨_, rfl⟩
                  have Hp := Lib.hid hp
                  clear hp
                  go_wp2_with fail
                  refine (RunPut_ok _ _ _ _ x _ bs p hput Hp.out Hx.out (Nat.le_refl _) (by omega)).mono ?_
                  rintro e w3 ⟨A3', c3', rfl, hm3, hb3⟩
                  have hB3 := hb.trans (hb3.mono hb.size)
                  have hc3 := hc.trans (hb3.mono hc.size)
                  have hs3 := hB3.size
                  have Hx3 := Lib.hid (Hx.out.below hb3 |>.mono hb3.size)
                  have Hr33 := Lib.hid hm3.rd
                  clear hb3 hm3 hb hc
                  go_wp2_with fail
                  refine (refPutRuns_ok _ _ _ _ x _ bs hput Hx3.out (Nat.le_refl _) (by omega)).mono ?_
                  rintro e w4 ⟨rfl, hb4⟩
                  have hB4 := hB3.trans (hb4.mono hs3)
                  have hc4 := hc3.trans (hb4.mono hc3.size)
                  have hs4 := hB4.size
                  have Hx4 := Lib.hid (Hx3.out.below hb4 |>.mono hb4.size)
                  have Hr34 := Lib.hid (Hr33.out.below hb4 |>.mono hb4.size)
                  clear hb4 hB3 hc3
                  go_wp2_with fail
                  refine (RunOf_is _ _ _ _ x _ r q Hr.out Hq.out Hx4.out (Nat.le_refl _) (by omega)).mono ?_
                  rintro e wu ⟨Au, cu, rfl, hmu, hbu⟩
                  have hBu := hB4.trans (hbu.mono hs4)
                  have hcu := hc4.trans (hbu.mono hc4.size)
                  have hsu := hBu.size
                  have Hxu := Lib.hid (Hx4.out.below hbu |>.mono hbu.size)
                  have Hr3u := Lib.hid (Hr34.out.below hbu |>.mono hbu.size)
                  have Hru0 := Lib.hid hmu.rd
                  clear hbu hmu hB4 hc4
                  go_wp2_with fail
                  refine (refRuns_is _ _ _ _ x _ r q Hr.out Hq.out Hxu.out (Nat.le_refl _) (by omega)).mono ?_
                  rintro e wz ⟨Av, cv, rfl, hmv, hbz⟩
                  have hBz := hBu.trans (hbz.mono hsu)
                  have hczz := hcu.trans (hbz.mono hcu.size)
                  have Hru := Lib.hid (Hru0.out.below hbz |>.mono hbz.size)
                  have Hrv := Lib.hid hmv.rd
                  have tz := str_at (Hr3u.out.below hbz |>.mono hbz.size) (Below.refl _ _) c3'
                  clear hbz hmv hBu hcu
                  go_wp2
                  go_loopw [21] (fun i wy => ∃ j : Nat, j ≤ q ∧ i = .int .i64 j ∧ Below w.heap.size w wy ∧ Below wz.heap.size wz wy) (fun i _ => q - (intOf i).toNat)
                  case atStart => exact ⟨0, Nat.zero_le _, rfl, hBz, Below.refl _ _⟩
                  case round =>
                    obtain ⟨j, hj, rfl, hby, hcy⟩ := hrel
                    by_cases hjq : j < q
                    · obtain ⟨x, hx⟩ : ∃ x, r[j]? = some x := ⟨r[j]'(by have := Hq.out; omega), List.getElem?_eq_getElem (by have := Hq.out; omega)⟩
                      obtain ⟨bu, ou, rfl, hlu, hcu⟩ := (Hru.out.below hcy).2 (by omega)
                      obtain ⟨bv_, ov, rfl, hlv, hcv⟩ := (Hrv.out.below hcy).2 (by omega)
                      obtain ⟨s, c⟩ := x
                      have du0 : wr.cell? ⟨bu, ou + j * 2, none⟩ = some (.int .i64 s) := hcu (j * 2 + 0) _ ((runCells_get r j 0 _ hx (by omega)).trans rfl)
                      have du1 : wr.cell? ⟨bu, ou + j * 2 + 1, none⟩ = some (.int .i64 (c : Int)) := by rw [Nat.add_assoc]; exact hcu (j * 2 + 1) _ ((runCells_get r j 1 _ hx (by omega)).trans rfl)
                      have dv0 : wr.cell? ⟨bv_, ov + j * 2, none⟩ = some (.int .i64 s) := hcv (j * 2 + 0) _ ((runCells_get r j 0 _ hx (by omega)).trans rfl)
                      have dv1 : wr.cell? ⟨bv_, ov + j * 2 + 1, none⟩ = some (.int .i64 (c : Int)) := by rw [Nat.add_assoc]; exact hcv (j * 2 + 1) _ ((runCells_get r j 1 _ hx (by omega)).trans rfl)
                      clear hcu hcv hx
                      go_wp2
                      go_quiet (fail)
                      go_wp2
                      go_roundw
                      case rel => exact ⟨j + 1, by omega, by go_num, below_drewN hby _, below_drewN hcy _⟩
                      case measure => simp [intOf]; omega
                    · have hge : q ≤ j := by omega
                      have hB9 := hczz.trans (hcy.mono hczz.size)
                      have hR1 := Hraw.out.below hB9 |>.mono hB9.size
                      go_wp2
                      go_roundw
                      case rel => exact ⟨t + 1, A1, c1, m1, raw, by omega, by go_num, rfl, Hrl.out, by omega, hR1, hby, hB9⟩
                      case measure => simp [intOf]; omega
              · have hge2 : 2 ≤ t := by omega
                clear hx
                by_cases hbig : most > 100000
                · obtain ⟨l1, e1, hg1⟩ : ∃ l1 e1, getRuns b 100000 = (l1, e1) := ⟨_, _, rfl⟩
                  obtain ⟨n1, hn1⟩ : ∃ n1, l1.length = n1 := ⟨_, rfl⟩
                  have hlen1 := getRuns_len b 100000 l1 e1 hg1
                  rw [hn1] at hlen1
                  have hn1b : n1 ≤ 100000 := by omega
                  have Hg1 := Lib.hid hg1
                  have Hn1 := Lib.hid hn1
                  have Hb3 := Lib.hid (Hb9.out.below hc |>.mono hc.size)
                  have Hq3 := Lib.hid (Hq9.out.below hc |>.mono hc.size)
                  have Hs3 := Lib.hid (Hs9.out.below hc |>.mono hc.size)
                  have hsz := hb.size
                  clear hg1 hn1 hlen1 hc
                  go_wp2_with fail
                  refine (RunGet_is _ _ _ _ b 100000 _ l1 n1 e1 Hg1.out Hn1.out Hb3.out (Nat.le_refl _) hmc3 hcl3 (by omega) (by omega)).mono ?_
                  rintro e x1 ⟨B1, d1, rfl, hk1, hx1⟩
                  have hX1 := hb.trans (hx1.mono hsz)
                  have hsx1 := hX1.size
                  have G1 := Lib.hid hk1.rd
                  have Hb4 := Lib.hid (Hb3.out.below hx1 |>.mono hx1.size)
                  have Hq4 := Lib.hid (Hq3.out.below hx1 |>.mono hx1.size)
                  have Hs4 := Lib.hid (Hs3.out.below hx1 |>.mono hx1.size)
                  have tb := str_at Hb4.out (Below.refl _ _) c3
                  clear hk1 hx1 hb
                  go_wp2_with fail
                  refine (refGetRuns_is b 100000 _ l1 n1 e1 Hg1.out Hn1.out (by have := Hbl.out; unfold maxLen; omega) (by omega) (by omega)).mono ?_
                  rintro e x2 ⟨B2, d2, rfl, hk2, hx2⟩
                  have hX2 := hX1.trans (hx2.mono hsx1)
                  have hsx2 := hX2.size
                  have G2 := Lib.hid hk2.rd
                  have G12 := Lib.hid (G1.out.below hx2 |>.mono hx2.size)
                  have Hq5 := Lib.hid (Hq4.out.below hx2 |>.mono hx2.size)
                  have Hs5 := Lib.hid (Hs4.out.below hx2 |>.mono hx2.size)
                  clear hk2 hx2 hX1 tb
                  go_wp2_with fail
                  refine (told18_any _).mono ?_
                  rintro e x3 ⟨rfl, hx3⟩
                  have hX3 := hX2.trans (hx3.mono hsx2)
                  have hsx3 := hX3.size
                  have G13 := Lib.hid (G12.out.below hx3 |>.mono hx3.size)
                  have G23 := Lib.hid (G2.out.below hx3 |>.mono hx3.size)
                  have Hq6 := Lib.hid (Hq5.out.below hx3 |>.mono hx3.size)
                  have Hs6 := Lib.hid (Hs5.out.below hx3 |>.mono hx3.size)
                  clear hx3 hX2
                  go_wp2_with fail
                  refine (Same_any _ _ _ _ _ _ _ l1 l1 _ G13.out G23.out (by unfold maxLen; omega) (by unfold maxLen; omega)).mono ?_
                  rintro e x4 ⟨rfl, hx4⟩
                  have hX4 := hX3.trans (hx4.mono hsx3)
                  have hsx4 := hX4.size
                  have Hq7 := Lib.hid (Hq6.out.below hx4 |>.mono hx4.size)
                  have Hs7 := Lib.hid (Hs6.out.below hx4 |>.mono hx4.size)
                  clear hx4 hX3
                  rw [show decide (l1 = l1) = true by simp]
                  go_wp2_with fail
                  refine (RunAll_is _ _ _ _ q2 _ ll nl Hall.out Hnl.out Hq7.out (Nat.le_refl _) (by omega)).mono ?_
                  rintro e x5 ⟨B5, d5, rfl, hk5, hx5⟩
                  have hX5 := hX4.trans (hx5.mono hsx4)
                  have hsx5 := hX5.size
                  have G5 := Lib.hid hk5.rd
                  have Hs8 := Lib.hid (Hs7.out.below hx5 |>.mono hx5.size)
                  clear hk5 hx5 hX4
                  go_wp2_with fail
                  refine (refAllRuns_is _ _ _ _ q2 _ ll nl Hall.out Hnl.out Hs8.out (Nat.le_refl _) (by omega)).mono ?_
                  rintro e x6 ⟨B6, d6, rfl, hk6, hx6⟩
                  have hX6 := hX5.trans (hx6.mono hsx5)
                  have hsx6 := hX6.size
                  have G6 := Lib.hid hk6.rd
                  have G56 := Lib.hid (G5.out.below hx6 |>.mono hx6.size)
                  clear hk6 hx6 hX5
                  go_wp2_with fail
                  refine (Same_any _ _ _ _ _ _ _ ll ll _ G56.out G6.out (by unfold maxLen; omega) (by unfold maxLen; omega)).mono ?_
                  rintro e x7 ⟨rfl, hx7⟩
                  have hX7 := hX6.trans (hx7.mono hsx6)
                  clear hx7 hX6
                  rw [show decide (ll = ll) = true by simp]
                  go_wp2_with fail
                  go_ret
                  exact ⟨ret_bool (by simp), hX7⟩
                · obtain ⟨l1, e1, hg1⟩ : ∃ l1 e1, getRuns b most = (l1, e1) := ⟨_, _, rfl⟩
                  obtain ⟨n1, hn1⟩ : ∃ n1, l1.length = n1 := ⟨_, rfl⟩
                  have hlen1 := getRuns_len b most l1 e1 hg1
                  rw [hn1] at hlen1
                  have hn1b : n1 ≤ 100000 := by omega
                  have Hg1 := Lib.hid hg1
                  have Hn1 := Lib.hid hn1
                  have Hb3 := Lib.hid (Hb9.out.below hc |>.mono hc.size)
                  have Hq3 := Lib.hid (Hq9.out.below hc |>.mono hc.size)
                  have Hs3 := Lib.hid (Hs9.out.below hc |>.mono hc.size)
                  have hsz := hb.size
                  clear hg1 hn1 hlen1 hc
                  go_wp2_with fail
                  refine (RunGet_is _ _ _ _ b most _ l1 n1 e1 Hg1.out Hn1.out Hb3.out (Nat.le_refl _) hmc3 hcl3 (by omega) (by omega)).mono ?_
                  rintro e x1 ⟨B1, d1, rfl, hk1, hx1⟩
                  have hX1 := hb.trans (hx1.mono hsz)
                  have hsx1 := hX1.size
                  have G1 := Lib.hid hk1.rd
                  have Hb4 := Lib.hid (Hb3.out.below hx1 |>.mono hx1.size)
                  have Hq4 := Lib.hid (Hq3.out.below hx1 |>.mono hx1.size)
                  have Hs4 := Lib.hid (Hs3.out.below hx1 |>.mono hx1.size)
                  have tb := str_at Hb4.out (Below.refl _ _) c3
                  clear hk1 hx1 hb
                  go_wp2_with fail
                  refine (refGetRuns_is b most _ l1 n1 e1 Hg1.out Hn1.out (by have := Hbl.out; unfold maxLen; omega) (by omega) (by omega)).mono ?_
                  rintro e x2 ⟨B2, d2, rfl, hk2, hx2⟩
                  have hX2 := hX1.trans (hx2.mono hsx1)
                  have hsx2 := hX2.size
                  have G2 := Lib.hid hk2.rd
                  have G12 := Lib.hid (G1.out.below hx2 |>.mono hx2.size)
                  have Hq5 := Lib.hid (Hq4.out.below hx2 |>.mono hx2.size)
                  have Hs5 := Lib.hid (Hs4.out.below hx2 |>.mono hx2.size)
                  clear hk2 hx2 hX1 tb
                  go_wp2_with fail
                  refine (told18_any _).mono ?_
                  rintro e x3 ⟨rfl, hx3⟩
                  have hX3 := hX2.trans (hx3.mono hsx2)
                  have hsx3 := hX3.size
                  have G13 := Lib.hid (G12.out.below hx3 |>.mono hx3.size)
                  have G23 := Lib.hid (G2.out.below hx3 |>.mono hx3.size)
                  have Hq6 := Lib.hid (Hq5.out.below hx3 |>.mono hx3.size)
                  have Hs6 := Lib.hid (Hs5.out.below hx3 |>.mono hx3.size)
                  clear hx3 hX2
                  go_wp2_with fail
                  refine (Same_any _ _ _ _ _ _ _ l1 l1 _ G13.out G23.out (by unfold maxLen; omega) (by unfold maxLen; omega)).mono ?_
                  rintro e x4 ⟨rfl, hx4⟩
                  have hX4 := hX3.trans (hx4.mono hsx3)
                  have hsx4 := hX4.size
                  have Hq7 := Lib.hid (Hq6.out.below hx4 |>.mono hx4.size)
                  have Hs7 := Lib.hid (Hs6.out.below hx4 |>.mono hx4.size)
                  clear hx4 hX3
                  rw [show decide (l1 = l1) = true by simp]
                  go_wp2_with fail
                  refine (RunAll_is _ _ _ _ q2 _ ll nl Hall.out Hnl.out Hq7.out (Nat.le_refl _) (by omega)).mono ?_
                  rintro e x5 ⟨B5, d5, rfl, hk5, hx5⟩
                  have hX5 := hX4.trans (hx5.mono hsx4)
                  have hsx5 := hX5.size
                  have G5 := Lib.hid hk5.rd
                  have Hs8 := Lib.hid (Hs7.out.below hx5 |>.mono hx5.size)
                  clear hk5 hx5 hX4
                  go_wp2_with fail
                  refine (refAllRuns_is _ _ _ _ q2 _ ll nl Hall.out Hnl.out Hs8.out (Nat.le_refl _) (by omega)).mono ?_
                  rintro e x6 ⟨B6, d6, rfl, hk6, hx6⟩
                  have hX6 := hX5.trans (hx6.mono hsx5)
                  have hsx6 := hX6.size
                  have G6 := Lib.hid hk6.rd
                  have G56 := Lib.hid (G5.out.below hx6 |>.mono hx6.size)
                  clear hk6 hx6 hX5
                  go_wp2_with fail
                  refine (Same_any _ _ _ _ _ _ _ ll ll _ G56.out G6.out (by unfold maxLen; omega) (by unfold maxLen; omega)).mono ?_
                  rintro e x7 ⟨rfl, hx7⟩
                  have hX7 := hX6.trans (hx7.mono hsx6)
                  clear hx7 hX6
                  rw [show decide (ll = ll) = true by simp]
                  go_wp2_with fail
                  go_ret
                  exact ⟨ret_bool (by simp), hX7⟩
      · go_enter Try.func13, Try.ntmps13
        go_wp2_with fail
        refine (told18_any _).mono ?_
        rintro e w3 ⟨rfl, hb3⟩
        go_wp2_with fail
        go_ret
        exact ⟨rfl, hb3⟩
    · go_enter Try.func13, Try.ntmps13
      go_wp2_with fail
      refine (told18_any _).mono ?_
      rintro e w3 ⟨rfl, hb3⟩
      go_wp2_with fail
      go_ret
      exact ⟨rfl, hb3⟩
  · go_enter Try.func13, Try.ntmps13
    go_wp2_with fail
    refine (told18_any _).mono ?_
    rintro e w3 ⟨rfl, hb3⟩
    go_wp2_with fail
    go_ret
    exact ⟨rfl, hb3⟩
end Go.Proofs.Ythcoldomeedbnaa
