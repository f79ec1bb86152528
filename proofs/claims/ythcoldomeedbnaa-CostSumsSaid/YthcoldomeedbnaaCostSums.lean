/- The walk of the law CostSums. No conditions. -/
import Derived.Test.YthcoldomeedbnaaCostLaw
import Derived.Test.YthcoldomeedbnaaPush3
import Derived.BigRegion
import Derived.Laws.StructEq
namespace Go.Proofs.Ythcoldomeedbnaa
open Go.RowKit
set_option linter.unusedVariables false
/-- A shape of small parts. -/
def redS (s : Shp) : Shp := ⟨s.len.tmod 1000000, s.height.tmod 100, s.leaves.tmod 1000000, s.nodes.tmod 1000000⟩
theorem tmod_in (a : Int) : -1000000 < a.tmod 1000000 ∧ a.tmod 1000000 < 1000000 := by
  have h : (a.tmod 1000000).natAbs = a.natAbs % 1000000 := Int.natAbs_tmod a 1000000
  have := Nat.mod_lt a.natAbs (show 0 < 1000000 by omega)
  omega
theorem redS_small (s : Shp) : (redS s).small := by
  have h1 := tmod_in s.len
  have h2 := tmod_in s.leaves
  have h3 := tmod_in s.nodes
  unfold Shp.small redS
  simp only
  omega
theorem add_swap (a x y : Shp) : (a.add x).add y = (a.add y).add x := by
  unfold Shp.add
  simp only [Shp.mk.injEq]
  omega
theorem sum_rev (l : List Shp) : sumShp l.reverse = sumShp l := by
  unfold sumShp
  exact List.Perm.foldl_eq' (List.reverse_perm l) (fun x _ y _ z => add_swap z x y) _
theorem shpCells_append (a b : List Shp) : shpCells (a ++ b) = shpCells a ++ shpCells b := by simp [shpCells]
set_option maxRecDepth 100000 in
set_option maxHeartbeats 2000000 in
theorem walkCostSums (w : World) (A0 : Option Addr) (m0 c0 : Nat) (l : List Shp) (hr0 : Rd w w.heap.size 4 A0 m0 (shpCells l)) (hmc0 : m0 ≤ c0) (hcl0 : c0 ≤ maxLen) :
    Calls Try.prog 4 #[.slice A0 m0 c0] w fun e w' => e = .returned (.bool true) ∧ Below w.heap.size w w' := by
  have hll : l.length = m0 := by have := hr0.1; rw [shpCells_len] at this; omega
  have Hll := Lib.hid hll
  have Hr0 := Lib.hid hr0
  have hB0 := Below.refl w.heap.size w
  clear hr0 hll
  by_cases h10 : m0 ≤ 10
  · go_enter Try.func4, Try.ntmps4
    go_wp2_with fail
    go_loopw [3, 4, 5] (fun va vb i wr => ∃ k : Nat, k ≤ m0 ∧ i = .int .i64 k ∧ wr.ownsRow w.heap.size 28 4 va k (shpCells ((l.map redS).take k)) ∧ wr.ownsRow w.heap.size 28 4 vb k (shpCells ((l.map redS).take k).reverse) ∧ (va.ownBlock = none ∨ va.ownBlock ≠ vb.ownBlock) ∧ Below w.heap.size w wr) (fun _ _ i _ => m0 - (intOf i).toNat)
    case atStart => exact ⟨0, Nat.zero_le _, rfl, World.ownsRow_nil _ _ _ _, World.ownsRow_nil _ _ _ _, .inl rfl, hB0⟩
    case round =>
      obtain ⟨k, hk, rfl, hown_a, hown_b, hne, hb⟩ := hrel
      have hsz := hb.size
      by_cases hlt : k < m0
      · obtain ⟨s, hs⟩ : ∃ s, l[k]? = some s := ⟨l[k]'(by have := Hll.out; omega), List.getElem?_eq_getElem (by have := Hll.out; omega)⟩
        obtain ⟨b, off, rfl, hbl, hc⟩ := (Hr0.out.below hb).2 (by omega)
        have c0 : wr.cell? ⟨b, off + k * 4, none⟩ = some (.int .i64 s.len) := hc (k * 4 + 0) _ ((shpCells_get l k 0 s hs (by omega)).trans rfl)
        have c1 : wr.cell? ⟨b, off + k * 4 + 1, none⟩ = some (.int .i64 s.height) := by rw [Nat.add_assoc]; exact hc (k * 4 + 1) _ ((shpCells_get l k 1 s hs (by omega)).trans rfl)
        have c2 : wr.cell? ⟨b, off + k * 4 + 2, none⟩ = some (.int .i64 s.leaves) := by rw [Nat.add_assoc]; exact hc (k * 4 + 2) _ ((shpCells_get l k 2 s hs (by omega)).trans rfl)
        have c3 : wr.cell? ⟨b, off + k * 4 + 3, none⟩ = some (.int .i64 s.nodes) := by rw [Nat.add_assoc]; exact hc (k * 4 + 3) _ ((shpCells_get l k 3 s hs (by omega)).trans rfl)
        have Hown_a := Lib.hid hown_a
        have Hown_b := Lib.hid hown_b
        have Hne := Lib.hid hne
        clear hc hown_a hown_b hne
        have hbw : b < wr.heap.size := by omega
        have a0 := (World.cell?_alloc_lt wr (Obj.cells #[.int .i64 0, .int .i64 0, .int .i64 0, .int .i64 0] 28) ⟨b, off + k * 4, none⟩ hbw).trans c0
        have a1 := (World.cell?_alloc_lt wr (Obj.cells #[.int .i64 0, .int .i64 0, .int .i64 0, .int .i64 0] 28) ⟨b, off + k * 4 + 1, none⟩ hbw).trans c1
        have a2 := (World.cell?_alloc_lt wr (Obj.cells #[.int .i64 0, .int .i64 0, .int .i64 0, .int .i64 0] 28) ⟨b, off + k * 4 + 2, none⟩ hbw).trans c2
        have a3 := (World.cell?_alloc_lt wr (Obj.cells #[.int .i64 0, .int .i64 0, .int .i64 0, .int .i64 0] 28) ⟨b, off + k * 4 + 3, none⟩ hbw).trans c3
        go_wp2
        go_region
        have hsk : (l.map redS)[k]? = some (redS s) := by rw [List.getElem?_map, hs]; rfl
        have hkl : k < (l.map redS).length := (List.getElem?_eq_some_iff.1 hsk).1
        have htk : (l.map redS).take (k + 1) = (l.map redS).take k ++ [redS s] := by rw [List.take_succ_eq_append_getElem hkl, (List.getElem?_eq_some_iff.1 hsk).2]
        obtain ⟨oldsa, hoa⟩ : ∃ x, shpCells ((l.map redS).take k) = x := ⟨_, rfl⟩
        obtain ⟨oldsb, hob⟩ : ∃ x, shpCells ((l.map redS).take k).reverse = x := ⟨_, rfl⟩
        obtain ⟨s1, hs1⟩ : ∃ x, s.len.tmod 1000000 = x := ⟨_, rfl⟩
        obtain ⟨s2, hs2⟩ : ∃ x, s.height.tmod 100 = x := ⟨_, rfl⟩
        obtain ⟨s3, hs3⟩ : ∃ x, s.leaves.tmod 1000000 = x := ⟨_, rfl⟩
        obtain ⟨s4, hs4⟩ : ∃ x, s.nodes.tmod 1000000 = x := ⟨_, rfl⟩
        obtain ⟨newsa, hnewa⟩ : ∃ x, x = oldsa ++ [Value.int .i64 s1, .int .i64 s2, .int .i64 s3, .int .i64 s4] := ⟨_, rfl⟩
        obtain ⟨newsb, hnewb⟩ : ∃ x, x = [Value.int .i64 s1, .int .i64 s2, .int .i64 s3, .int .i64 s4] ++ oldsb := ⟨_, rfl⟩
        have hcs : shpCells [redS s] = [Value.int .i64 s1, .int .i64 s2, .int .i64 s3, .int .i64 s4] := by rw [← hs1, ← hs2, ← hs3, ← hs4]; rfl
        have Hsa := Lib.hid (show shpCells ((l.map redS).take (k + 1)) = newsa by rw [htk, shpCells_append, hoa, hcs, hnewa])
        have Hsb := Lib.hid (show shpCells ((l.map redS).take (k + 1)).reverse = newsb by rw [htk, List.reverse_append, List.reverse_singleton, shpCells_append, hob, hcs, hnewb])
        rw [hs1, hs2, hs3, hs4]
        obtain ⟨va, hvae⟩ : ∃ va, u3 = va := ⟨_, rfl⟩
        obtain ⟨vb, hvbe⟩ : ∃ vb, u4 = vb := ⟨_, rfl⟩
        have hown_a0 := Hown_a.out
        have hown_b0 := Hown_b.out
        have hne0 := Hne.out
        rw [hoa] at hown_a0
        rw [hob] at hown_b0
        rw [hvae] at hown_a0 hne0 ⊢
        rw [hvbe] at hown_b0 hne0 ⊢
        clear hvae hvbe
        obtain ⟨Ab, cb, hvb, hmb⟩ := made_of_own hown_b0
        clear hmb
        obtain ⟨g6, hg6⟩ : ∃ g6, wr.heap.size = g6 := ⟨_, rfl⟩
        obtain ⟨wq, hwq⟩ : ∃ wq, (wr.alloc (.cells #[.int .i64 s1, .int .i64 s2, .int .i64 s3, .int .i64 s4] 28)).drew = wq := ⟨_, rfl⟩
        have hbk6 : Bk wq g6 28 #[.int .i64 s1, .int .i64 s2, .int .i64 s3, .int .i64 s4] := by rw [← hwq, ← hg6]; exact (Bk.new _ _ _).drew
        have hown_a : wq.ownsRow w.heap.size 28 4 va k oldsa := by rw [← hwq]; exact hown_a0.alloc _
        have hown_b : wq.ownsRow w.heap.size 28 4 vb k oldsb := by rw [← hwq]; exact hown_b0.alloc _
        have hbW : Below w.heap.size w wq := by rw [← hwq]; exact (hb.alloc hsz _).drew
        have hsW := hbW.size
        have hva : ∀ g, va.ownBlock = some g → g < wq.heap.size := fun g h => (hown_a.lt g h).2
        have hn6 : ¬ (va.ownBlock = some g6) := fun h => by have := (hown_a0.lt g6 h).2; omega
        have hneb : ∀ g, vb.ownBlock = some g → va.ownBlock ≠ some g := fun g h h' => by
          rcases hne0 with h2 | h2
          · rw [h2] at h'; cases h'
          · exact h2 (h'.trans h.symm)
        rw [hwq, hg6]
        clear hwq hg6 hown_a0 hown_b0 hne0
        have hshp : (Try.prog.info? 28).map (fun i => (i.zero, i.size, i.bytes)) = some (some (.agg #[.int .i64 0, .int .i64 0, .int .i64 0, .int .i64 0]), 4, 32) := by kernel_rfl
        obtain ⟨is0, his, hzs0, hzs1, hzs2⟩ := info_parts hshp
        clear hshp
        go_wp2
        refine wp_region_any (by kernel_rfl) ?_
        refine wpAny_loose6 [42, 43, 44, 45, 46, 47, 48, 49, 3, 4] (GrowP va wq.drew) (PushStep 3 va) (PushPre 3 w.heap.size 28 4 va k oldsa) (Vs [is va, is (.agg #[.int .i64 s1, .int .i64 s2, .int .i64 s3, .int .i64 s4]), newg wq.heap.size 28 #[.int .i64 s1, .int .i64 s2, .int .i64 s3, .int .i64 s4], (ownf w.heap.size 28 4 (k + 1) newsa (fun g => va.ownBlock = some g ∨ wq.heap.size ≤ g)), is (.agg #[.int .i64 s1, .int .i64 s2, .int .i64 s3, .int .i64 s4]), newg wq.heap.size 28 #[.int .i64 s1, .int .i64 s2, .int .i64 s3, .int .i64 s4], is vb, (ownf w.heap.size 28 4 (1 + k) newsb (fun g => wq.heap.size ≤ g)), (ownf w.heap.size 28 4 (k + 1) newsa (fun g => va.ownBlock = some g ∨ wq.heap.size ≤ g)), (ownf w.heap.size 28 4 (1 + k) newsb (fun g => wq.heap.size ≤ g))]) Apart _ _ rfl (by kernel_rfl) (Keep.refl _ _) (fun i _ => hown_a) (fun j w1 w2 h k => pushC h k) (fun i j w1 w2 hij h k => pushPre_stab hij h k) ?_ ?_ ?_
        · intro i j v w1 w2 hij haf hv hS
          rcases i with _ | _ | _ | _ | _ | _ | _ | _ | _ | _ | i
          · exact hv
          · exact hv
          · exact newg_stab hva hS hv
          · exact ownf_stab (fun h => hij h.symm) hS hv
          · exact hv
          · exact newg_stab hva hS hv
          · exact hv
          · exact ownf_keep hva hS hv
          · refine ownf_stab (fun h => ?_) hS hv
            subst h
            revert haf
            rw [show aftB _ _ _ _ = true from by kernel_rfl]
            intro h; cases h
          · exact ownf_keep hva hS hv
          · exact trivial
        · refine steps_of ?_
          refine steps_cons ?_ ?_
          · refine step_on5 rfl rfl ?_
            intro ev w5 hS hU hc hf hold hval a K ha hK
            have hsz5 : wq.heap.size ≤ w5.heap.size := Keep.size (w := wq.drew) hS
            have e3 : ev (.tmp 3) = va := hold 3 (by kernel_rfl)
            go_simp
            exact hK _ _ (push_grow (by decide) (Below.refl _ _)) rfl (fun l vl hl hV hR => apart_none (by decide))
          refine steps_cons ?_ ?_
          · refine step_on5 rfl rfl ?_
            intro ev w5 hS hU hc hf hold hval a K ha hK
            have hsz5 : wq.heap.size ≤ w5.heap.size := Keep.size (w := wq.drew) hS
            have e6 : ev (.tmp 6) = .pointer (some ⟨g6, 0, none⟩) := hold 6 (by kernel_rfl)
            have hb6 : Bk w5 g6 28 #[.int .i64 s1, .int .i64 s2, .int .i64 s3, .int .i64 s4] := Keep.bk hS hbk6.drew hn6
            have q0 : w5.cell? ⟨g6, 0, none⟩ = some (.int .i64 s1) := hb6.cell 0
            have q1 : w5.cell? ⟨g6, 1, none⟩ = some (.int .i64 s2) := hb6.cell 1
            have q2 : w5.cell? ⟨g6, 2, none⟩ = some (.int .i64 s3) := hb6.cell 2
            have q3 : w5.cell? ⟨g6, 3, none⟩ = some (.int .i64 s4) := hb6.cell 3
            go_simp
            exact hK _ _ (push_grow (by decide) (Below.refl _ _)) rfl (fun l vl hl hV hR => apart_none (by decide))
          refine steps_cons ?_ ?_
          · refine step_on5 rfl rfl ?_
            intro ev w5 hS hU hc hf hold hval a K ha hK
            have hsz5 : wq.heap.size ≤ w5.heap.size := Keep.size (w := wq.drew) hS
            have e43 : ev (.tmp 43) = (.agg #[.int .i64 s1, .int .i64 s2, .int .i64 s3, .int .i64 s4]) := hval 1 43 (by kernel_rfl) rfl
            go_simp
            exact hK _ _ (push_grow (by decide) ((Below.refl _ _).alloc (Nat.le_refl _) _)) ⟨_, rfl, Bk.new _ _ _, hsz5⟩ (fun l vl hl hV hR => apart_none (by decide))
          refine steps_cons ?_ ?_
          · refine step_on5 rfl rfl ?_
            intro ev w5 hS hU hc hf hold hval a K ha hK
            have hsz5 : wq.heap.size ≤ w5.heap.size := Keep.size (w := wq.drew) hS
            have e42 : ev (.tmp 42) = va := hval 0 42 (by kernel_rfl) rfl
            obtain ⟨g44, e44, hb44, hg44⟩ : newg wq.heap.size 28 #[.int .i64 s1, .int .i64 s2, .int .i64 s3, .int .i64 s4] (ev (.tmp 44)) w5 := hval 2 44 (by kernel_rfl) rfl
            subst ha
            have hS1 : Keep (fun b => va.ownBlock = some b) wq w5 := by have h : Keep (fun b => va.ownBlock = some b) wq.drew w5 := hS; exact ⟨h.os, h.tape, h.output, h.size, h.block⟩
            refine wp_append_rd w5 (.tmp 42) (.tmp 44) _ rfl w.heap.size 28 is0 _ 4 32 Try.underlying26 his hzs0 hzs1 hzs2 rfl (by decide) va k _ e42 (hU rfl) w5.heap.size (some ⟨g44, 0, none⟩) 1 1 _ e44 (rd_bk hb44 rfl) (by simp [Value.oneCell']) (by unfold maxLen; omega) (by omega) (by omega) ?_
            intro v6 w6 hown6 hg6 hat6
            refine hK _ _ (push_keep hg6) ⟨by rw [hnewa]; exact hown6, ?_⟩ ?_
            · intro g hg
              rcases hat6 with h | h
              · exact .inl (h ▸ hg)
              · rw [h] at hg; injection hg with hg; exact .inr (by omega)
            · intro l vl hl hV hR
              refine apart_of fun hc g hg hgl => ?_
              have hl579 : l = 5 ∨ l = 7 ∨ l = 9 := by omega
              have hgx : g < wq.heap.size ∨ g = w5.heap.size := by
                rcases hat6 with h | h
                · exact .inl (hva g (h ▸ hg))
                · rw [h] at hg; injection hg with hg; exact .inr hg.symm
              have hgy : wq.heap.size ≤ g ∧ g < w5.heap.size := by
                rcases hl579 with h3 | h3 | h3
                · subst h3; obtain ⟨g2, hv2, hb2, hg2⟩ := hV; rw [hv2] at hgl; injection hgl with hgl; subst hgl; exact ⟨hg2, hb2.lt⟩
                · subst h3; exact ⟨hV.2 g hgl, (hV.1.lt g hgl).2⟩
                · subst h3; exact ⟨hV.2 g hgl, (hV.1.lt g hgl).2⟩
              omega
          refine steps_cons ?_ ?_
          · refine step_on5 rfl rfl ?_
            intro ev w5 hS hU hc hf hold hval a K ha hK
            have hsz5 : wq.heap.size ≤ w5.heap.size := Keep.size (w := wq.drew) hS
            have e6 : ev (.tmp 6) = .pointer (some ⟨g6, 0, none⟩) := hold 6 (by kernel_rfl)
            have hb6 : Bk w5 g6 28 #[.int .i64 s1, .int .i64 s2, .int .i64 s3, .int .i64 s4] := Keep.bk hS hbk6.drew hn6
            have q0 : w5.cell? ⟨g6, 0, none⟩ = some (.int .i64 s1) := hb6.cell 0
            have q1 : w5.cell? ⟨g6, 1, none⟩ = some (.int .i64 s2) := hb6.cell 1
            have q2 : w5.cell? ⟨g6, 2, none⟩ = some (.int .i64 s3) := hb6.cell 2
            have q3 : w5.cell? ⟨g6, 3, none⟩ = some (.int .i64 s4) := hb6.cell 3
            go_simp
            exact hK _ _ (push_grow (by decide) (Below.refl _ _)) rfl (fun l vl hl hV hR => apart_none (by decide))
          refine steps_cons ?_ ?_
          · refine step_on5 rfl rfl ?_
            intro ev w5 hS hU hc hf hold hval a K ha hK
            have hsz5 : wq.heap.size ≤ w5.heap.size := Keep.size (w := wq.drew) hS
            have e46 : ev (.tmp 46) = (.agg #[.int .i64 s1, .int .i64 s2, .int .i64 s3, .int .i64 s4]) := hval 4 46 (by kernel_rfl) rfl
            go_simp
            refine hK _ _ (push_grow (by decide) ((Below.refl _ _).alloc (Nat.le_refl _) _)) ⟨_, rfl, Bk.new _ _ _, hsz5⟩ ?_
            intro l vl hl hV hR
            refine apart_of fun hc g hg hgl => ?_
            have hl38 : l = 3 ∨ l = 8 := by omega
            have hg2 : w5.heap.size = g := Option.some.inj hg
            rcases hl38 with h3 | h3
            · subst h3; have := (hV.1.lt g hgl).2; omega
            · subst h3; have := (hV.1.lt g hgl).2; omega
          refine steps_cons ?_ ?_
          · refine step_on5 rfl rfl ?_
            intro ev w5 hS hU hc hf hold hval a K ha hK
            have hsz5 : wq.heap.size ≤ w5.heap.size := Keep.size (w := wq.drew) hS
            have e4 : ev (.tmp 4) = vb := hold 4 (by kernel_rfl)
            go_simp
            exact hK _ _ (push_grow (by decide) (Below.refl _ _)) hvb.symm (fun l vl hl hV hR => apart_none (by decide))
          refine steps_cons ?_ ?_
          · refine step_on5 rfl rfl ?_
            intro ev w5 hS hU hc hf hold hval a K ha hK
            have hsz5 : wq.heap.size ≤ w5.heap.size := Keep.size (w := wq.drew) hS
            obtain ⟨g47, e47, hb47, hg47⟩ : newg wq.heap.size 28 #[.int .i64 s1, .int .i64 s2, .int .i64 s3, .int .i64 s4] (ev (.tmp 47)) w5 := hval 5 47 (by kernel_rfl) rfl
            have e48 : ev (.tmp 48) = vb := hval 6 48 (by kernel_rfl) rfl
            subst ha
            have hS1 : Keep (fun b => va.ownBlock = some b) wq w5 := by have h : Keep (fun b => va.ownBlock = some b) wq.drew w5 := hS; exact ⟨h.os, h.tape, h.output, h.size, h.block⟩
            refine wp_append_full w5 (.tmp 47) (.tmp 48) _ rfl w.heap.size 28 is0 _ 4 32 Try.underlying26 his hzs0 hzs1 hzs2 rfl (by decide) g47 1 #[.int .i64 s1, .int .i64 s2, .int .i64 s3, .int .i64 s4] e47 hb47 rfl (by omega) (by decide) w5.heap.size Ab k cb _ (e48.trans hvb) (Rd.of_own (hvb ▸ ownk_keep hown_b hneb hS1)) (by unfold maxLen; omega) (by omega) (by omega) ?_
            intro v6 w6 hown6 hg6 hat6
            have hfx : ∀ g, v6.ownBlock = some g → g = g47 ∨ g = w5.heap.size := by
              intro g hg
              rcases hat6 with h | h
              · rw [h] at hg; injection hg with hg; exact .inl hg.symm
              · rw [h] at hg; injection hg with hg; exact .inr hg.symm
            refine hK _ _ (push_grow (by decide) ?_) ⟨by rw [hnewb]; exact hown6, fun g hg => by rcases hfx g hg with h | h <;> omega⟩ ?_
            · exact hg6
            · intro l vl hl hV hR
              refine apart_of fun hc g hg hgl => ?_
              have hl38 : l = 3 ∨ l = 8 := by omega
              rcases hfx g hg with h | h
              · exact (hR 5 47 (by kernel_rfl) rfl (by omega)) (.inr ⟨hl38, .inl rfl⟩) g47 (by rw [e47]; rfl) (h ▸ hgl)
              · rcases hl38 with h3 | h3
                · subst h3; have := (hV.1.lt g hgl).2; omega
                · subst h3; have := (hV.1.lt g hgl).2; omega
          refine steps_cons ?_ ?_
          · refine step_on5 rfl rfl ?_
            intro ev w5 hS hU hc hf hold hval a K ha hK
            have hsz5 : wq.heap.size ≤ w5.heap.size := Keep.size (w := wq.drew) hS
            have r45 : (ownf w.heap.size 28 4 (k + 1) newsa (fun g => va.ownBlock = some g ∨ wq.heap.size ≤ g)) (ev (.tmp 45)) w5 := hval 3 45 (by kernel_rfl) rfl
            go_simp
            refine hK _ _ (push_grow (by decide) (Below.refl _ _)) r45 ?_
            intro l vl hl hV hR
            refine apart_of fun hc g hg hgl => ?_
            exact hR 3 45 (by kernel_rfl) rfl (by omega) (by omega) g hg hgl
          refine steps_cons ?_ ?_
          · refine step_on5 rfl rfl ?_
            intro ev w5 hS hU hc hf hold hval a K ha hK
            have hsz5 : wq.heap.size ≤ w5.heap.size := Keep.size (w := wq.drew) hS
            have r49 : (ownf w.heap.size 28 4 (1 + k) newsb (fun g => wq.heap.size ≤ g)) (ev (.tmp 49)) w5 := hval 7 49 (by kernel_rfl) rfl
            go_simp
            refine hK _ _ (push_grow (by decide) (Below.refl _ _)) r49 ?_
            intro l vl hl hV hR
            refine apart_of fun hc g hg hgl => ?_
            exact hR 7 49 (by kernel_rfl) rfl (by omega) (by omega) g hg hgl
          exact steps_nil
        · intro ev w6 hS hval hpair
          have r3 : (ownf w.heap.size 28 4 (k + 1) newsa (fun g => va.ownBlock = some g ∨ wq.heap.size ≤ g)) (ev (.tmp 3)) w6 := hval 8 3 rfl
          have r4 : (ownf w.heap.size 28 4 (1 + k) newsb (fun g => wq.heap.size ≤ g)) (ev (.tmp 4)) w6 := hval 9 4 rfl
          have hap : Apart 8 9 (ev (.tmp 3)) (ev (.tmp 4)) := hpair 8 9 3 4 (by decide) rfl rfl
          have hne2 : (ev (.tmp 3)).ownBlock = none ∨ (ev (.tmp 3)).ownBlock ≠ (ev (.tmp 4)).ownBlock := by
            cases h : (ev (.tmp 3)).ownBlock with
            | none => exact .inl rfl
            | some g => exact .inr (fun e => hap (.inl ⟨.inr rfl, .inr (.inr rfl)⟩) g h e.symm)
          simp only [putsOf, List.foldl_cons, List.foldl_nil, Act.put, List.setIfInBounds_toArray, List.set_cons_zero, List.set_cons_succ]
          clear hval hpair hap
          have hB6 : Below w.heap.size w w6 := hbW.drew.trans (Keep.to_below hS hsW (fun b hb hF => by have := (hown_a.lt b hF).1; omega))
          generalize ev (Operand.tmp 3) = x3 at r3 hne2 ⊢
          generalize ev (Operand.tmp 4) = x4 at r4 hne2 ⊢
          go_wp2
          go_roundw
          case rel => exact ⟨k + 1, by omega, by go_num, by rw [Hsa.out]; exact r3.1, by rw [Hsb.out, show k + 1 = 1 + k by omega]; exact r4.1, hne2, hB6⟩
          case measure => simp [intOf]; omega
      · have hge : m0 ≤ k := by omega
        have hkm : k = m0 := by omega
        have htk : (l.map redS).take k = l.map redS := List.take_of_length_le (by rw [List.length_map]; have := Hll.out; omega)
        rw [htk, hkm] at hown_a hown_b
        obtain ⟨Aa, ca, rfl, hma⟩ := made_of_own hown_a
        obtain ⟨Ab, cb, rfl, hmb⟩ := made_of_own hown_b
        have Ha := Lib.hid hma.rd
        have Hb := Lib.hid hmb.rd
        have hsm : ∀ s ∈ l.map redS, s.small := fun s hs => by obtain ⟨x, _, rfl⟩ := List.mem_map.1 hs; exact redS_small x
        have hsm2 : ∀ s ∈ (l.map redS).reverse, s.small := fun s hs => hsm s (List.mem_reverse.1 hs)
        have Hsm := Lib.hid hsm
        have Hsm2 := Lib.hid hsm2
        have Hrev := Lib.hid (sum_rev (l.map redS))
        clear htk hkm hown_a hown_b hma hmb hsm hsm2 hne
        go_wp2_with fail
        refine (told23_any _).mono ?_
        rintro e w1 ⟨rfl, hb1⟩
        have hB1 := hb.trans (hb1.mono hsz)
        have hs1 := hB1.size
        have Ha := Lib.hid (Ha.out.below hb1 |>.mono hb1.size)
        have Hb := Lib.hid (Hb.out.below hb1 |>.mono hb1.size)
        clear hb1 hb
        go_wp2_with fail
        refine (Sum_any _ _ _ _ _ _ Ha.out (Nat.le_refl _) Hsm.out (by omega)).mono ?_
        rintro e w2 ⟨rfl, hb2⟩
        have hB2 := hB1.trans (hb2.mono hs1)
        have hs2 := hB2.size
        have Hb := Lib.hid (Hb.out.below hb2 |>.mono hb2.size)
        clear hb2 hB1 Ha
        go_wp2_with fail
        refine (Sum_any _ _ _ _ _ _ Hb.out (Nat.le_refl _) Hsm2.out (by omega)).mono ?_
        rintro e w3 ⟨rfl, hb3⟩
        have hB3 := hB2.trans (hb3.mono hs2)
        rw [Hrev.out]
        have hcl := clen_in (m0 : Int) (by omega) (by omega)
        clear hb3 hB2 Hb
        obtain ⟨Sm, hSm⟩ : ∃ Sm, sumShp (l.map redS) = Sm := ⟨_, rfl⟩
        rw [hSm]
        clear hSm Hrev
        obtain ⟨y1, y2, y3, y4⟩ := Sm
        simp only [Shp.val, iv]
        go_wp2_with fail
        refine (Moves_any _ _).mono ?_
        rintro e w4 ⟨rfl, rfl⟩
        rw [hcl]
        go_wp2_with fail
        go_ret
        exact ⟨ret_bool (by simp), hB3⟩
  · go_enter Try.func4, Try.ntmps4
    go_wp2_with fail
    refine (told23_any _).mono ?_
    rintro e w1 ⟨rfl, hb1⟩
    go_wp2_with fail
    go_ret
    exact ⟨rfl, hb1⟩
end Go.Proofs.Ythcoldomeedbnaa
