/- The walks of the tree's Len, Visits, like, Rank and New. Conditions: at most 128 bits. -/
import Derived.Test.YtdpknieiigibfaaFnVis
namespace Go.Proofs.Ytdpknieiigibfaa
open Go.RowKit
set_option linter.unusedVariables false
set_option linter.unusedSimpArgs false
theorem Leaf.cells {w : World} {B gt ga gl cl gb : Nat} {rt v : Int} {bs : List Bool} (h : Leaf w B gt ga gl cl gb rt v bs) :
    w.cell? ⟨gt, 0, none⟩ = some (.pointer (some ⟨ga, 0, none⟩)) ∧ w.cell? ⟨gt, 1, none⟩ = some (.slice (some ⟨gl, 0, none⟩) 1 cl) ∧ w.cell? ⟨gt, 2, none⟩ = some (.int .i64 rt) ∧ w.cell? ⟨gt, 3, none⟩ = some (.int .i64 v) ∧
    w.cell? ⟨gl, 0, none⟩ = some (.int .i64 (-1)) ∧ w.cell? ⟨gl, 1, none⟩ = some (.int .i64 (-1)) ∧ w.cell? ⟨gl, 2, none⟩ = some (.int .i64 0) ∧ w.cell? ⟨gl, 3, none⟩ = some (.int .i64 (bs.length : Int)) ∧ w.cell? ⟨gl, 4, none⟩ = some (.int .i64 ((bs.count true : Nat) : Int)) ∧ w.cell? ⟨gl, 5, none⟩ = some (.int .i64 0) ∧ w.cell? ⟨gl, 6, none⟩ = some (.int .i64 0) ∧ w.cell? ⟨gl, 7, none⟩ = some (.pointer (some ⟨gb, 0, none⟩)) := by
  have k := fun j hj => World.ownsRow.cellAt h.row j hj
  exact ⟨(h.tree.cell 0).trans rfl, (h.tree.cell 1).trans rfl, (h.tree.cell 2).trans rfl, (h.tree.cell 3).trans rfl, (k 0 (by omega)).trans rfl, (k 1 (by omega)).trans rfl, (k 2 (by omega)).trans rfl, (k 3 (by omega)).trans rfl, (k 4 (by omega)).trans rfl, (k 5 (by omega)).trans rfl, (k 6 (by omega)).trans rfl, (k 7 (by omega)).trans rfl⟩
set_option maxRecDepth 100000 in
theorem TreeLen_any (gt : Nat) (bs : List Bool) (w : World) (h : TreeAt w gt bs) :
    Calls Try.prog 88 #[.pointer (some ⟨gt, 0, none⟩)] w fun e w' => e = .returned (.int .i64 (bs.length : Int)) ∧ Below w.heap.size w w' := by
  obtain ⟨ga, v, ⟨rfl, h2, h3⟩ | ⟨h1, h2, gl, cl, gb, h3⟩⟩ := h
  · have c2 : w.cell? ⟨gt, 2, none⟩ = some (.int .i64 (-1)) := (h2.cell 2).trans rfl
    clear h2 h3
    go_enter Try.func88, Try.ntmps88
    go_wp2
    go_ret
    exact ⟨rfl, Below.refl _ _⟩
  · obtain ⟨c0, c1, c2, c3, d0, d1, d2, d3, d4, d5, d6, d7⟩ := h3.cells
    clear h3
    go_enter Try.func88, Try.ntmps88
    go_wp2
    go_quiet (fail)
    go_wp2
    go_ret
    exact ⟨rfl, ⟨rfl, rfl, rfl, Nat.le_refl _, fun _ _ => rfl⟩⟩
theorem TreeAt.visits {w : World} {gt : Nat} {bs : List Bool} (h : TreeAt w gt bs) : ∃ v, w.cell? ⟨gt, 3, none⟩ = some (.int .i64 v) := by
  obtain ⟨ga, v, ⟨rfl, h2, h3⟩ | ⟨h1, h2, gl, cl, gb, h3⟩⟩ := h
  · exact ⟨v, (h2.cell 3).trans rfl⟩
  · exact ⟨v, h3.cells.2.2.2.1⟩
set_option maxRecDepth 100000 in
theorem TreeVisits_any (gt : Nat) (v : Int) (w : World) (h : w.cell? ⟨gt, 3, none⟩ = some (.int .i64 v)) :
    Calls Try.prog 87 #[.pointer (some ⟨gt, 0, none⟩)] w fun e w' => e = .returned (.int .i64 v) ∧ Below w.heap.size w w' := by
  go_enter Try.func87, Try.ntmps87
  go_wp2
  go_ret
  exact ⟨rfl, Below.refl _ _⟩
set_option maxRecDepth 100000 in
theorem like_any (n o : Nat) (b : Bool) (w : World) (hn : n ≤ 128) (ho : o ≤ n) :
    Calls Try.prog 89 #[.int .i64 (n : Int), .int .i64 (o : Int), .bool b] w fun e w' => e = .returned (.int .i64 ((if b then o else n - o : Nat) : Int)) ∧ Below w.heap.size w w' := by
  cases b
  · go_enter Try.func89, Try.ntmps89
    go_wp2
    go_ret
    exact ⟨ret_i64 (by omega), Below.refl _ _⟩
  · go_enter Try.func89, Try.ntmps89
    go_wp2
    go_ret
    exact ⟨ret_i64 (by simp), Below.refl _ _⟩
theorem count_both (l : List Bool) : l.count true + l.count false = l.length := by
  induction l with
  | nil => rfl
  | cons x l ih => cases x <;> simp <;> omega
set_option maxRecDepth 100000 in
set_option maxHeartbeats 1000000 in
theorem TreeRank_any (gt : Nat) (bs : List Bool) (k : Nat) (b : Bool) (w : World) (h : TreeAt w gt bs) (hk : k ≤ bs.length) :
    Calls Try.prog 79 #[.pointer (some ⟨gt, 0, none⟩), .int .i64 (k : Int), .bool b] w fun e w' => e = .returned (.int .i64 (((bs.take k).count b : Nat) : Int)) ∧ VisK (fun b => b = gt) w w' := by
  have hbl : bs.length ≤ 128 := by
    obtain ⟨ga, v, ⟨rfl, h2, h3⟩ | ⟨h1, h2, h3⟩⟩ := h
    · simp
    · exact h2
  have hv0 : ∃ cs, Bk w gt 125 cs ∧ 3 < cs.size := by
    obtain ⟨ga, v, ⟨rfl, h2, h3⟩ | ⟨h1, h2, gl, cl, gb, h3⟩⟩ := h
    · exact ⟨_, h2, by simp⟩
    · exact ⟨_, h3.tree, by simp⟩
  obtain ⟨cs, hcs, hc3⟩ := hv0
  have hv1 := VisK.set_tree hcs 0
  have ht1 := h.vis hv1.1
  have hgl := hcs.lt
  have c3 : w.cell? ⟨gt, 3, none⟩ = some cs[3] := by rw [hcs.cell 3]; simp [hc3]
  have f3 := hcs.frozen 3
  have m1 : max (k : Int) 0 = (k : Int) := by omega
  have m2 : min (k : Int) (bs.length : Int) = (k : Int) := by omega
  have HV := Lib.hid hv1
  have Hh := Lib.hid h
  have Hbl := Lib.hid hbl
  have Ht := Lib.hid ht1
  obtain ⟨N, hN⟩ : ∃ N, bs.length = N := ⟨_, rfl⟩
  have HN := Lib.hid hN
  have Hk := Lib.hid hk
  clear h hbl hv1 ht1 hcs hN hk
  go_enter Try.func79, Try.ntmps79
  go_wp2_with fail
  clear c3 f3
  refine (TreeLen_any gt bs _ Ht.out).mono ?_
  rintro e w2 ⟨rfl, hb2⟩
  have hv2 := HV.out.below hb2
  have ht2 := Hh.out.vis hv2.1
  have HV2 := Lib.hid hv2
  have Ht2 := Lib.hid ht2
  clear hv2 ht2 HV Ht hb2 Hh
  rcases Nat.eq_zero_or_pos k with hk0 | hk0
  · subst hk0
    go_wp2_with fail
    go_ret
    exact ⟨rfl, HV2.out⟩
  · have hk1 : ¬ ((k : Int) = 0) := by omega
    obtain ⟨ga, v, ⟨hbe, _, _⟩ | ⟨hbe, hb2, gl, cl, gb, hl⟩⟩ := Ht2.out
    · have h1 := Hk.out
      rw [hbe] at h1
      simp at h1
      omega
    obtain ⟨c0, c1, c2, c3, d0, d1, d2, d3, d4, d5, d6, d7⟩ := hl.cells
    have hl2 := hl.row.lt
    have hgl2 := hl.tree.lt
    have hgt_gl : gt ≠ gl := hl.row.bk_ne hl.tree (by decide)
    have f3 := hl.tree.frozen 3
    have Hl := Lib.hid hl
    have H2 := Lib.hid hb2
    clear hl hb2 hbe
    go_wp2_with fail
    go_loopw [1, 7, 8] (fun x y z wr => x = .int .i64 (k : Int) ∧ y = .int .i64 0 ∧ z = .int .i64 0 ∧ wr = w2) (fun _ _ _ _ => 0)
    case atStart => exact ⟨rfl, rfl, rfl, rfl⟩
    case round =>
      obtain ⟨rfl, rfl, rfl, rfl⟩ := hrel
      go_wp2_with fail
      have hgb := Bk.ne Hl.out.blk Hl.out.tree (by decide)
      have hv3 := (VisK.set_tree Hl.out.tree (wrap64 (v + 1))).alloc (.cells #[.int .i64 (-1), .int .i64 (-1), .int .i64 0, .int .i64 (bs.length : Int), .int .i64 ((bs.count true : Nat) : Int), .int .i64 0, .int .i64 0, .pointer (some ⟨gb, 0, none⟩)] 136)
      refine (BlockRank_any gb bs k _ ((Hl.out.blk.far hgb _).alloc _) H2.out (by rw [HN.out] at *; exact Hk.out)).mono ?_
      rintro e w4 ⟨rfl, hb4⟩
      have hv4 := (HV2.out.trans hv3).below hb4
      obtain ⟨q, hq⟩ : ∃ q, List.count true (List.take k bs) = q := ⟨_, rfl⟩
      have hqk : q ≤ k := by
        rw [← hq]
        exact Nat.le_trans List.count_le_length (by rw [List.length_take]; omega)
      have hfin : (if b then q else k - q) = (bs.take k).count b := by
        have h1 := count_both (bs.take k)
        have h2 : (bs.take k).length = k := by rw [List.length_take]; have := Hk.out; omega
        cases b
        · simp; omega
        · simp; omega
      rw [hq]
      have HF := Lib.hid hfin
      have HV4 := Lib.hid hv4
      have hkN : k ≤ 128 := Nat.le_trans Hk.out Hbl.out
      clear hq hfin hv3 hb4 hv4
      go_wp2_with fail
      refine (like_any k q b _ hkN hqk).mono ?_
      rintro e w5 ⟨rfl, hb5⟩
      rw [HF.out]
      have hv5 := HV4.out.below hb5
      have hcb : (bs.take k).count b ≤ 128 := Nat.le_trans List.count_le_length (by rw [List.length_take]; omega)
      obtain ⟨r, hr⟩ : ∃ r, List.count b (List.take k bs) = r := ⟨_, rfl⟩
      rw [hr] at hcb ⊢
      clear HF HV4
      go_wp2_with fail
      go_ret
      exact ⟨ret_i64 (by rw [hr] <;> omega), hv5⟩
theorem own0 (w : World) (B : Nat) (e : TypeId) (sz : Nat) : w.ownsRow B e sz (.slice none 0 0) 0 [] := World.ownsRow_nil _ _ _ _
set_option maxRecDepth 100000 in
theorem TreeNew_any (A : Option Addr) (m c B : Nat) (bs : List Bool) (w : World) (hr : Rd w B 1 A m (bs.map Value.bool)) (hB : B ≤ w.heap.size) (hm : m ≤ 128) (hmc : m ≤ c) :
    Calls Try.prog 62 #[.slice A m c] w fun e w' => ∃ gt, e = .returned (.pointer (some ⟨gt, 0, none⟩)) ∧ TreeB w' w.heap.size gt bs ∧ Below w.heap.size w w' := by
  have hbl : bs.length = m := by simpa using hr.1
  have Hr := Lib.hid hr
  have Hbl := Lib.hid hbl
  clear hr hbl
  go_enter Try.func62, Try.ntmps62
  go_wp2_with fail
  refine (ArenaNew_any _).mono ?_
  rintro e w1 ⟨rfl, ha1, hb1⟩
  have Ha1 := Lib.hid ha1
  have Hb1 := Lib.hid hb1
  have hs1 := hb1.size
  clear ha1 hb1
  rcases Nat.eq_zero_or_pos m with h0 | h0
  · subst h0
    have hnil : bs = [] := List.eq_nil_of_length_eq_zero Hbl.out
    go_wp2_with fail
    go_ret
    have hbB := Hb1.out.alloc hs1 (.cells #[.pointer (some ⟨w.heap.size, 0, none⟩), .slice none 0 0, .int .i64 (-1), .int .i64 0] 125)
    exact ⟨_, rfl, ⟨_, 0, hs1, Nat.le_refl _, .inl ⟨hnil, Bk.new _ _ _, Ha1.out.alloc _⟩⟩, hbB⟩
  · have hq1 : ((m : Int) + 128 - 1) / 128 = 1 := by omega
    have hne : bs ≠ [] := by
      intro e
      have := Hbl.out
      rw [e] at this
      simp at this
      omega
    have hb2 := Hb1.out.alloc hs1 (.cells #[.pointer (some ⟨w.heap.size, 0, none⟩), .slice none 0 0, .int .i64 (-1), .int .i64 0] 125)
    have ht2 := Bk.new w1 125 #[.pointer (some ⟨w.heap.size, 0, none⟩), .slice none 0 0, .int .i64 (-1), .int .i64 0]
    have ha2 := Ha1.out.alloc (.cells #[.pointer (some ⟨w.heap.size, 0, none⟩), .slice none 0 0, .int .i64 (-1), .int .i64 0] 125)
    have hr2 := ((Hr.out.mono hB).below hb2).mono hb2.size
    obtain ⟨w2, hw2⟩ : ∃ w2, w1.alloc (.cells #[.pointer (some ⟨w.heap.size, 0, none⟩), .slice none 0 0, .int .i64 (-1), .int .i64 0] 125) = w2 := ⟨_, rfl⟩
    have Ht2 := Lib.hid ht2
    have Ha2 := Lib.hid ha2
    have Hr2 := Lib.hid hr2
    have Hb2 := Lib.hid hb2
    clear ht2 ha2 hr2 hb2
    go_wp2_with fail
    rw [hw2] at Ht2 Ha2 Hr2 Hb2
    clear hw2
    refine (build_one w1.heap.size w.heap.size 0 A m c w2.heap.size bs w2 Ht2.out Ha2.out Hr2.out (Nat.le_refl _) hm hmc).mono ?_
    rintro e w3 ⟨rfl, hk3, gl, cl, gb, hl, hgb⟩
    have c2 := hl.tree.lt
    have f2 := hl.tree.frozen 2
    have c2' : w3.cell? ⟨w1.heap.size, 2, none⟩ = some (.int .i64 (-1)) := (hl.tree.cell 2).trans rfl
    have Hl := Lib.hid hl
    have Hk3 := Lib.hid hk3
    clear hl hk3
    go_wp2_with fail
    go_ret
    have hset : ∀ b t cs, t ≠ 125 → Bk w3 b t cs → Bk (w3.setCell ⟨w1.heap.size, 2, none⟩ (.int .i64 0)) b t cs := fun b t cs ht h => h.far (Bk.ne h Hl.out.tree ht) _
    obtain ⟨A', c', h5, h6⟩ := Hl.out.arena
    have hk3 : Below w.heap.size w2 w3 := Hk3.out.to_below Hb2.out.size (fun b hb e => by rcases e with e | e <;> omega)
    have hb4 : Below w.heap.size w w3 := Hb2.out.trans hk3
    have hs2 := Hb2.out.size
    refine ⟨_, rfl, ⟨_, 0, hs1, Nat.le_refl _, .inr ⟨hne, by rw [Hbl.out]; exact hm, gl, cl, gb, by omega, Hl.out.tree.set 2 _, own_mono (own_same Hl.out.row fun b cs _ h => hset _ _ _ (by decide) h) hs2, hset _ _ _ (by decide) Hl.out.blk, A', c', hset _ _ _ (by decide) h5, (made_same h6 fun b cs h => hset _ _ _ (by decide) h).mono hs2⟩⟩, ?_⟩
    exact hb4.setCell hs1 _
end Go.Proofs.Ytdpknieiigibfaa
