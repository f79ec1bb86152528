/- The walk of the reference's In (scrimshawref6): a list with one more at a place. Conditions: at most 1000 numbers. -/
import Derived.Test.YtdpknieiigibfaaFnRefA
import Derived.Test.YtdpknieiigibfaaLoose10
namespace Go.Proofs.Ytdpknieiigibfaa
open Go.RowKit
set_option linter.unusedVariables false
set_option linter.unusedSimpArgs false
set_option maxRecDepth 100000 in
set_option maxHeartbeats 2000000 in
theorem In_any (A : Option Addr) (n c k s B : Nat) (L : List Nat) (w : World) (hr : Rd w B 1 A n (L.map sv)) (hB : B ≤ w.heap.size) (hnc : n ≤ c) (hk : k ≤ n) (hn : n ≤ 1000) :
    Calls Try.prog 26 #[.slice A n c, .int .i64 (k : Int), .int .i64 (s : Int)] w fun e w' => ∃ A' c', e = .returned (.slice A' (n + 1) c') ∧ Made w' w.heap.size 3 1 A' (n + 1) c' ((L.take k ++ s :: L.drop k).map sv) ∧ Below w.heap.size w w' := by
  obtain ⟨i0, hi0, hz0, hz1, hz2⟩ := info_parts int_info
  have hsz8 : ∀ w, (sizeOf 3).run Try.prog w = .ok 1 w := fun w => by simp [sizeOf, typeInfo, hi0, hz1]
  have hcut1 := hr.cut_hi0 (cap := c) hk
  have hcut2 := hr.cut (cap := c) hk hnc
  rw [Nat.mul_one, ← List.map_take] at hcut1
  rw [Nat.mul_one, ← List.map_drop] at hcut2
  have kh := run_cut_hi (P := Try.prog) 22 3 1 Try.underlying22 hsz8 A n c k (by omega)
  have kl := run_cut_lo (P := Try.prog) 22 3 1 Try.underlying22 hsz8 A n c k hk
  have Hc1 := Lib.hid hcut1
  have Hc2 := Lib.hid hcut2
  have Kl := Lib.hid kl
  clear hcut1 hcut2 hr kl
  go_enter Try.func26, Try.ntmps26
  go_wp2_with (at_builtin; refine wpList_append_rd _ rfl (.tmp 8) (.tmp 11) _ rfl w.heap.size 3 i0 (.int .i64 0) 1 8 Try.underlying22 hi0 hz0 hz1 hz2 rfl (by decide) (.slice (some ⟨w.heap.size, 0, none⟩) 0 0) 0 [] rfl (own_empty w 3 1) w.heap.size (cutA A c 0 1) k c _ rfl ((Hc1.out.mono hB).alloc (Nat.le_refl _) _) (oneCell_sv _) (by unfold maxLen; omega) (by omega) (by simp) ?_; intro v1 w1 hown1 hg1 hat1)
  have hB1 := below_grown ((Below.refl w.heap.size w).alloc (Nat.le_refl _) _) (own_empty w 3 1) hg1 (by simp)
  rw [Nat.zero_add, List.nil_append] at hown1
  obtain ⟨A1, c1, rfl, hm1⟩ := made_of_own hown1
  have hlt1 : ∀ b, (Value.slice A1 k c1).ownBlock = some b → w.heap.size ≤ b ∧ b < w1.heap.size := fun b hb => hm1.own.lt b hb
  have hs1 := hB1.size
  have Hb1 := Lib.hid hB1
  have Hown := Lib.hid hown1
  have Hlt := Lib.hid hlt1
  clear hown1 hg1 hat1 hB1 hm1 hlt1
  go_wp2_with fail
  refine wp_region_any (by kernel_rfl) ?_
  refine wpAny_keep_tail 7 [13, 14, 15, 16, 17, 18, 19] (fun b => (Value.slice A1 k c1).ownBlock = some b) 3 [3] (fun w2 => w2.ownsRow w.heap.size 3 1 (.slice A1 k c1) k ((L.take k).map sv)) (fun v w2 => w2.ownsRow w.heap.size 3 1 v (k + 1) ((L.take k).map sv ++ [.int .i64 (s : Int)])) [is (.slice A1 k c1), is (.int .i64 (s : Int)), newBk (fun b => (Value.slice A1 k c1).ownBlock = some b) 3 #[.int .i64 (s : Int)] fun g => .slice (some ⟨g, 0, none⟩) 1 1, anyV, is (.slice A n c), is (.int .i64 (k : Int)), is (.slice (cutA A c k 1) (n - k) (c - k))] _ _ rfl (by decide) (by kernel_rfl) (by kernel_rfl) (by kernel_rfl) (Hown.out) (fun w2 w3 h _ hg => own_below h hg) (fun _ _ _ h1 k => own_below h1 k) (by repeat' (first | exact stbk_is _ _ | exact stbk_any _ | exact stbk_newBk _ _ _ _ | (refine List.forall_mem_cons.2 ⟨?_, ?_⟩) | (intro p hp; cases hp))) ?_ ?_
  · refine steps_of_n ?_
    refine steps_cons ?_ ?_
    · refine step_on3 rfl rfl ?_
      intro ev w5 hS hU hc hf hold hval a K ha hK
      replace hS : Keep (fun b => (Value.slice A1 k c1).ownBlock = some b) w1 w5 := ⟨hS.os, hS.tape, hS.output, hS.size, hS.block⟩
      clear hU
      have e7 : ev (.tmp 7) = .slice A1 k c1 := hold 7 (by kernel_rfl)
      go_simp
      exact hK _ _ (kstep_grow (Below.refl _ _)) rfl
    refine steps_cons ?_ ?_
    · refine step_on3 rfl rfl ?_
      intro ev w5 hS hU hc hf hold hval a K ha hK
      replace hS : Keep (fun b => (Value.slice A1 k c1).ownBlock = some b) w1 w5 := ⟨hS.os, hS.tape, hS.output, hS.size, hS.block⟩
      clear hU
      have e2 : ev (.tmp 2) = .int .i64 (s : Int) := hold 2 (by kernel_rfl)
      go_simp
      exact hK _ _ (kstep_grow (Below.refl _ _)) rfl
    refine steps_cons ?_ ?_
    · refine step_on3 rfl rfl ?_
      intro ev w5 hS hU hc hf hold hval a K ha hK
      replace hS : Keep (fun b => (Value.slice A1 k c1).ownBlock = some b) w1 w5 := ⟨hS.os, hS.tape, hS.output, hS.size, hS.block⟩
      clear hU
      have e14 : ev (.tmp 14) = .int .i64 (s : Int) := hval 1 14 (by kernel_rfl) rfl
      go_simp
      exact hK _ _ (kstep_grow ((Below.refl _ _).alloc (Nat.le_refl _) _)) ⟨_, rfl, Bk.new _ _ _, fun h => by have := (Hlt.out _ h).2; have := hS.size; omega⟩
    refine steps_cons ?_ ?_
    · refine step_on3 rfl rfl ?_
      intro ev w5 hS hU hc hf hold hval a K ha hK
      replace hS : Keep (fun b => (Value.slice A1 k c1).ownBlock = some b) w1 w5 := ⟨hS.os, hS.tape, hS.output, hS.size, hS.block⟩
      have hpre := hU rfl
      clear hU
      have e13 : ev (.tmp 13) = .slice A1 k c1 := hval 0 13 (by kernel_rfl) rfl
      have p15 : (newBk (fun b => (Value.slice A1 k c1).ownBlock = some b) 3 #[.int .i64 (s : Int)] fun g => .slice (some ⟨g, 0, none⟩) 1 1) (ev (.tmp 15)) w5 := hval 2 15 (by kernel_rfl) rfl
      obtain ⟨g15, e15, hb15, hn15⟩ := p15
      subst ha
      have hw5 : w.heap.size ≤ w5.heap.size := Nat.le_trans hs1 hS.size
      refine wp_append_rd w5 (.tmp 13) (.tmp 15) _ rfl w.heap.size 3 i0 (.int .i64 0) 1 8 Try.underlying22 hi0 hz0 hz1 hz2 rfl (by decide) (.slice A1 k c1) k ((L.take k).map sv) e13 hpre w5.heap.size (some ⟨g15, 0, none⟩) 1 1 [.int .i64 (s : Int)] e15 (rd_one hb15) (by simp [Value.oneCell']) (by unfold maxLen; omega) (by omega) hw5 ?_
      intro v6 w6 hown6 hg6 hat6
      exact hK _ _ (kstep_keep ⟨hg6.os, hg6.tape, hg6.output, hg6.size, fun k hk hn => hg6.block k hk (fun e => hn e.symm)⟩) hown6
    refine steps_cons ?_ ?_
    · refine step_on3 rfl rfl ?_
      intro ev w5 hS hU hc hf hold hval a K ha hK
      replace hS : Keep (fun b => (Value.slice A1 k c1).ownBlock = some b) w1 w5 := ⟨hS.os, hS.tape, hS.output, hS.size, hS.block⟩
      clear hU
      have e0 : ev (.tmp 0) = .slice A n c := hold 0 (by kernel_rfl)
      go_simp
      exact hK _ _ (kstep_grow (Below.refl _ _)) rfl
    refine steps_cons ?_ ?_
    · refine step_on3 rfl rfl ?_
      intro ev w5 hS hU hc hf hold hval a K ha hK
      replace hS : Keep (fun b => (Value.slice A1 k c1).ownBlock = some b) w1 w5 := ⟨hS.os, hS.tape, hS.output, hS.size, hS.block⟩
      clear hU
      have e1 : ev (.tmp 1) = .int .i64 (k : Int) := hold 1 (by kernel_rfl)
      go_simp
      exact hK _ _ (kstep_grow (Below.refl _ _)) rfl
    refine steps_cons ?_ ?_
    · refine step_on3 rfl rfl ?_
      intro ev w5 hS hU hc hf hold hval a K ha hK
      replace hS : Keep (fun b => (Value.slice A1 k c1).ownBlock = some b) w1 w5 := ⟨hS.os, hS.tape, hS.output, hS.size, hS.block⟩
      clear hU
      have e17 : ev (.tmp 17) = .slice A n c := hval 4 17 (by kernel_rfl) rfl
      have e18 : ev (.tmp 18) = .int .i64 (k : Int) := hval 5 18 (by kernel_rfl) rfl
      have kl := Kl.out
      go_simp
      exact hK _ _ (kstep_grow (Below.refl _ _)) rfl
    exact steps_nil
  · intro ev w6 f hS hval
    replace hS : Keep (fun b => (Value.slice A1 k c1).ownBlock = some b) w1 w6 := ⟨hS.os, hS.tape, hS.output, hS.size, hS.block⟩
    have p16 : (fun v w2 => w2.ownsRow w.heap.size 3 1 v (k + 1) ((L.take k).map sv ++ [.int .i64 (s : Int)])) (ev (.tmp 16)) w6 := hval 3 16 (by decide) rfl
    have e19 : ev (.tmp 19) = .slice (cutA A c k 1) (n - k) (c - k) := hval 6 19 (by decide) rfl
    simp only [putsOf, List.foldl_cons, List.foldl_nil, Act.put, List.setIfInBounds_toArray, List.set_cons_zero, List.set_cons_succ]
    rw [e19]
    clear hval
    obtain ⟨A8, c8, e16, _, _⟩ := own_shape p16
    rw [e16] at p16 ⊢
    have hb6 : Below w.heap.size w w6 := Hb1.out.trans (hS.to_below hs1 (fun b hb h => by have := (Hlt.out _ h).1; omega))
    have hr6 := (Hc2.out.mono hB).below hb6
    have Hown6 := Lib.hid p16
    have hs6 := hb6.size
    have Hb6 := Lib.hid hb6
    have Hr6 := Lib.hid hr6
    clear p16 hb6 hr6
    change wpAny Try.prog Region.Mode.any _ _ (2 + f) (firstN 7 9) _ w6
    rw [show 2 + f = f + 1 + 1 by omega]
    refine wpAny_one (f := f + 1) (i := 7) (by kernel_rfl) ?_
    refine wpOp_run rfl rfl ?_
    refine wp_append_rd w6 (.tmp 16) (.tmp 19) _ rfl w.heap.size 3 i0 (.int .i64 0) 1 8 Try.underlying22 hi0 hz0 hz1 hz2 rfl (by decide) (.slice A8 (k + 1) c8) (k + 1) ((L.take k).map sv ++ [.int .i64 (s : Int)]) rfl Hown6.out w6.heap.size (cutA A c k 1) (n - k) (c - k) ((L.drop k).map sv) rfl (Hr6.out.mono hs6) (oneCell_sv _) (by unfold maxLen; omega) (by omega) hs6 ?_
    intro v7 w7 hown7 hg7 hat7
    have hb7 := below_grown Hb6.out Hown6.out hg7 hs6
    have hnk : k + 1 + (n - k) = n + 1 := by omega
    rw [hnk] at hown7
    have hL7 : (L.take k).map sv ++ [.int .i64 (s : Int)] ++ (L.drop k).map sv = (L.take k ++ s :: L.drop k).map sv := by simp [sv]
    rw [hL7] at hown7
    obtain ⟨A9, c9, rfl, hm9⟩ := made_of_own hown7
    have Hm9 := Lib.hid hm9
    have Hb7 := Lib.hid hb7
    clear hown7 hg7 hat7 hb7 hL7 hnk hm9
    refine wpAny_one (f := f) (i := 8) (by kernel_rfl) ?_
    refine wpOp_run rfl rfl ?_
    generalize hK : wpAny Try.prog _ _ _ f _ = K5
    go_simp
    subst hK
    refine wpAny_all (by kernel_rfl) ?_
    go_wp2
    go_ret
    exact ⟨A9, c9, rfl, Hm9.out, Hb7.out⟩
/-- The rows of the suffixes from x on. -/
structure Part (l : List Nat) (x j : Nat) (L : List Nat) : Prop where
  perm : L.Perm (List.range' x j)
  sorted : L.Pairwise (sufLt l)
theorem Part.len {l L : List Nat} {x j : Nat} (h : Part l x j L) : L.length = j := by simpa using h.perm.length_eq
theorem Part.mem {l L : List Nat} {x j p : Nat} (h : Part l x j L) (hp : p ∈ L) : x ≤ p ∧ p < x + j := by
  have := h.perm.mem_iff.1 hp
  rw [List.mem_range'_1] at this
  exact this
theorem Part.rel {l L : List Nat} {x j i k : Nat} (h : Part l x j L) (hik : i < k) (hk : k < L.length) : sufLt l (L[i]'(by omega)) L[k] := List.pairwise_iff_getElem.1 h.sorted i k (by omega) hk hik
theorem Part.put {l L : List Nat} {x j lo : Nat} (h : Part l (x + 1) j L) (hx : x < l.length) (hj : x + 1 + j ≤ l.length) (hlo : lo ≤ L.length) (h1 : ∀ i (hi : i < L.length), i < lo → sufLt l L[i] x) (h2 : ∀ i (hi : i < L.length), lo ≤ i → ¬ sufLt l L[i] x) :
    Part l x (j + 1) (L.take lo ++ x :: L.drop lo) := by
  constructor
  · rw [List.range'_succ]
    refine List.perm_middle.trans (List.Perm.cons x ?_)
    rw [List.take_append_drop]
    exact h.perm
  · have hs := h.sorted
    rw [← List.take_append_drop lo L, List.pairwise_append] at hs
    rw [List.pairwise_append]
    refine ⟨hs.1, List.pairwise_cons.2 ⟨fun b hb => ?_, hs.2.1⟩, fun a ha b hb => ?_⟩
    · obtain ⟨i, hi, rfl⟩ := List.mem_iff_getElem.1 hb
      rw [List.length_drop] at hi
      rw [List.getElem_drop]
      have hm := h.mem (List.getElem_mem (l := L) (n := lo + i) (by omega))
      rcases sufLt.tri hx (by omega : L[lo + i]'(by omega) < l.length) (by omega) with h3 | h3
      · exact h3
      · exact absurd h3 (h2 (lo + i) (by omega) (by omega))
    · rcases List.mem_cons.1 hb with rfl | hb
      · obtain ⟨i, hi, rfl⟩ := List.mem_iff_getElem.1 ha
        rw [List.length_take] at hi
        rw [List.getElem_take]
        exact h1 i (by omega) (by omega)
      · exact hs.2.2 a ha b hb
def RefRowsPost (t : List UInt8) (n : Nat) (w : World) (e : Ending) (w' : World) : Prop := ∃ A' c' L, e = .returned (.slice A' (n + 1) c') ∧ IsSuf (symL t) L ∧ Made w' w.heap.size 3 1 A' (n + 1) c' (L.map sv) ∧ Below w.heap.size w w'
set_option maxRecDepth 100000 in
set_option maxHeartbeats 4000000 in
theorem RefRows_any (t : List UInt8) (n : Nat) (w : World) (hn : t.length = n) (hn4 : n ≤ 900) :
    Calls Try.prog 13 #[.string ⟨t.toArray⟩] w (RefRowsPost t n w) := by
  have z1 : (⟨t.toArray⟩ : ByteArray).size = n := (ba_size t).trans hn
  have hl : (symL t).length = n + 1 := by rw [symL_len, hn]
  have Hn := Lib.hid hn
  have Hl := Lib.hid hl
  clear hn hl
  go_enter Try.func13, Try.ntmps13
  go_wp2_with fail
  go_loopw [3, 4] (fun v p wr => ∃ (j : Nat) (L : List Nat) (A : Option Addr) (c : Nat), j ≤ n + 1 ∧ v = .slice A j c ∧ p = .int .i64 ((n : Int) - (j : Int)) ∧ Part (symL t) (n + 1 - j) j L ∧ Made wr w.heap.size 3 1 A j c (L.map sv) ∧ Below w.heap.size w wr) (fun _ p _ => (intOf p + 1).toNat)
  case atStart => exact ⟨0, [], none, 0, by omega, rfl, by simp, ⟨by simp, List.Pairwise.nil⟩, ⟨World.ownsRow_nil _ _ _ _, Rd.nil _ _ _ _, Nat.le_refl _, by unfold maxLen; omega⟩, Below.refl _ _⟩
  case round =>
    obtain ⟨j, L, A, c, hj, rfl, rfl, hpart, hmade, hb⟩ := hrel
    have Hmade := Lib.hid hmade
    have Hb := Lib.hid hb
    clear hmade hb
    by_cases hlt : j ≤ n
    · obtain ⟨x, hx⟩ : ∃ x, n - j = x := ⟨_, rfl⟩
      rw [show n + 1 - j = x + 1 by omega] at hpart
      have hxI : (n : Int) - (j : Int) = (x : Int) := by omega
      rw [hxI]
      have hx0 : (0 : Int) ≤ (x : Int) := by omega
      have hLl := hpart.len
      have Hpart := Lib.hid hpart
      have HLl := Lib.hid hLl
      have Hx := Lib.hid hx
      have HxI := Lib.hid hxI
      clear hpart hLl hx hxI
      obtain ⟨W, hW⟩ : ∃ W, W = wr := ⟨_, rfl⟩
      subst hW
      go_wp2_with fail
      go_loopw [5, 6] (fun a b wr => ∃ lo hi q : Nat, lo ≤ hi ∧ hi ≤ j ∧ a = .int .i64 (lo : Int) ∧ b = .int .i64 (hi : Int) ∧ (∀ i (h : i < L.length), i < lo → sufLt (symL t) L[i] x) ∧ (∀ i (h : i < L.length), hi ≤ i → ¬ sufLt (symL t) L[i] x) ∧ wr = W.drewN q) (fun a b _ => (intOf b - intOf a).toNat)
      case atStart => exact ⟨0, j, 0, by omega, by omega, rfl, rfl, fun i h h2 => by omega, fun i h h2 => by have := HLl.out; omega, rfl⟩
      case round =>
        obtain ⟨lo, hi, q, hlh, hhj, rfl, rfl, h1, h2, rfl⟩ := hrel
        have H1 := Lib.hid h1
        have H2 := Lib.hid h2
        clear h1 h2
        by_cases hlo : lo < hi
        · obtain ⟨m, hm⟩ : ∃ m, (lo + hi) / 2 = m := ⟨_, rfl⟩
          have hloI : (lo : Int) < (hi : Int) := by omega
          have e1 : IntKind.i64.wrap ((lo : Int) + (hi : Int)) = (lo : Int) + (hi : Int) := by rw [IntKind.wrap_i64]; omega
          have e2 : ((lo : Int) + (hi : Int)).tdiv 2 = (m : Int) := by
            rw [← hm]
            exact (Int.ofNat_tdiv (lo + hi) 2).symm
          have e3 : IntKind.i64.wrap (m : Int) = (m : Int) := by rw [IntKind.wrap_i64]; omega
          have hmj : m < j := by omega
          have hml : m < L.length := by rw [HLl.out]; exact hmj
          obtain ⟨b, off, u, hA, hbl, hu, hc⟩ := (Hmade.out.rd.drewN q).get hmj
          subst hA
          rw [List.getElem?_map, List.getElem?_eq_getElem hml] at hu
          cases hu
          unfold sv at hc
          have hmem := Hpart.out.mem (List.getElem_mem hml)
          obtain ⟨y, hy⟩ : ∃ y, L[m] = y := ⟨_, rfl⟩
          rw [hy] at hc hmem
          have Hy := Lib.hid hy
          have Hc := hc
          clear hy hc
          have hmlo : lo ≤ m := by omega
          have hmhi : m < hi := by omega
          clear hm
          go_wp2_with fail
          refine (less_any t y x n _ Hn.out (by omega) (by have := Hx.out; omega) (by have := Hx.out; omega) (by omega)).mono ?_
          rintro e w5 ⟨r, rfl, hr, q2, rfl⟩
          have Hr := Lib.hid hr
          clear hr
          cases r with
          | true =>
            go_wp2_with fail
            go_roundw
            case rel =>
              refine ⟨m + 1, hi, q + q2, by omega, hhj, by go_num, rfl, fun i h hi2 => ?_, H2.out, rfl⟩
              have hy2 : sufLt (symL t) L[m] x := by rw [Hy.out]; exact Hr.out.1 (by first | rfl | trivial)
              rcases Nat.lt_or_ge i m with h3 | h3
              · exact (Hpart.out.rel h3 hml).trans hy2
              · obtain rfl : i = m := by omega
                exact hy2
            case measure => simp [intOf]; omega
          | false =>
            go_wp2_with fail
            go_roundw
            case rel =>
              refine ⟨lo, m, q + q2, by omega, by omega, rfl, by go_num, H1.out, fun i h hi2 h4 => ?_, rfl⟩
              have hy2 : ¬ sufLt (symL t) L[m] x := by
                rw [Hy.out]
                intro h5
                have := Hr.out.2 h5
                cases this
              rcases Nat.lt_or_ge m i with h3 | h3
              · exact hy2 ((Hpart.out.rel h3 h).trans h4)
              · obtain rfl : i = m := by omega
                exact hy2 h4
            case measure => simp [intOf]; omega
        · obtain rfl : lo = hi := by omega
          have hput := Hpart.out.put (by rw [Hl.out]; have := Hx.out; omega) (by rw [Hl.out]; have := Hx.out; omega) (by rw [HLl.out]; exact hhj) H1.out H2.out
          have Hput := Lib.hid hput
          have hbq : Below W.heap.size W (W.drewN q) := below_drewN (Below.refl _ _) q
          have hm2 := Hmade.out.below hbq
          have Hm2 := Lib.hid hm2
          have Hbq := Lib.hid hbq
          clear hput hm2 hbq hlo
          go_wp2_with fail
          refine (In_any A j c lo x (W.drewN q).heap.size L (W.drewN q) Hm2.out.rd (Nat.le_refl _) Hm2.out.cap hhj (by omega)).mono ?_
          rintro e w5 ⟨A9, c9, rfl, hm9, hb9⟩
          have hbw := Hb.out.trans ((Hbq.out.trans (hb9.mono Hbq.out.size)).mono Hb.out.size)
          have hm10 : Made w5 w.heap.size 3 1 A9 (j + 1) c9 ((L.take lo ++ x :: L.drop lo).map sv) := ⟨own_mono hm9.own (Nat.le_trans Hb.out.size Hbq.out.size), hm9.rd, hm9.cap, hm9.max⟩
          have Hbw := Lib.hid hbw
          have Hm10 := Lib.hid hm10
          clear hbw hm10 hm9 hb9
          have e4 : IntKind.i64.wrap ((x : Int) - 1) = (n : Int) - ((j + 1 : Nat) : Int) := by rw [IntKind.wrap_i64]; have := HxI.out; omega
          go_wp2_with fail
          go_roundw
          case rel => exact ⟨j + 1, _, A9, c9, by omega, rfl, rfl, by rw [show n + 1 - (j + 1) = x by have := Hx.out; omega]; exact Hput.out, Hm10.out, Hbw.out⟩
          case measure => have := Hx.out; simp [intOf]; omega
    · obtain rfl : j = n + 1 := by omega
      have hlast : ¬ (0 : Int) ≤ (n : Int) - ((n + 1 : Nat) : Int) := by omega
      have hsuf : IsSuf (symL t) L := ⟨by
        have := hpart.perm
        rw [show n + 1 - (n + 1) = 0 by omega] at this
        rw [Hl.out, List.range_eq_range']
        exact this, hpart.sorted⟩
      have Hsuf := Lib.hid hsuf
      clear hsuf hpart hlt
      go_wp2_with fail
      go_ret
      exact ⟨A, c, L, rfl, Hsuf.out, Hmade.out, Hb.out⟩
/-- A row stands ahead of a pattern's end iff its number is below their number. -/
theorem pq_iff {l rs : List Nat} (h : IsSuf l rs) (b : Bool) (q : List Nat) (i : Nat) (hi : i < rs.length) : Pq l b q rs[i] = decide (i < Nq l b q) := by
  have hN : rs.countP (Pq l b q) = Nq l b q := h.count _
  have ht := take_down (P := Pq l b q) h.sorted (fun x y hxy hy => Pq_down q hxy hy)
  rw [hN] at ht
  rw [Bool.eq_iff_iff, decide_eq_true_eq]
  constructor
  · intro hp
    by_cases hlt : i < Nq l b q
    · exact hlt
    · exfalso
      have hall : ∀ x ∈ rs.take (i + 1), Pq l b q x = true := by
        intro x hx
        obtain ⟨k, hk, rfl⟩ := List.mem_iff_getElem.1 hx
        rw [List.length_take] at hk
        rw [List.getElem_take]
        rcases Nat.lt_or_ge k i with h1 | h1
        · exact Pq_down q (List.pairwise_iff_getElem.1 h.sorted k i (by omega) hi h1) hp
        · obtain rfl : k = i := by omega
          exact hp
      have h1 := List.countP_eq_length.2 hall
      rw [List.length_take] at h1
      have h2 : (rs.take (i + 1)).countP (Pq l b q) ≤ rs.countP (Pq l b q) := (List.take_sublist _ _).countP_le
      omega
  · intro hlt
    have hm : rs[i] ∈ rs.take (Nq l b q) := by
      rw [List.mem_take_iff_getElem]
      exact ⟨i, by omega, rfl⟩
    rw [ht, List.mem_filter] at hm
    exact hm.2
theorem preq_iff {l rs : List Nat} (h : IsSuf l rs) (q : List Nat) (i : Nat) (hi : i < rs.length) (hlo : Nq l false q ≤ i) : preQ l q rs[i] = decide (i < Nq l true q) := by
  have h1 := (Pq_or l q rs[i]).1
  rw [pq_iff h false q i hi, pq_iff h true q i hi, decide_eq_false (by omega : ¬ i < Nq l false q), Bool.false_or] at h1
  exact h1.symm
set_option maxRecDepth 100000 in
set_option maxHeartbeats 4000000 in
theorem RefFind_any (t p : List UInt8) (n m B : Nat) (A : Option Addr) (c : Nat) (L : List Nat) (w : World) (hn : t.length = n) (hm : p.length = m) (hn4 : n ≤ 900) (hm4 : m ≤ 900) (hs : IsSuf (symL t) L) (hr : Rd w B 1 A (n + 1) (L.map sv)) :
    Calls Try.prog 12 #[.string ⟨t.toArray⟩, .slice A (n + 1) c, .string ⟨p.toArray⟩] w fun e w' => e = .returned (.tuple #[.int .i64 ((Nq (symL t) false (symB p) : Nat) : Int), .int .i64 ((Nq (symL t) true (symB p) : Nat) : Int)]) ∧ ∃ q, w' = w.drewN q := by
  have hll : L.length = n + 1 := by rw [hs.len, symL_len, hn]
  have hle : Nq (symL t) true (symB p) ≤ n + 1 := by have := Nq_le (symL t) true (symB p); rw [symL_len, hn] at this; exact this
  have hoc := Nq_occ (symL t) (symB p)
  have hP := fun i (hi : i < L.length) => pq_iff hs false (symB p) i hi
  have hQ := fun i (hi : i < L.length) => preq_iff hs (symB p) i hi
  have hmemb : ∀ i (hi : i < L.length), L[i] ≤ n := fun i hi => by
    have := hs.lt (List.getElem_mem hi)
    rw [symL_len, hn] at this
    omega
  obtain ⟨N0, hN0⟩ : ∃ N, Nq (symL t) false (symB p) = N := ⟨_, rfl⟩
  obtain ⟨N1, hN1⟩ : ∃ N, Nq (symL t) true (symB p) = N := ⟨_, rfl⟩
  rw [hN0] at hoc hP hQ
  rw [hN1] at hoc hQ hle
  rw [hN0, hN1]
  have h01 : N0 ≤ N1 := by omega
  have HP := Lib.hid hP
  have HQ := Lib.hid hQ
  have Hmem := Lib.hid hmemb
  have Hll := Lib.hid hll
  have Hn := Lib.hid hn
  have Hm := Lib.hid hm
  have Hr := Lib.hid hr
  clear hP hQ hmemb hll hn hm hr hs hoc hN0 hN1
  go_enter Try.func12, Try.ntmps12
  go_wp2_with fail
  go_loopw [8] (fun v wr => ∃ k q : Nat, k ≤ N0 ∧ v = .int .i64 (k : Int) ∧ wr = w.drewN q) (fun v _ => n + 1 - (intOf v).toNat)
  case atStart => exact ⟨0, 0, Nat.zero_le _, rfl, rfl⟩
  case round =>
    obtain ⟨k, q, hk, rfl, rfl⟩ := hrel
    by_cases hlt : k < N0
    · have hkI : (k : Int) < ((n + 1 : Nat) : Int) := by omega
      have hkL : k < L.length := by rw [Hll.out]; omega
      obtain ⟨b, off, u, rfl, hbl, hu, hc⟩ := (Hr.out.drewN q).get (show k < n + 1 by omega)
      rw [List.getElem?_map, List.getElem?_eq_getElem hkL] at hu
      cases hu
      unfold sv at hc
      have hp0 := HP.out k hkL
      have hy0 := Hmem.out k hkL
      rw [decide_eq_true hlt] at hp0
      generalize L[k]'hkL = y at hc hp0 hy0
      have Hp0 := Lib.hid hp0
      clear hbl hp0 hkL
      go_wp2_with fail
      refine (before_any t p y n m _ Hn.out Hm.out (by omega) (by omega) hy0).mono ?_
      rintro e w5 ⟨rfl, q2, rfl⟩
      rw [Hp0.out]
      go_wp2_with fail
      go_roundw
      case rel => exact ⟨k + 1, _, by omega, by go_num, rfl⟩
      case measure => simp [intOf] <;> omega
    · obtain rfl : N0 = k := by omega
      by_cases hend : N0 = n + 1
      · have hkI : ¬ (N0 : Int) < ((n + 1 : Nat) : Int) := by omega
        clear hlt hend
        go_wp2_with fail
        go_loopw [9] (fun v wr => ∃ k2 q2 : Nat, N0 ≤ k2 ∧ k2 ≤ N1 ∧ v = .int .i64 (k2 : Int) ∧ wr = w.drewN q2) (fun v _ => n + 1 - (intOf v).toNat)
        case atStart => exact ⟨N0, _, Nat.le_refl _, h01, rfl, rfl⟩
        case round =>
          obtain ⟨k2, q2, hk2, hk3, rfl, rfl⟩ := hrel
          by_cases hlt2 : k2 < N1
          · exfalso; omega
          · obtain rfl : N1 = k2 := by omega
            by_cases hend2 : N1 = n + 1
            · have hkI2 : ¬ (N1 : Int) < ((n + 1 : Nat) : Int) := by omega
              clear hlt2
              go_wp2_with fail
              go_ret2
              exact ⟨rfl, _, rfl⟩
            · exfalso; omega
      · have hkI : (N0 : Int) < ((n + 1 : Nat) : Int) := by omega
        have hkL : N0 < L.length := by rw [Hll.out]; omega
        obtain ⟨b, off, u, rfl, hbl, hu, hc⟩ := (Hr.out.drewN q).get (show N0 < n + 1 by omega)
        rw [List.getElem?_map, List.getElem?_eq_getElem hkL] at hu
        cases hu
        unfold sv at hc
        have hp0 := HP.out N0 hkL
        have hy0 := Hmem.out N0 hkL
        rw [decide_eq_false hlt] at hp0
        generalize L[N0]'hkL = y at hc hp0 hy0
        have Hp0 := Lib.hid hp0
        clear hbl hp0 hkL hlt
        go_wp2_with fail
        refine (before_any t p y n m _ Hn.out Hm.out (by omega) (by omega) hy0).mono ?_
        rintro e w5 ⟨rfl, q2, rfl⟩
        rw [Hp0.out]
        clear hc
        go_wp2_with fail
        go_loopw [9] (fun v wr => ∃ k2 q2 : Nat, N0 ≤ k2 ∧ k2 ≤ N1 ∧ v = .int .i64 (k2 : Int) ∧ wr = w.drewN q2) (fun v _ => n + 1 - (intOf v).toNat)
        case atStart => exact ⟨N0, _, Nat.le_refl _, h01, rfl, rfl⟩
        case round =>
          obtain ⟨k2, q2, hk2, hk3, rfl, rfl⟩ := hrel
          by_cases hlt2 : k2 < N1
          · have hkI2 : (k2 : Int) < ((n + 1 : Nat) : Int) := by omega
            have hkL : k2 < L.length := by rw [Hll.out]; omega
            obtain ⟨b, off, u, hA2, hbl, hu, hc⟩ := (Hr.out.drewN q2).get (show k2 < n + 1 by omega)
            cases hA2
            rw [List.getElem?_map, List.getElem?_eq_getElem hkL] at hu
            cases hu
            unfold sv at hc
            have hp0 := HQ.out k2 hkL hk2
            have hy0 := Hmem.out k2 hkL
            rw [decide_eq_true hlt2] at hp0
            generalize L[k2]'hkL = y2 at hc hp0 hy0
            have Hp0 := Lib.hid hp0
            clear hbl hp0 hkL
            go_wp2_with fail
            refine (begins_any t p y2 n m _ Hn.out Hm.out hy0 (by omega) (by omega)).mono ?_
            rintro e w5 ⟨rfl, rfl⟩
            rw [Hp0.out]
            go_wp2_with fail
            go_roundw
            case rel => exact ⟨k2 + 1, _, by omega, by omega, by go_num, rfl⟩
            case measure => simp [intOf] <;> omega
          · obtain rfl : N1 = k2 := by omega
            by_cases hend2 : N1 = n + 1
            · have hkI2 : ¬ (N1 : Int) < ((n + 1 : Nat) : Int) := by omega
              clear hlt2
              go_wp2_with fail
              go_ret2
              exact ⟨rfl, _, rfl⟩
            · have hkI2 : (N1 : Int) < ((n + 1 : Nat) : Int) := by omega
              have hkL : N1 < L.length := by rw [Hll.out]; omega
              obtain ⟨b, off, u, hA2, hbl, hu, hc⟩ := (Hr.out.drewN q2).get (show N1 < n + 1 by omega)
              cases hA2
              rw [List.getElem?_map, List.getElem?_eq_getElem hkL] at hu
              cases hu
              unfold sv at hc
              have hp0 := HQ.out N1 hkL hk2
              have hy0 := Hmem.out N1 hkL
              rw [decide_eq_false hlt2] at hp0
              generalize L[N1]'hkL = y2 at hc hp0 hy0
              have Hp0 := Lib.hid hp0
              clear hbl hp0 hkL hlt2
              go_wp2_with fail
              refine (begins_any t p y2 n m _ Hn.out Hm.out hy0 (by omega) (by omega)).mono ?_
              rintro e w5 ⟨rfl, rfl⟩
              rw [Hp0.out]
              go_wp2_with fail
              go_ret2
              exact ⟨rfl, _, rfl⟩
end Go.Proofs.Ytdpknieiigibfaa
