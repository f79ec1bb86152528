/- The contract of slices.Sort at integers: on no slice at all, and on a row of the call's own. Conditions: none. Plain laws: the places of a pattern are the rows between its bounds, sorted. No conditions. The walk of where.All: the places of a pattern. Conditions: a text of at most 127 bytes, as New makes it. The walk of where.First, and New for texts with their pairs. Conditions: a text of at most 127 bytes, as New makes it. The walks of where.All and First on no text. Conditions: none. Texts as find's functions see them: New, Rows, Count; lists of parts. Conditions: a text of at most 127 bytes. The walk of the reference's Same of two lists (scrimshawref6). Conditions: none. The walk of law14's told. Conditions: none. Plain laws: how often letters and patterns stand in a text. No conditions. Places of a pattern: they rise, the pattern stands at each, there are as many as are counted (plain Lean). No conditions. Plain laws: where a letter stands behind an insert; what an edit leaves of a slice that a call made. No conditions. -/
import Derived.Test.YthkkcelfgcholaaGreatQBase
import Derived.Test.YthkkcelfgcholaaGreatShs
import Derived.Test.YthkkcelfgcholaaGreatShl
import Derived.Sort.OwnSortedInts
import Derived.Shelf.Sort.Plain
import Derived.Test.YthkkcelfgcholaaGreatPkI
import Derived.Test.YthkkcelfgcholaaGreatPkL
import Derived.Test.YthkkcelfgcholaaGreatPkK
import Derived.Test.YthkkcelfgcholaaGreatQFnFind
import Derived.Test.YthkkcelfgcholaaGreatPkD
import Derived.BigQuiet
import Derived.Test.YthkkcelfgcholaaGreatPkEH
namespace Go.Proofs.YthkkcelfgcholaaGreat
open Go.RowKit
set_option linter.unusedVariables false
set_option linter.unusedSimpArgs false
set_option maxRecDepth 100000 in
theorem InsNil_any (w : World) : Calls Tryz.prog 104 #[.slice none 0 0, .int .i64 0, .int .i64 0] w fun e w' => e = .returned (.tuple #[]) ∧ w' = w := by
  go_enter Tryz.func104, Tryz.ntmps104
  go_wp2_with fail
  go_loopw [6] (fun x wr => x = .int .i64 1 ∧ wr = w) (fun _ _ => 0)
  case atStart => exact ⟨rfl, rfl⟩
  case round =>
    obtain ⟨rfl, rfl⟩ := hrel
    go_wp2_with fail
    go_end0
    exact ⟨rfl, rfl⟩
set_option maxRecDepth 100000 in
theorem PdqNil_any (l : Int) (w : World) : Calls Tryz.prog 72 #[.slice none 0 0, .int .i64 0, .int .i64 0, .int .i64 l] w fun e w' => e = .returned (.tuple #[]) ∧ w' = w := by
  go_enter Tryz.func72, Tryz.ntmps72
  go_wp2_with fail
  go_loopw [1, 2] (fun x y wr => x = .int .i64 0 ∧ y = .int .i64 0 ∧ wr = w) (fun _ _ _ => 0)
  case atStart => exact ⟨rfl, rfl, rfl⟩
  case round =>
    obtain ⟨rfl, rfl, rfl⟩ := hrel
    go_wp2_with fail
    refine (InsNil_any wr).mono ?_
    rintro e w1 ⟨rfl, rfl⟩
    go_wp2_with fail
    exact bodyPost_ret (results_none rfl _ _ _) rfl ⟨rfl, rfl⟩
set_option maxRecDepth 100000 in
theorem SortNil_any (w : World) : Calls Tryz.prog 36 #[.slice none 0 0] w fun e w' => e = .returned (.tuple #[]) ∧ w' = w := by
  have hlen : Calls Tryz.prog 73 #[.int .u64 0] w fun e w' => e = .returned (.int .i64 (Lib.bitLen (0 : Int).toNat)) ∧ w' = w := calls_of_every_depth fun D => AnyS.bits_LenIn shLen D 0 w (by omega) (by omega)
  go_enter Tryz.func36, Tryz.ntmps36
  go_wp2_with fail
  refine hlen.mono ?_
  rintro e w1 ⟨rfl, rfl⟩
  go_wp2_with fail
  refine (PdqNil_any _ w1).mono ?_
  rintro e w2 ⟨rfl, rfl⟩
  go_wp2_with fail
  go_end0
  exact ⟨rfl, rfl⟩
/-- slices.Sort of a row of the call's own. -/
theorem SortOwn_any (base : Nat) (v : Value) (n : Nat) (zs : List Int) (w : World) (h : w.ownsRow base 3 1 v n (zs.map (Value.int .i64))) (hn : zs.length = n) (hn2 : n ≤ 1000) :
    ∃ A c, v = .slice A n c ∧ Calls Tryz.prog 36 #[.slice A n c] w fun e w' => e = .returned (.tuple #[]) ∧ w'.ownsRow base 3 1 (.slice A n c) n ((zs.mergeSort fun x y => decide (x ≤ y)).map (Value.int .i64)) ∧ Keep (fun b => (Value.slice A n c).ownBlock = some b) w w' := by
  subst hn
  rcases h.2 with ⟨h1, h2⟩ | ⟨g, cap, cur, h1, hb, hg, hnc, hm, hsz, htk⟩
  · subst h1
    refine ⟨none, 0, by rw [h2], ?_⟩
    have hz : zs = [] := List.eq_nil_of_length_eq_zero h2
    subst hz
    refine (SortNil_any w).mono ?_
    rintro e w' ⟨rfl, rfl⟩
    exact ⟨rfl, by simpa using h, Keep.refl _ _⟩
  · subst h1
    refine ⟨_, cap, rfl, ?_⟩
    have hgl : g < w.heap.size := (Array.getElem?_eq_some_iff.1 hg).1
    have hH : Sort.Holds (Value.int .i64) w g 0 zs.toArray := holds_of_blockI hg (by rw [← htk]; simp)
    refine (Any.slices_Sort_int shSrt g 0 cap zs w hH hgl (by omega)).mono ?_
    rintro e w' ⟨rfl, k, os, rfl⟩
    have hgr := grownBy_sortedI (w := w) (g := g) (n := k) (os := os) (zs.mergeSort fun x y => decide (x ≤ y)).toArray
    refine ⟨rfl, ownsRow_sortedI (by simp) hb hg hnc hm hsz, ⟨hgr.os, hgr.tape, hgr.output, hgr.size, fun b hb hne => hgr.block b hb (fun e => hne e.symm)⟩⟩
end Go.Proofs.YthkkcelfgcholaaGreat
namespace Go.Proofs.YthkkcelfgcholaaGreat
open Go.RowKit
set_option linter.unusedVariables false
set_option linter.unusedSimpArgs false
theorem pq_at {l rs : List Nat} (h : IsSuf l rs) (b : Bool) (q : List Nat) (i : Nat) (hi : i < rs.length) : Pq l b q rs[i] = decide (i < Nq l b q) := by
  have hN : rs.countP (Pq l b q) = Nq l b q := h.count _
  have ht := take_down (P := Pq l b q) h.sorted (fun x y hxy hy => Pq_down q hxy hy)
  rw [hN] at ht
  rw [Bool.eq_iff_iff, decide_eq_true_eq]
  constructor
  · intro hp
    by_cases hlt : i < Nq l b q
    · exact hlt
    · exfalso
      have hall : ∀ x ∈ rs.take (i + 1), Pq l b q x = true := by
        intro x hx
        obtain ⟨k, hk, rfl⟩ := List.mem_iff_getElem.1 hx
        rw [List.length_take] at hk
        rw [List.getElem_take]
        rcases Nat.lt_or_ge k i with h1 | h1
        · exact Pq_down q (List.pairwise_iff_getElem.1 h.sorted k i (by omega) hi h1) hp
        · obtain rfl : k = i := by omega
          exact hp
      have h1 := List.countP_eq_length.2 hall
      rw [List.length_take] at h1
      have h2 : (rs.take (i + 1)).countP (Pq l b q) ≤ rs.countP (Pq l b q) := (List.take_sublist _ _).countP_le
      omega
  · intro hlt
    have hm : rs[i] ∈ rs.take (Nq l b q) := by
      rw [List.mem_take_iff_getElem]
      exact ⟨i, by omega, rfl⟩
    rw [ht, List.mem_filter] at hm
    exact hm.2
theorem preq_at {l rs : List Nat} (h : IsSuf l rs) (q : List Nat) (i : Nat) (hi : i < rs.length) : preQ l q rs[i] = true ↔ Nq l false q ≤ i ∧ i < Nq l true q := by
  obtain ⟨h1, h2⟩ := Pq_or l q rs[i]
  rw [pq_at h false q i hi, pq_at h true q i hi] at h1
  rw [pq_at h false q i hi] at h2
  constructor
  · intro hp
    rw [hp] at h1 h2
    constructor
    · rcases Nat.lt_or_ge i (Nq l false q) with h3 | h3
      · exact absurd ⟨decide_eq_true h3, rfl⟩ h2
      · exact h3
    · simpa using h1
  · rintro ⟨h3, h4⟩
    rw [decide_eq_true h4, decide_eq_false (by omega)] at h1
    simpa using h1.symm
theorem mid_filter {α : Type} (P : α → Bool) (rs : List α) (a b : Nat) (hab : a ≤ b) (hb : b ≤ rs.length) (h : ∀ i (hi : i < rs.length), P rs[i] = true ↔ a ≤ i ∧ i < b) : (rs.drop a).take (b - a) = rs.filter P := by
  have e : rs = rs.take a ++ ((rs.drop a).take (b - a) ++ (rs.drop a).drop (b - a)) := by rw [List.take_append_drop, List.take_append_drop]
  conv => rhs; rw [e]
  rw [List.filter_append, List.filter_append]
  have h1 : (rs.take a).filter P = [] := List.filter_eq_nil_iff.2 fun x hx hp => by
    obtain ⟨k, hk, rfl⟩ := List.mem_iff_getElem.1 hx
    rw [List.length_take] at hk
    rw [List.getElem_take] at hp
    have := (h k (by omega)).1 hp
    omega
  have h2 : ((rs.drop a).take (b - a)).filter P = (rs.drop a).take (b - a) := List.filter_eq_self.2 fun x hx => by
    obtain ⟨k, hk, rfl⟩ := List.mem_iff_getElem.1 hx
    rw [List.length_take, List.length_drop] at hk
    rw [List.getElem_take, List.getElem_drop]
    exact (h (a + k) (by omega)).2 ⟨by omega, by omega⟩
  have h3 : ((rs.drop a).drop (b - a)).filter P = [] := List.filter_eq_nil_iff.2 fun x hx hp => by
    obtain ⟨k, hk, rfl⟩ := List.mem_iff_getElem.1 hx
    rw [List.length_drop, List.length_drop] at hk
    rw [List.getElem_drop, List.getElem_drop] at hp
    have := (h (a + (b - a + k)) (by omega)).1 hp
    omega
  rw [h1, h2, h3]
  simp
/-- Where a pattern stands. -/
def placesT (t q : List UInt8) : List Nat := (List.range (t.length + 1)).filter (preQ (symL t) (symB q))
theorem rows_mid {t : List UInt8} {rs : List Nat} (h : IsSuf (symL t) rs) (q : List UInt8) : ((rs.drop (Nq (symL t) false (symB q))).take (Nq (symL t) true (symB q) - Nq (symL t) false (symB q))).Perm (placesT t q) := by
  have hab : Nq (symL t) false (symB q) ≤ Nq (symL t) true (symB q) := by rw [Nq_occ]; omega
  rw [mid_filter (preQ (symL t) (symB q)) rs _ _ hab (by rw [h.len]; exact Nq_le _ _ _) (fun i hi => preq_at h (symB q) i hi)]
  have := h.perm.filter (preQ (symL t) (symB q))
  rw [symL_len] at this
  exact this
theorem eq_of_sorted : ∀ (a b : List Int), a.Pairwise (fun x y => x ≤ y) → b.Pairwise (fun x y => x ≤ y) → a.Perm b → a = b
  | [], b, _, _, h => h.nil_eq.symm ▸ rfl
  | x :: a, [], _, _, h => by simp at h
  | x :: a, y :: b, ha, hb, h => by
    obtain ⟨h1, h2⟩ := List.pairwise_cons.1 ha
    obtain ⟨h3, h4⟩ := List.pairwise_cons.1 hb
    have hxy : x = y := by
      have hx : x ∈ y :: b := h.mem_iff.1 (by simp)
      have hy : y ∈ x :: a := h.mem_iff.2 (by simp)
      rcases List.mem_cons.1 hx with e | hx
      · exact e
      · rcases List.mem_cons.1 hy with e | hy
        · exact e.symm
        · have := h1 y hy
          have := h3 x hx
          omega
    subst hxy
    rw [eq_of_sorted a b h2 h4 (List.perm_cons x |>.1 h)]
theorem sort_places {t : List UInt8} {rs : List Nat} (h : IsSuf (symL t) rs) (q : List UInt8) : (((rs.drop (Nq (symL t) false (symB q))).take (Nq (symL t) true (symB q) - Nq (symL t) false (symB q))).map fun n : Nat => (n : Int)).mergeSort (fun x y => decide (x ≤ y)) = (placesT t q).map fun n : Nat => (n : Int) := by
  refine eq_of_sorted _ _ ?_ ?_ ((List.mergeSort_perm _ _).trans ((rows_mid h q).map _))
  · have := List.pairwise_mergeSort (le := fun x y : Int => decide (x ≤ y)) (fun a b c h1 h2 => by simp at *; omega) (fun a b => by simp; omega) (((rs.drop (Nq (symL t) false (symB q))).take (Nq (symL t) true (symB q) - Nq (symL t) false (symB q))).map fun n : Nat => (n : Int))
    exact this.imp fun h => by simpa using h
  · rw [List.pairwise_map]
    unfold placesT
    refine (List.Pairwise.filter _ List.pairwise_lt_range).imp fun {a b} h => ?_
    omega
end Go.Proofs.YthkkcelfgcholaaGreat
namespace Go.Proofs.YthkkcelfgcholaaGreat
open Go.RowKit
set_option linter.unusedVariables false
set_option linter.unusedSimpArgs false
def AllPost (w : World) (Bw : Nat) (t p : List UInt8) (e : Ending) (w' : World) : Prop :=
  ∃ A c, e = .returned (.slice A (placesT t p).length c) ∧ Made w' w.heap.size 3 1 A (placesT t p).length c ((placesT t p).map sv) ∧ VB Bw w w'
set_option maxRecDepth 100000 in
set_option maxHeartbeats 4000000 in
theorem All_any (Bw gl rate : Nat) (t : List UInt8) (A0 : Option Addr) (m0 c0 B : Nat) (ss : List Sl) (p : List UInt8) (hT : catS ss = p) (w : World) (h : TpAt w Bw gl t rate) (hr0 : Rd w B 1 A0 m0 (ss.map slV)) (hss : ∀ s ∈ ss, Rd w B 1 s.A s.n (s.l.map bv)) (hB : B ≤ w.heap.size) (hm : m0 ≤ 1000000) (hp : p.length ≤ 1000000) :
    Calls Tryz.prog 11 #[.pointer (some ⟨gl, 0, none⟩), .slice A0 m0 c0] w (AllPost w Bw t p) := by
  obtain ⟨i0, hi0, hz0, hz1, hz2⟩ := info_parts int_info
  obtain ⟨rs, gk, gp, pr, hs, hl, hrt, hz0, hn⟩ := h
  have Hrt := Lib.hid hrt
  have Hz0 := Lib.hid hz0
  clear hrt hz0
  have hrl : rs.length = t.length + 1 := by rw [hs.len, symL_len]
  have hrows := FindRows_any Bw gl _ t.length A0 m0 c0 B ss p p.length hT rfl w hl.lvw (by rw [lastL_len, hrl]) (by omega) (lastL_lt (symL_lt t)) hr0 hss hB hm hp
  rw [rowsN_Nq hs (symL_end t)] at hrows
  have hsort := sort_places hs p
  have hle := Nq_le (symL t) true (symB p)
  rw [symL_len] at hle
  have hab : Nq (symL t) false (symB p) ≤ Nq (symL t) true (symB p) := by rw [Nq_occ]; omega
  have hlen : (placesT t p).length = Nq (symL t) true (symB p) - Nq (symL t) false (symB p) := by
    rw [← (rows_mid hs p).length_eq, List.length_take, List.length_drop, hrl]
    omega
  obtain ⟨lo, hlo⟩ : ∃ x, Nq (symL t) false (symB p) = x := ⟨_, rfl⟩
  obtain ⟨hi, hhi⟩ : ∃ x, Nq (symL t) true (symB p) = x := ⟨_, rfl⟩
  obtain ⟨ps, hps⟩ : ∃ x, placesT t p = x := ⟨_, rfl⟩
  unfold AllPost
  rw [hlo, hhi] at hrows hsort hlen
  rw [hlo] at hab
  rw [hhi] at hle hab
  rw [hps] at hsort hlen ⊢
  have Hl := Lib.hid hl
  have Hs := Lib.hid hs
  have Hsort := Lib.hid hsort
  have Hlen := Lib.hid hlen
  have Hrl := Lib.hid hrl
  clear hr0 hss hl hs hsort hlen hrl hlo hhi hps hT
  go_enter Tryz.func11, Tryz.ntmps11
  go_wp2_with fail
  refine hrows.mono ?_
  rintro e w1 ⟨rfl, hv1⟩
  clear hrows
  go_wp2_with fail
  go_loopw [7, 8] (fun v i wr => ∃ k : Nat, k ≤ hi - lo ∧ i = .int .i64 ((lo + k : Nat) : Int) ∧ wr.ownsRow w.heap.size 3 1 v k (((rs.drop lo).take k).map sv) ∧ VB Bw w wr) (fun _ i _ => hi - (intOf i).toNat)
  case atStart => exact ⟨0, Nat.zero_le _, by simp, World.ownsRow_nil _ _ _ _, hv1⟩
  case round =>
    obtain ⟨k, hk, rfl, hown, hv⟩ := hrel
    by_cases hlt : k < hi - lo
    · have hltI : ((lo + k : Nat) : Int) < (hi : Int) := by omega
      have hir : lo + k < rs.length := by rw [Hrl.out]; omega
      obtain ⟨y, hy⟩ : ∃ y, rs[lo + k]? = some y := ⟨_, List.getElem?_eq_getElem hir⟩
      have hnext : (rs.drop lo).take (k + 1) = (rs.drop lo).take k ++ [y] := by
        rw [List.take_add_one, List.getElem?_drop, hy]
        rfl
      have hl5 := Hl.out.vis hv.1
      have Hown := Lib.hid hown
      have Hv := Lib.hid hv
      have Hl5 := Lib.hid hl5
      have Hy := Lib.hid hy
      have Hnext := Lib.hid hnext
      clear hown hv hl5 hy hnext
      go_wp2_with fail
      refine (LivePosG_any Bw gl gk gp rate t rs pr (lo + k) y wr Hl5.out Hrt.out Hz0.out Hs.out hn Hy.out).mono ?_
      rintro e w2 ⟨rfl, hv2⟩
      have hv3 := Hv.out.trans hv2
      have hown3 := hv2.1.own Hown.out (by decide) (by decide)
      have hsz3 := hv3.1.size
      have Hv3 := Lib.hid hv3
      have Hown3 := Lib.hid hown3
      clear hv2 hv3 hown3
      go_wp2_with (at_builtin; refine wpList_push _ rfl (.tmp 21) (.tmp 25) _ rfl w.heap.size 3 i0 (.int .i64 0) 1 8 Tryz.underlying22 hi0 hz0 hz1 hz2 rfl (by decide) _ k _ rfl Hown3.out rfl rfl (by simp [Value.oneCell']) (by unfold maxLen; omega) (by omega) hsz3 ?_; intro v2 w3 hown2 hg2 hs2 hat2)
      have hb3 := below_grown (Below.refl w.heap.size w2) Hown3.out hg2 hsz3
      have hv4 := VB.grow Hv3.out hb3
      have Hv4 := Lib.hid hv4
      clear hb3 hv4 hg2 hat2
      go_roundw
      case rel => exact ⟨k + 1, by omega, by go_num, by rw [Hnext.out, List.map_append]; exact hown2, Hv4.out⟩
      case measure => simp [intOf]; omega
    · obtain rfl : k = hi - lo := by omega
      have hltI : ¬ ((lo + (hi - lo) : Nat) : Int) < (hi : Int) := by omega
      have hmap : ((rs.drop lo).take (hi - lo)).map sv = (((rs.drop lo).take (hi - lo)).map fun n : Nat => (n : Int)).map (Value.int .i64) := by rw [List.map_map]; rfl
      rw [hmap] at hown
      obtain ⟨A, c, rfl, hsrt⟩ := SortOwn_any w.heap.size _ (hi - lo) _ wr hown (by rw [List.length_map, List.length_take, List.length_drop, Hrl.out]; omega) (by omega)
      have hown9 := hown
      rw [Hsort.out] at hsrt
      have hlt9 : ∀ b, (Value.slice A (hi - lo) c).ownBlock = some b → w.heap.size ≤ b := fun b hb => (hown9.lt b hb).1
      have Hv := Lib.hid hv
      have Hsrt := Lib.hid hsrt
      have Hlt9 := Lib.hid hlt9
      clear hown hown9 hv hsrt hlt9 hlt hmap
      go_wp2_with fail
      refine Hsrt.out.mono ?_
      rintro e w3 ⟨rfl, hown3, hk3⟩
      have hb3 : Below w.heap.size wr w3 := hk3.to_below Hv.out.1.size (fun b hb e => by have := Hlt9.out b e; omega)
      have hv4 := VB.grow Hv.out hb3
      rw [List.map_map] at hown3
      obtain ⟨A9, c9, e9, hm9⟩ := made_of_own hown3
      cases e9
      have Hm9 := Lib.hid hm9
      have Hv4 := Lib.hid hv4
      clear hown3 hk3 hb3 hv4 hm9
      go_wp2_with fail
      go_ret
      exact ⟨A, c, by rw [Hlen.out]; rfl, by rw [Hlen.out]; exact Hm9.out, Hv4.out⟩
end Go.Proofs.YthkkcelfgcholaaGreat
namespace Go.Proofs.YthkkcelfgcholaaGreat
open Go.RowKit
set_option linter.unusedVariables false
set_option linter.unusedSimpArgs false
def firstPl : List Nat → Int
  | [] => -1
  | x :: _ => (x : Int)
set_option maxRecDepth 100000 in
set_option maxHeartbeats 1000000 in
theorem First_any (Bw gl rate : Nat) (t : List UInt8) (A0 : Option Addr) (m0 c0 B : Nat) (ss : List Sl) (p : List UInt8) (hT : catS ss = p) (w : World) (h : TpAt w Bw gl t rate) (hr0 : Rd w B 1 A0 m0 (ss.map slV)) (hss : ∀ s ∈ ss, Rd w B 1 s.A s.n (s.l.map bv)) (hB : B ≤ w.heap.size) (hm : m0 ≤ 1000000) (hp : p.length ≤ 1000000) :
    Calls Tryz.prog 12 #[.pointer (some ⟨gl, 0, none⟩), .slice A0 m0 c0] w fun e w' => e = .returned (.int .i64 (firstPl (placesT t p))) ∧ VB Bw w w' := by
  have hall := All_any Bw gl rate t A0 m0 c0 B ss p hT w h hr0 hss hB hm hp
  clear h hr0 hss hT
  obtain ⟨ps, hps⟩ : ∃ x, placesT t p = x := ⟨_, rfl⟩
  unfold AllPost at hall
  rw [hps] at hall ⊢
  clear hps
  go_enter Tryz.func12, Tryz.ntmps12
  go_wp2_with fail
  refine hall.mono ?_
  rintro e w1 ⟨A, c, rfl, hm1, hv1⟩
  have Hv1 := Lib.hid hv1
  clear hall hv1
  obtain ⟨n, hn⟩ : ∃ n, ps.length = n := ⟨_, rfl⟩
  rw [hn] at hm1 ⊢
  rcases Nat.eq_zero_or_pos n with h0 | h0
  · subst h0
    have hps : ps = [] := List.eq_nil_of_length_eq_zero hn
    subst hps
    clear hm1 hn
    go_wp2_with fail
    go_ret
    exact ⟨rfl, Hv1.out⟩
  · obtain ⟨b, off, u, rfl, hbl, hu, hc⟩ := hm1.rd.get h0
    cases ps with
    | nil => simp at hn; omega
    | cons x l =>
      simp only [List.map_cons, List.getElem?_cons_zero, Option.some.injEq] at hu
      subst hu
      unfold sv at hc
      rw [Nat.add_zero] at hc
      clear hm1 hn
      have h1 : ¬ ((n : Int) = 0) := by omega
      have h2 : (0 : Int) < (n : Int) := by omega
      go_wp2_with fail
      go_ret
      exact ⟨rfl, Hv1.out⟩
end Go.Proofs.YthkkcelfgcholaaGreat
namespace Go.Proofs.YthkkcelfgcholaaGreat
open Go.RowKit
set_option linter.unusedVariables false
set_option linter.unusedSimpArgs false
set_option maxRecDepth 100000 in
theorem FRowsNil_any (A : Option Addr) (m c : Nat) (w : World) :
    Calls Tryz.prog 34 #[.pointer none, .slice A m c] w fun e w' => e = .returned (.tuple #[.int .i64 0, .int .i64 0]) ∧ Below w.heap.size w w' := by
  go_enter Tryz.func34, Tryz.ntmps34
  go_wp2_with fail
  go_ret2
  exact ⟨rfl, (Below.refl _ _).alloc (Nat.le_refl _) _⟩
set_option maxRecDepth 100000 in
set_option maxHeartbeats 1000000 in
theorem AllNil_any (A : Option Addr) (m c : Nat) (w : World) :
    Calls Tryz.prog 11 #[.pointer none, .slice A m c] w fun e w' => e = .returned (.slice none 0 0) ∧ Below w.heap.size w w' := by
  go_enter Tryz.func11, Tryz.ntmps11
  go_wp2_with fail
  refine (FRowsNil_any A m c _).mono ?_
  rintro e w1 ⟨rfl, hb⟩
  have Hb := Lib.hid hb
  clear hb
  go_wp2_with fail
  go_loopw [7, 8] (fun v i wr => v = .slice none 0 0 ∧ i = .int .i64 0 ∧ wr = w1) (fun _ _ _ => 0)
  case atStart => exact ⟨rfl, rfl, rfl⟩
  case round =>
    obtain ⟨rfl, rfl, rfl⟩ := hrel
    go_wp2_with fail
    refine (SortNil_any _).mono ?_
    rintro e w2 ⟨rfl, rfl⟩
    go_wp2_with fail
    go_ret
    exact ⟨rfl, Hb.out⟩
set_option maxRecDepth 100000 in
theorem FirstNil_any (A : Option Addr) (m c : Nat) (w : World) :
    Calls Tryz.prog 12 #[.pointer none, .slice A m c] w fun e w' => e = .returned (.int .i64 (-1)) ∧ Below w.heap.size w w' := by
  go_enter Tryz.func12, Tryz.ntmps12
  go_wp2_with fail
  refine (AllNil_any A m c _).mono ?_
  rintro e w1 ⟨rfl, hb⟩
  have Hb := Lib.hid hb
  clear hb
  go_wp2_with fail
  go_ret
  exact ⟨rfl, Hb.out⟩
end Go.Proofs.YthkkcelfgcholaaGreat
namespace Go.Proofs.YthkkcelfgcholaaGreat
open Go.RowKit
set_option linter.unusedVariables false
set_option linter.unusedSimpArgs false
/-- gl is a Live of the text t. -/
def TxtAt (w : World) (B gl : Nat) (t : List UInt8) : Prop := ∃ rs, IsSuf (symL t) rs ∧ LvW w B gl (lastL (symL t) rs) ∧ t.length ≤ 127
theorem TxtAt.vis {w w' : World} {B gl : Nat} {t : List UInt8} (h : TxtAt w B gl t) (k : Vis w w') : TxtAt w' B gl t := by
  obtain ⟨rs, h1, h2, h3⟩ := h
  exact ⟨rs, h1, h2.vis k, h3⟩
theorem TxtAt.mono {w : World} {B B' gl : Nat} {t : List UInt8} (h : TxtAt w B gl t) (hB : B' ≤ B) : TxtAt w B' gl t := by
  obtain ⟨rs, h1, ⟨gk, r1, r2, r3, h2, h4⟩, h3⟩ := h
  exact ⟨rs, h1, ⟨gk, r1, r2, r3, h2, h4.mono hB⟩, h3⟩
theorem TxtAt.le {w : World} {B gl : Nat} {t : List UInt8} (h : TxtAt w B gl t) : t.length ≤ 127 := by
  obtain ⟨rs, h1, h2, h3⟩ := h
  exact h3
end Go.Proofs.YthkkcelfgcholaaGreat
namespace Go.Proofs.YthkkcelfgcholaaGreat
open Go.RowKit
set_option linter.unusedVariables false
set_option linter.unusedSimpArgs false
theorem nv_inj {a b : Nat} (h : a ≠ b) : ((a : Int) == (b : Int)) = false := by rw [beq_eq_false_iff_ne]; omega
theorem take_ext {L1 L2 : List Nat} {k n : Nat} (h1 : L1.length = n) (h2 : L2.length = n) (h : L1.take k = L2.take k) (hk : n ≤ k) : L1 = L2 := by
  rw [List.take_of_length_le (by omega), List.take_of_length_le (by omega)] at h
  exact h
set_option maxRecDepth 100000 in
set_option maxHeartbeats 1000000 in
theorem refSame_any (A1 A2 : Option Addr) (n1 c1 n2 c2 B1 B2 : Nat) (L1 L2 : List Nat) (w : World) (h1 : Rd w B1 1 A1 n1 (L1.map sv)) (h2 : Rd w B2 1 A2 n2 (L2.map sv)) (hn : n1 ≤ 1099511627776) (hn2 : n2 ≤ 1099511627776) :
    Calls Tryz.prog 10 #[.slice A1 n1 c1, .slice A2 n2 c2] w fun e w' => e = .returned (.bool (decide (L1 = L2))) ∧ Below w.heap.size w w' := by
  have l1 : L1.length = n1 := by simpa using h1.1
  have l2 : L2.length = n2 := by simpa using h2.1
  have H1 := Lib.hid h1
  have H2 := Lib.hid h2
  have HL1 := Lib.hid l1
  have HL2 := Lib.hid l2
  clear h1 h2 l1 l2
  by_cases hne : n1 = n2
  · subst hne
    go_enter Tryz.func10, Tryz.ntmps10
    go_wp2
    go_loopw [5] (fun i wr => ∃ k : Nat, k ≤ n1 ∧ i = .int .i64 k ∧ L1.take k = L2.take k ∧ ∃ m, wr = w.drewN m) (fun i _ => n1 - (intOf i).toNat)
    case atStart => exact ⟨0, Nat.zero_le _, rfl, rfl, 0, rfl⟩
    case round =>
      obtain ⟨k, hk, rfl, hpre, mm, rfl⟩ := hrel
      by_cases hlt : k < n1
      · obtain ⟨x, hx⟩ : ∃ x, L1[k]? = some x := ⟨L1[k]'(by have := HL1.out; omega), List.getElem?_eq_getElem (by have := HL1.out; omega)⟩
        obtain ⟨y, hy⟩ : ∃ y, L2[k]? = some y := ⟨L2[k]'(by have := HL2.out; omega), List.getElem?_eq_getElem (by have := HL2.out; omega)⟩
        obtain ⟨b1, o1, u1, rfl, hb1, hu1, d1⟩ := H1.out.get hlt
        obtain ⟨b2, o2, u2, rfl, hb2, hu2, d2⟩ := H2.out.get hlt
        rw [List.getElem?_map, hx] at hu1
        rw [List.getElem?_map, hy] at hu2
        simp only [Option.map_some, Option.some.injEq] at hu1 hu2
        subst hu1
        subst hu2
        unfold sv at d1 d2
        have Hpre := Lib.hid hpre
        have Hx := Lib.hid hx
        have Hy := Lib.hid hy
        clear hpre hx hy
        by_cases hxy : x = y
        · subst hxy
          go_wp2
          go_quiet (fail)
          go_wp2
          go_roundw
          case rel =>
            refine ⟨k + 1, by omega, by go_num, ?_, _, rfl⟩
            rw [List.take_add_one, List.take_add_one, Hpre.out, Hx.out, Hy.out]
          case measure => simp [intOf]; omega
        · have t := nv_inj hxy
          have hfin : L1 ≠ L2 := fun h => hxy (by
            have a := Hx.out
            rw [h, Hy.out] at a
            injection a with a
            exact a.symm)
          have Hfin := Lib.hid hfin
          clear hfin
          go_wp2
          go_quiet (fail)
          go_wp2
          go_ret
          exact ⟨ret_bool (by rw [decide_eq_false Hfin.out]), below_drewN (below_drewN (Below.refl _ _) _) _⟩
      · have hge : n1 ≤ k := by omega
        have hfin := Lib.hid (take_ext HL1.out HL2.out hpre hge)
        clear hpre
        go_wp2
        go_ret
        exact ⟨ret_bool (by rw [decide_eq_true hfin.out]), below_drewN (Below.refl _ _) _⟩
  · have hfin : L1 ≠ L2 := fun h => hne (by rw [← HL1.out, ← HL2.out, h])
    have Hfin := Lib.hid hfin
    have t := nv_inj hne
    clear hfin
    go_enter Tryz.func10, Tryz.ntmps10
    go_wp2
    go_ret
    exact ⟨ret_bool (by rw [decide_eq_false Hfin.out]), Below.refl _ _⟩
end Go.Proofs.YthkkcelfgcholaaGreat
namespace Go.Proofs.YthkkcelfgcholaaGreat
open Go.RowKit
set_option linter.unusedVariables false
set_option linter.unusedSimpArgs false
theorem told14_places : placesT [97, 97, 97] [97, 97] = [0, 1] ∧ placesT [97, 97, 97] [] = [0, 1, 2, 3] ∧ firstPl (placesT [97, 97, 97] [98]) = -1 ∧ firstPl (placesT [97, 97, 97] [97, 97]) = 0 := by decide
set_option maxRecDepth 100000 in
set_option maxHeartbeats 4000000 in
theorem Told14_any (w : World) : Calls Tryz.prog 9 #[] w fun e w' => e = .returned (.bool true) ∧ Below w.heap.size w w' := by
  obtain ⟨t1, t2, t3, t4⟩ := told14_places
  have T1 := Lib.hid t1
  have T2 := Lib.hid t2
  have T3 := Lib.hid t3
  have T4 := Lib.hid t4
  clear t1 t2 t3 t4
  have kc := str_const
  have kc1 := str_const1
  go_enter Tryz.func9, Tryz.ntmps9
  go_wp2_with fail
  have hp := parts_one w #[.int .u8 97, .int .u8 97, .int .u8 97] (3, 4) [97, 97, 97] 3 rfl rfl
  refine (TpNew_any 2 _ 1 1 (w.heap.size + 2) [(⟨some ⟨w.heap.size, 0, none⟩, 3, 3, [97, 97, 97]⟩ : Sl)] [97, 97, 97] rfl _ hp.1 hp.2 (by simp) (by omega) (by simp) (by omega) (by omega)).mono ?_
  rintro e w1 ⟨gl, rfl, _, ht, hb⟩
  have hv : Below w.heap.size w w1 := (((Below.refl w.heap.size w).alloc (Nat.le_refl _) _).alloc (by simp) _).trans (hb.mono (by simp; omega))
  have Ht := Lib.hid (TpAt.mono ht (B' := w.heap.size) (by simp; omega))
  have Hv := Lib.hid hv
  clear ht hv hb hp
  go_wp2_with fail
  have hp2 := parts_one w1 #[.int .u8 97, .int .u8 97] (2, 3) [97, 97] 2 rfl rfl
  have hv2 : Below w1.heap.size w1 ((w1.alloc (.cells #[.int .u8 97, .int .u8 97] 5 (2, 3))).alloc (.cells #[.slice (some ⟨w1.heap.size, 0, none⟩) 2 2] 23)) := ((Below.refl _ _).alloc (Nat.le_refl _) _).alloc (by simp) _
  refine (All_any w.heap.size gl 2 [97, 97, 97] _ 1 1 (w1.heap.size + 2) [(⟨some ⟨w1.heap.size, 0, none⟩, 2, 2, [97, 97]⟩ : Sl)] [97, 97] rfl _ (Ht.out.vis (Vis.of_below hv2)) hp2.1 hp2.2 (by simp) (by omega) (by simp)).mono ?_
  rintro e w2 ⟨A2, c2, rfl, hm2, hu2⟩
  rw [T1.out] at hm2 ⊢
  have hx2 : VB w.heap.size w1 w2 := (VisK.of_below hv2).trans hu2
  replace Ht := Lib.hid (Ht.out.vis hx2.1)
  replace Hv := Lib.hid (Hv.out.trans (VB.to_below hx2 Hv.out.size))
  have Hm2 := Lib.hid hm2
  clear hx2 hu2 hv2 hp2 hm2
  go_wp2_with fail
  have hb2 : Below w2.heap.size w2 (w2.alloc (.cells #[.int .i64 0, .int .i64 1] 3)) := (Below.refl _ _).alloc (Nat.le_refl _) _
  refine (refSame_any A2 _ 2 c2 2 2 _ _ [0, 1] [0, 1] _ (Hm2.out.rd.below hb2) (Rd.made w2 3 1 2 #[.int .i64 0, .int .i64 1] rfl) (by omega) (by omega)).mono ?_
  rintro e w3 ⟨rfl, hb3⟩
  have hx3 : Below w2.heap.size w2 w3 := hb2.trans (hb3.mono hb2.size)
  replace Ht := Lib.hid (Ht.out.vis (Vis.of_below hx3))
  replace Hv := Lib.hid (Hv.out.trans (hx3.mono Hv.out.size))
  clear hx3 hb3 hb2 Hm2
  have hd1 : decide (([0, 1] : List Nat) = [0, 1]) = true := by decide
  rw [hd1]
  go_wp2_with fail
  refine (All_any w.heap.size gl 2 [97, 97, 97] none 0 0 0 [] [] rfl w3 Ht.out (Rd.nil _ _ _ _) (fun s hs => by cases hs) (Nat.zero_le _) (by omega) (by simp)).mono ?_
  rintro e w4 ⟨A4, c4, rfl, hm4, hu4⟩
  rw [T2.out] at hm4 ⊢
  replace Ht := Lib.hid (Ht.out.vis hu4.1)
  replace Hv := Lib.hid (Hv.out.trans (VB.to_below hu4 Hv.out.size))
  have Hm4 := Lib.hid hm4
  clear hu4 hm4
  go_wp2_with fail
  have hb4 : Below w4.heap.size w4 (w4.alloc (.cells #[.int .i64 0, .int .i64 1, .int .i64 2, .int .i64 3] 3)) := (Below.refl _ _).alloc (Nat.le_refl _) _
  refine (refSame_any A4 _ 4 c4 4 4 _ _ [0, 1, 2, 3] [0, 1, 2, 3] _ (Hm4.out.rd.below hb4) (Rd.made w4 3 1 4 #[.int .i64 0, .int .i64 1, .int .i64 2, .int .i64 3] rfl) (by omega) (by omega)).mono ?_
  rintro e w5 ⟨rfl, hb5⟩
  have hx5 : Below w4.heap.size w4 w5 := hb4.trans (hb5.mono hb4.size)
  replace Ht := Lib.hid (Ht.out.vis (Vis.of_below hx5))
  replace Hv := Lib.hid (Hv.out.trans (hx5.mono Hv.out.size))
  clear hx5 hb5 hb4 Hm4 hd1
  have hd2 : decide (([0, 1, 2, 3] : List Nat) = [0, 1, 2, 3]) = true := by decide
  rw [hd2]
  go_wp2_with fail
  have hp6 := parts_one w5 #[.int .u8 97, .int .u8 97] (2, 3) [97, 97] 2 rfl rfl
  have hv6 : Below w5.heap.size w5 ((w5.alloc (.cells #[.int .u8 97, .int .u8 97] 5 (2, 3))).alloc (.cells #[.slice (some ⟨w5.heap.size, 0, none⟩) 2 2] 23)) := ((Below.refl _ _).alloc (Nat.le_refl _) _).alloc (by simp) _
  refine (First_any w.heap.size gl 2 [97, 97, 97] _ 1 1 (w5.heap.size + 2) [(⟨some ⟨w5.heap.size, 0, none⟩, 2, 2, [97, 97]⟩ : Sl)] [97, 97] rfl _ (Ht.out.vis (Vis.of_below hv6)) hp6.1 hp6.2 (by simp) (by omega) (by simp)).mono ?_
  rintro e w6 ⟨rfl, hu6⟩
  rw [T4.out]
  have hx6 : VB w.heap.size w5 w6 := (VisK.of_below hv6).trans hu6
  replace Ht := Lib.hid (Ht.out.vis hx6.1)
  replace Hv := Lib.hid (Hv.out.trans (VB.to_below hx6 Hv.out.size))
  clear hx6 hu6 hv6 hp6 hd2
  go_wp2_with fail
  have hp7 := parts_one w6 #[.int .u8 98] (1, 2) [98] 1 rfl rfl
  have hv7 : Below w6.heap.size w6 ((w6.alloc (.cells #[.int .u8 98] 5 (1, 2))).alloc (.cells #[.slice (some ⟨w6.heap.size, 0, none⟩) 1 1] 23)) := ((Below.refl _ _).alloc (Nat.le_refl _) _).alloc (by simp) _
  refine (First_any w.heap.size gl 2 [97, 97, 97] _ 1 1 (w6.heap.size + 2) [(⟨some ⟨w6.heap.size, 0, none⟩, 1, 1, [98]⟩ : Sl)] [98] rfl _ (Ht.out.vis (Vis.of_below hv7)) hp7.1 hp7.2 (by simp) (by omega) (by simp)).mono ?_
  rintro e w7 ⟨rfl, hu7⟩
  rw [T3.out]
  have hx7 : VB w.heap.size w6 w7 := (VisK.of_below hv7).trans hu7
  replace Hv := Lib.hid (Hv.out.trans (VB.to_below hx7 Hv.out.size))
  clear hx7 hu7 hv7 hp7 Ht
  go_wp2_with fail
  refine (AllNil_any none 0 0 w7).mono ?_
  rintro e w8 ⟨rfl, hb8⟩
  replace Hv := Lib.hid (Hv.out.trans (hb8.mono Hv.out.size))
  clear hb8
  go_wp2_with fail
  refine (FirstNil_any none 0 0 w8).mono ?_
  rintro e w9 ⟨rfl, hb9⟩
  replace Hv := Lib.hid (Hv.out.trans (hb9.mono Hv.out.size))
  clear hb9
  go_wp2_with fail
  go_ret
  exact ⟨rfl, Hv.out⟩
end Go.Proofs.YthkkcelfgcholaaGreat
namespace Go.Proofs.YthkkcelfgcholaaGreat
open Go.RowKit
set_option linter.unusedVariables false
set_option linter.unusedSimpArgs false
theorem preQ_iff (l : List Nat) (q : List Nat) : ∀ p, preQ l q p = true ↔ ∀ (i s : Nat), q[i]? = some s → aN l (p + i) = (s : Int) := by
  induction q with
  | nil => intro p; exact ⟨fun _ i s h => by simp at h, fun _ => rfl⟩
  | cons x q ih =>
    intro p
    rw [preQ_cons, Bool.and_eq_true, decide_eq_true_eq, ih]
    constructor
    · rintro ⟨h1, h2⟩ i s h
      rcases i with _ | i
      · simp at h
        subst h
        exact h1
      · have := h2 i s (by simpa using h)
        rwa [show p + (i + 1) = p + 1 + i by omega]
    · intro h
      refine ⟨h 0 x (by simp), fun i s hi => ?_⟩
      have := h (i + 1) s (by simpa using hi)
      rwa [show p + 1 + i = p + (i + 1) by omega]
theorem aN_symL (t : List UInt8) {p : Nat} {c : UInt8} (h : t[p]? = some c) : aN (symL t) p = ((c.toNat + 1 : Nat) : Int) := by
  have hp := (List.getElem?_eq_some_iff.1 h).1
  refine aN_some ?_
  unfold symL symB
  rw [List.getElem?_append_left (by simpa using hp), List.getElem?_map, h]
  rfl
/-- A pattern stands at p, in bytes. -/
theorem preQ_bytes (t q : List UInt8) (p : Nat) : preQ (symL t) (symB q) p = true ↔ ∀ (i : Nat) (c : UInt8), q[i]? = some c → t[p + i]? = some c := by
  rw [preQ_iff]
  constructor
  · intro h i c hc
    have := h i (c.toNat + 1) (by unfold symB; rw [List.getElem?_map, hc]; rfl)
    cases ht : t[p + i]? with
    | none =>
      exfalso
      have hge := List.getElem?_eq_none_iff.1 ht
      rcases Nat.eq_or_lt_of_le hge with e | e
      · have : aN (symL t) (p + i) = 0 := by
          rw [aN_some (x := 0)]
          · rfl
          · unfold symL symB
            rw [List.getElem?_append_right (by simp; omega)]
            simp [e]
        omega
      · have : aN (symL t) (p + i) = -1 := aN_ge (by rw [symL_len]; omega)
        omega
    | some d =>
      rw [aN_symL t ht] at this
      have e : d.toNat = c.toNat := by omega
      rw [UInt8.toNat_inj.1 e]
  · intro h i s hs
    unfold symB at hs
    rw [List.getElem?_map] at hs
    obtain ⟨c, hc, rfl⟩ := Option.map_eq_some_iff.1 hs
    exact aN_symL t (h i c hc)
end Go.Proofs.YthkkcelfgcholaaGreat
namespace Go.Proofs.YthkkcelfgcholaaGreat
open Go.RowKit
set_option linter.unusedVariables false
set_option linter.unusedSimpArgs false
theorem placesT_le (t q : List UInt8) : (placesT t q).length ≤ t.length + 1 := by
  have := List.length_filter_le (preQ (symL t) (symB q)) (List.range (t.length + 1))
  rw [List.length_range] at this
  exact this
theorem places_rise (t q : List UInt8) : (placesT t q).Pairwise (· < ·) := List.Pairwise.filter _ List.pairwise_lt_range
end Go.Proofs.YthkkcelfgcholaaGreat
namespace Go.Proofs.YthkkcelfgcholaaGreat
open Go.RowKit
set_option linter.unusedVariables false
set_option linter.unusedSimpArgs false
theorem rise_ext : ∀ {L M : List Nat}, L.Pairwise (· < ·) → M.Pairwise (· < ·) → (∀ x, x ∈ L ↔ x ∈ M) → L = M
  | [], [], _, _, _ => rfl
  | [], y :: M, _, _, h => absurd ((h y).2 List.mem_cons_self) List.not_mem_nil
  | x :: L, [], _, _, h => absurd ((h x).1 List.mem_cons_self) List.not_mem_nil
  | x :: L, y :: M, hL, hM, h => by
    have hx := (h x).1 List.mem_cons_self
    have hy := (h y).2 List.mem_cons_self
    rw [List.pairwise_cons] at hL hM
    have e : x = y := by
      rcases List.mem_cons.1 hx with e | e
      · exact e
      · rcases List.mem_cons.1 hy with e2 | e2
        · exact e2.symm
        · have := hM.1 x e
          have := hL.1 y e2
          omega
    subst e
    have : L = M := rise_ext hL.2 hM.2 fun z => by
      constructor
      · intro hz
        rcases List.mem_cons.1 ((h z).1 (List.mem_cons_of_mem _ hz)) with e | e
        · subst e
          exact absurd (hL.1 _ hz) (Nat.lt_irrefl _)
        · exact e
      · intro hz
        rcases List.mem_cons.1 ((h z).2 (List.mem_cons_of_mem _ hz)) with e | e
        · subst e
          exact absurd (hM.1 _ hz) (Nat.lt_irrefl _)
        · exact e
    rw [this]
theorem pl_mem (t : List UInt8) (c : UInt8) (x : Nat) : x ∈ placesT t [c] ↔ t[x]? = some c := by
  unfold placesT
  rw [List.mem_filter, List.mem_range, preQ_bytes]
  constructor
  · rintro ⟨_, h⟩
    exact h 0 c rfl
  · intro h
    have := (List.getElem?_eq_some_iff.1 h).1
    refine ⟨by omega, fun i d hd => ?_⟩
    obtain rfl : i = 0 := by
      have := (List.getElem?_eq_some_iff.1 hd).1
      simp at this
      exact this
    injection hd with hd
    subst hd
    exact h
theorem places_ins (t : List UInt8) {k : Nat} {z c : UInt8} (hk : k ≤ t.length) (hz : z ≠ c) : placesT (insN t k z) [c] = (placesT t [c]).map (sh k) := by
  refine rise_ext (places_rise _ _) ?_ fun x => ?_
  · refine List.pairwise_map.2 ((places_rise t [c]).imp fun {a b} h => ?_)
    unfold sh
    split <;> split <;> omega
  · rw [pl_mem, insN_get t z hk, List.mem_map]
    constructor
    · intro h
      split at h
      · rename_i h1
        exact ⟨x, (pl_mem t c x).2 h, by unfold sh; rw [if_pos (by omega)]⟩
      · split at h
        · injection h with h
          exact absurd h hz
        · rename_i h1 h2
          exact ⟨x - 1, (pl_mem t c _).2 h, by unfold sh; rw [if_neg (by omega)]; omega⟩
    · rintro ⟨y, hy, rfl⟩
      have h := (pl_mem t c y).1 hy
      unfold sh
      split
      · rename_i h1
        first | exact h | (rw [if_pos (by omega)]; exact h)
      · rename_i h1
        first | exact h | (rw [if_neg (by omega), if_neg (by omega), Nat.add_sub_cancel]; exact h)
theorem places_new (t : List UInt8) {k : Nat} {z : UInt8} (hk : k ≤ t.length) (hz : ∀ c ∈ t, c ≠ z) : placesT (insN t k z) [z] = [k] := by
  refine rise_ext (places_rise _ _) (List.pairwise_singleton _ _) fun x => ?_
  rw [pl_mem, insN_get t z hk, List.mem_singleton]
  constructor
  · intro h
    split at h
    · exact absurd rfl (hz z (List.mem_of_getElem? h))
    · split at h
      · assumption
      · exact absurd rfl (hz z (List.mem_of_getElem? h))
  · rintro rfl
    rw [if_neg (Nat.lt_irrefl _), if_pos rfl]
theorem Made.lf {w w' : World} {B0 B : Nat} {own own' : Nat → Nat} {e : TypeId} {sz n c : Nat} {A : Option Addr} {xs : List Value} (h : Made w B e sz A n c xs) (k : LF B0 w w' own own') (h1 : e ≠ 117) (h2 : e ≠ 82) (hB : ∀ b, B ≤ b → own b = 0) : Made w' B e sz A n c xs := by
  have h3 : w'.ownsRow B e sz (.slice A n c) n xs := by
    refine ⟨h.own.1, ?_⟩
    rcases h.own.2 with q | ⟨g, cap, cur, q1, q2, q3, q4⟩
    · exact .inl q
    · exact .inr ⟨g, cap, cur, q1, q2, k.vis.bk q3 h1 h2 (fun f => f (hB g q2)), q4⟩
  exact ⟨h3, Rd.of_own h3, h.cap, h.max⟩
theorem LF.belowW {B : Nat} {w w' : World} {own own' : Nat → Nat} (k : LF B w w' own own') (hB : B ≤ w.heap.size) : Below B w w' := k.keep.to_below hB fun b hb f => by have f' : B ≤ b := f; omega
theorem rd_bkw {w : World} {g : Nat} {t : TypeId} {cs : Array Value} {n : Nat} (h : Bk w g t cs) (hs : cs.size = n) : Rd w w.heap.size 1 (some ⟨g, 0, none⟩) n cs.toList := by
  refine ⟨by simp [hs], fun _ => ⟨_, 0, rfl, h.lt, fun j u hu => ?_⟩⟩
  rw [Nat.zero_add, h.cell]
  simpa using hu
end Go.Proofs.YthkkcelfgcholaaGreat
