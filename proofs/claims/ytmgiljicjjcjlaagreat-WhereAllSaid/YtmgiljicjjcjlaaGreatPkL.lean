/- The contract of slices.Sort at integers: on no slice at all, and on a row of the call's own. Conditions: none. Plain laws: the places of a pattern are the rows between its bounds, sorted. No conditions. Plain laws: the rows that a search finds, and how often a pattern stands. No conditions. The walk of the laws' Text: a text of at most so many bytes, of few letters or of all. Conditions: at most 1000 bytes are asked for. The walk of where.All: the places of a pattern. Conditions: a text of at most 127 bytes, as New makes it. The walk of where.First, and New for texts with their pairs. Conditions: a text of at most 127 bytes, as New makes it. The walks of where.All and First on no text. Conditions: none. -/
import Derived.Test.YtmgiljicjjcjlaaGreatBase
import Derived.Test.YtmgiljicjjcjlaaGreatShs
import Derived.Test.YtmgiljicjjcjlaaGreatShl
import Derived.Sort.OwnSortedInts
import Derived.Shelf.Sort.Plain
import Derived.Test.YtmgiljicjjcjlaaGreatPkI
import Derived.Test.YtmgiljicjjcjlaaGreatFnFind
import Derived.Test.YtmgiljicjjcjlaaGreatPkK
namespace Go.Proofs.YtmgiljicjjcjlaaGreat
open Go.RowKit
set_option linter.unusedVariables false
set_option linter.unusedSimpArgs false
set_option maxRecDepth 100000 in
theorem InsNil_any (w : World) : Calls Tryz.prog 60 #[.slice none 0 0, .int .i64 0, .int .i64 0] w fun e w' => e = .returned (.tuple #[]) ∧ w' = w := by
  go_enter Tryz.func60, Tryz.ntmps60
  go_wp2_with fail
  go_loopw [6] (fun x wr => x = .int .i64 1 ∧ wr = w) (fun _ _ => 0)
  case atStart => exact ⟨rfl, rfl⟩
  case round =>
    obtain ⟨rfl, rfl⟩ := hrel
    go_wp2_with fail
    go_end0
    exact ⟨rfl, rfl⟩
set_option maxRecDepth 100000 in
theorem PdqNil_any (l : Int) (w : World) : Calls Tryz.prog 40 #[.slice none 0 0, .int .i64 0, .int .i64 0, .int .i64 l] w fun e w' => e = .returned (.tuple #[]) ∧ w' = w := by
  go_enter Tryz.func40, Tryz.ntmps40
  go_wp2_with fail
  go_loopw [1, 2] (fun x y wr => x = .int .i64 0 ∧ y = .int .i64 0 ∧ wr = w) (fun _ _ _ => 0)
  case atStart => exact ⟨rfl, rfl, rfl⟩
  case round =>
    obtain ⟨rfl, rfl, rfl⟩ := hrel
    go_wp2_with fail
    refine (InsNil_any wr).mono ?_
    rintro e w1 ⟨rfl, rfl⟩
    go_wp2_with fail
    exact bodyPost_ret (results_none rfl _ _ _) rfl ⟨rfl, rfl⟩
set_option maxRecDepth 100000 in
theorem SortNil_any (w : World) : Calls Tryz.prog 20 #[.slice none 0 0] w fun e w' => e = .returned (.tuple #[]) ∧ w' = w := by
  have hlen : Calls Tryz.prog 41 #[.int .u64 0] w fun e w' => e = .returned (.int .i64 (Lib.bitLen (0 : Int).toNat)) ∧ w' = w := calls_of_every_depth fun D => AnyS.bits_LenIn shLen D 0 w (by omega) (by omega)
  go_enter Tryz.func20, Tryz.ntmps20
  go_wp2_with fail
  refine hlen.mono ?_
  rintro e w1 ⟨rfl, rfl⟩
  go_wp2_with fail
  refine (PdqNil_any _ w1).mono ?_
  rintro e w2 ⟨rfl, rfl⟩
  go_wp2_with fail
  go_end0
  exact ⟨rfl, rfl⟩
/-- slices.Sort of a row of the call's own. -/
theorem SortOwn_any (base : Nat) (v : Value) (n : Nat) (zs : List Int) (w : World) (h : w.ownsRow base 3 1 v n (zs.map (Value.int .i64))) (hn : zs.length = n) (hn2 : n ≤ 1000) :
    ∃ A c, v = .slice A n c ∧ Calls Tryz.prog 20 #[.slice A n c] w fun e w' => e = .returned (.tuple #[]) ∧ w'.ownsRow base 3 1 (.slice A n c) n ((zs.mergeSort fun x y => decide (x ≤ y)).map (Value.int .i64)) ∧ Keep (fun b => (Value.slice A n c).ownBlock = some b) w w' := by
  subst hn
  rcases h.2 with ⟨h1, h2⟩ | ⟨g, cap, cur, h1, hb, hg, hnc, hm, hsz, htk⟩
  · subst h1
    refine ⟨none, 0, by rw [h2], ?_⟩
    have hz : zs = [] := List.eq_nil_of_length_eq_zero h2
    subst hz
    refine (SortNil_any w).mono ?_
    rintro e w' ⟨rfl, rfl⟩
    exact ⟨rfl, by simpa using h, Keep.refl _ _⟩
  · subst h1
    refine ⟨_, cap, rfl, ?_⟩
    have hgl : g < w.heap.size := (Array.getElem?_eq_some_iff.1 hg).1
    have hH : Sort.Holds (Value.int .i64) w g 0 zs.toArray := holds_of_blockI hg (by rw [← htk]; simp)
    refine (Any.slices_Sort_int shSrt g 0 cap zs w hH hgl (by omega)).mono ?_
    rintro e w' ⟨rfl, k, os, rfl⟩
    have hgr := grownBy_sortedI (w := w) (g := g) (n := k) (os := os) (zs.mergeSort fun x y => decide (x ≤ y)).toArray
    refine ⟨rfl, ownsRow_sortedI (by simp) hb hg hnc hm hsz, ⟨hgr.os, hgr.tape, hgr.output, hgr.size, fun b hb hne => hgr.block b hb (fun e => hne e.symm)⟩⟩
end Go.Proofs.YtmgiljicjjcjlaaGreat
namespace Go.Proofs.YtmgiljicjjcjlaaGreat
open Go.RowKit
set_option linter.unusedVariables false
set_option linter.unusedSimpArgs false
theorem pq_at {l rs : List Nat} (h : IsSuf l rs) (b : Bool) (q : List Nat) (i : Nat) (hi : i < rs.length) : Pq l b q rs[i] = decide (i < Nq l b q) := by
  have hN : rs.countP (Pq l b q) = Nq l b q := h.count _
  have ht := take_down (P := Pq l b q) h.sorted (fun x y hxy hy => Pq_down q hxy hy)
  rw [hN] at ht
  rw [Bool.eq_iff_iff, decide_eq_true_eq]
  constructor
  · intro hp
    by_cases hlt : i < Nq l b q
    · exact hlt
    · exfalso
      have hall : ∀ x ∈ rs.take (i + 1), Pq l b q x = true := by
        intro x hx
        obtain ⟨k, hk, rfl⟩ := List.mem_iff_getElem.1 hx
        rw [List.length_take] at hk
        rw [List.getElem_take]
        rcases Nat.lt_or_ge k i with h1 | h1
        · exact Pq_down q (List.pairwise_iff_getElem.1 h.sorted k i (by omega) hi h1) hp
        · obtain rfl : k = i := by omega
          exact hp
      have h1 := List.countP_eq_length.2 hall
      rw [List.length_take] at h1
      have h2 : (rs.take (i + 1)).countP (Pq l b q) ≤ rs.countP (Pq l b q) := (List.take_sublist _ _).countP_le
      omega
  · intro hlt
    have hm : rs[i] ∈ rs.take (Nq l b q) := by
      rw [List.mem_take_iff_getElem]
      exact ⟨i, by omega, rfl⟩
    rw [ht, List.mem_filter] at hm
    exact hm.2
theorem preq_at {l rs : List Nat} (h : IsSuf l rs) (q : List Nat) (i : Nat) (hi : i < rs.length) : preQ l q rs[i] = true ↔ Nq l false q ≤ i ∧ i < Nq l true q := by
  obtain ⟨h1, h2⟩ := Pq_or l q rs[i]
  rw [pq_at h false q i hi, pq_at h true q i hi] at h1
  rw [pq_at h false q i hi] at h2
  constructor
  · intro hp
    rw [hp] at h1 h2
    constructor
    · rcases Nat.lt_or_ge i (Nq l false q) with h3 | h3
      · exact absurd ⟨decide_eq_true h3, rfl⟩ h2
      · exact h3
    · simpa using h1
  · rintro ⟨h3, h4⟩
    rw [decide_eq_true h4, decide_eq_false (by omega)] at h1
    simpa using h1.symm
theorem mid_filter {α : Type} (P : α → Bool) (rs : List α) (a b : Nat) (hab : a ≤ b) (hb : b ≤ rs.length) (h : ∀ i (hi : i < rs.length), P rs[i] = true ↔ a ≤ i ∧ i < b) : (rs.drop a).take (b - a) = rs.filter P := by
  have e : rs = rs.take a ++ ((rs.drop a).take (b - a) ++ (rs.drop a).drop (b - a)) := by rw [List.take_append_drop, List.take_append_drop]
  conv => rhs; rw [e]
  rw [List.filter_append, List.filter_append]
  have h1 : (rs.take a).filter P = [] := List.filter_eq_nil_iff.2 fun x hx hp => by
    obtain ⟨k, hk, rfl⟩ := List.mem_iff_getElem.1 hx
    rw [List.length_take] at hk
    rw [List.getElem_take] at hp
    have := (h k (by omega)).1 hp
    omega
  have h2 : ((rs.drop a).take (b - a)).filter P = (rs.drop a).take (b - a) := List.filter_eq_self.2 fun x hx => by
    obtain ⟨k, hk, rfl⟩ := List.mem_iff_getElem.1 hx
    rw [List.length_take, List.length_drop] at hk
    rw [List.getElem_take, List.getElem_drop]
    exact (h (a + k) (by omega)).2 ⟨by omega, by omega⟩
  have h3 : ((rs.drop a).drop (b - a)).filter P = [] := List.filter_eq_nil_iff.2 fun x hx hp => by
    obtain ⟨k, hk, rfl⟩ := List.mem_iff_getElem.1 hx
    rw [List.length_drop, List.length_drop] at hk
    rw [List.getElem_drop, List.getElem_drop] at hp
    have := (h (a + (b - a + k)) (by omega)).1 hp
    omega
  rw [h1, h2, h3]
  simp
/-- Where a pattern stands. -/
def placesT (t q : List UInt8) : List Nat := (List.range (t.length + 1)).filter (preQ (symL t) (symB q))
theorem rows_mid {t : List UInt8} {rs : List Nat} (h : IsSuf (symL t) rs) (q : List UInt8) : ((rs.drop (Nq (symL t) false (symB q))).take (Nq (symL t) true (symB q) - Nq (symL t) false (symB q))).Perm (placesT t q) := by
  have hab : Nq (symL t) false (symB q) ≤ Nq (symL t) true (symB q) := by rw [Nq_occ]; omega
  rw [mid_filter (preQ (symL t) (symB q)) rs _ _ hab (by rw [h.len]; exact Nq_le _ _ _) (fun i hi => preq_at h (symB q) i hi)]
  have := h.perm.filter (preQ (symL t) (symB q))
  rw [symL_len] at this
  exact this
theorem eq_of_sorted : ∀ (a b : List Int), a.Pairwise (fun x y => x ≤ y) → b.Pairwise (fun x y => x ≤ y) → a.Perm b → a = b
  | [], b, _, _, h => h.nil_eq.symm ▸ rfl
  | x :: a, [], _, _, h => by simp at h
  | x :: a, y :: b, ha, hb, h => by
    obtain ⟨h1, h2⟩ := List.pairwise_cons.1 ha
    obtain ⟨h3, h4⟩ := List.pairwise_cons.1 hb
    have hxy : x = y := by
      have hx : x ∈ y :: b := h.mem_iff.1 (by simp)
      have hy : y ∈ x :: a := h.mem_iff.2 (by simp)
      rcases List.mem_cons.1 hx with e | hx
      · exact e
      · rcases List.mem_cons.1 hy with e | hy
        · exact e.symm
        · have := h1 y hy
          have := h3 x hx
          omega
    subst hxy
    rw [eq_of_sorted a b h2 h4 (List.perm_cons x |>.1 h)]
theorem sort_places {t : List UInt8} {rs : List Nat} (h : IsSuf (symL t) rs) (q : List UInt8) : (((rs.drop (Nq (symL t) false (symB q))).take (Nq (symL t) true (symB q) - Nq (symL t) false (symB q))).map fun n : Nat => (n : Int)).mergeSort (fun x y => decide (x ≤ y)) = (placesT t q).map fun n : Nat => (n : Int) := by
  refine eq_of_sorted _ _ ?_ ?_ ((List.mergeSort_perm _ _).trans ((rows_mid h q).map _))
  · have := List.pairwise_mergeSort (le := fun x y : Int => decide (x ≤ y)) (fun a b c h1 h2 => by simp at *; omega) (fun a b => by simp; omega) (((rs.drop (Nq (symL t) false (symB q))).take (Nq (symL t) true (symB q) - Nq (symL t) false (symB q))).map fun n : Nat => (n : Int))
    exact this.imp fun h => by simpa using h
  · rw [List.pairwise_map]
    unfold placesT
    refine (List.Pairwise.filter _ List.pairwise_lt_range).imp fun {a b} h => ?_
    omega
end Go.Proofs.YtmgiljicjjcjlaaGreat
namespace Go.Proofs.YtmgiljicjjcjlaaGreat
set_option linter.unusedVariables false
set_option linter.unusedSimpArgs false
theorem rowsN_Nq {l rs : List Nat} {m : Nat} (h : IsSuf l rs) (he : EndOk l m) (p : List UInt8) : rowsN (lastL l rs) p = (Nq l false (symB p), Nq l true (symB p)) := by
  have hL : (lastL l rs).length = l.length := by rw [lastL_len, h.len]
  unfold rowsN
  rw [hL]
  induction p with
  | nil =>
    obtain ⟨h1, h2⟩ := Nq_nil l
    show (0, l.length) = (Nq l false [], Nq l true [])
    rw [h1, h2]
  | cons c p ih =>
    rw [List.reverse_cons, List.foldl_append, ih]
    show (narL _ (c.toNat + 1) (Nq l false (symB p)), narL _ (c.toNat + 1) (Nq l true (symB p))) = _
    rw [narL_Nq h he _ _ _ (by omega), narL_Nq h he _ _ _ (by omega)]
    rfl
/-- The count of a pattern in a text. -/
theorem count_occ {t : List UInt8} {rs : List Nat} (h : IsSuf (symL t) rs) (p : List UInt8) : (rowsN (lastL (symL t) rs) p).2 - (rowsN (lastL (symL t) rs) p).1 = occ (symL t) (symB p) := by
  rw [rowsN_Nq h (symL_end t), Nq_occ]
  omega
end Go.Proofs.YtmgiljicjjcjlaaGreat
namespace Go.Proofs.YtmgiljicjjcjlaaGreat
open Go.RowKit
set_option linter.unusedVariables false
set_option linter.unusedSimpArgs false
theorem byte_ex (v : Int) (h0 : 0 ≤ v) (h1 : v ≤ 255) : ∃ c : UInt8, (c.toNat : Int) = v := ⟨UInt8.ofNat v.toNat, by
  rw [UInt8.toNat_ofNat']
  omega⟩
def fewOk (few : Bool) (T : List UInt8) : Prop := few = true → ∀ c ∈ T, 97 ≤ c.toNat ∧ c.toNat ≤ 99
/-- What Text hands back. -/
def TextPost (w : World) (most : Nat) (few : Bool) (e : Ending) (w' : World) : Prop := ∃ T A' c', T.length ≤ most ∧ fewOk few T ∧ e = .returned (.slice A' T.length c') ∧ Made w' w.heap.size 5 1 A' T.length c' (T.map bv) ∧ Below w.heap.size w w'
set_option maxRecDepth 100000 in
set_option maxHeartbeats 2000000 in
theorem Text_any (A : Option Addr) (n c B : Nat) (l : List Int) (most : Nat) (few : Bool) (w : World) (hr : Rd w B 1 A n (l.map iv)) (hB : B ≤ w.heap.size) (hn : n ≤ maxLen) (hm : most ≤ 1000) :
    Calls Tryz.prog 6 #[.slice A n c, .int .i64 (most : Int), .bool few] w (TextPost w most few) := by
  obtain ⟨i0, hi0, hz0, hz1, hz2⟩ := info_parts u8_info
  unfold maxLen at hn
  have Hr := Lib.hid (hr.mono hB)
  have hll : l.length = n := by simpa using hr.1
  have Hll := Lib.hid hll
  clear hr hll
  go_enter Tryz.func6, Tryz.ntmps6
  go_wp2_with fail
  go_loopw [7, 8] (fun v i wr => ∃ (k : Nat) (T : List UInt8), k ≤ n ∧ k ≤ most ∧ T.length = k ∧ fewOk few T ∧ i = .int .i64 k ∧ wr.ownsRow w.heap.size 5 1 v k (T.map bv) ∧ Below w.heap.size w wr) (fun _ i _ => n - (intOf i).toNat)
  case atStart => exact ⟨0, [], by omega, by omega, rfl, fun _ c hc => (by cases hc), rfl, World.ownsRow_nil _ _ _ _, Below.refl _ _⟩
  case round =>
    obtain ⟨k, T, hk, hkm, hT, hfew, rfl, hown, hb⟩ := hrel
    have hsz := hb.size
    by_cases hlt : k < n ∧ k < most
    · obtain ⟨hlt1, hlt2⟩ := hlt
      obtain ⟨b, off, u, rfl, hbl, hu, hc⟩ := (Hr.out.below hb).get hlt1
      rw [List.getElem?_map] at hu
      obtain ⟨z, hz, rfl⟩ := Option.map_eq_some_iff.1 hu
      unfold iv at hc
      have Hown := Lib.hid hown
      have Hb := Lib.hid hb
      have Hfew := Lib.hid hfew
      have HT := Lib.hid hT
      clear hown hb hfew hT hu hz hbl
      have hkI : (k : Int) < (n : Int) := by omega
      have hmI : (k : Int) < (most : Int) := by omega
      cases few with
      | true =>
        obtain ⟨q, hq, hq3⟩ := umod_ex z 3 (by omega)
        obtain ⟨ch, hch⟩ := byte_ex (97 + (q : Int)) (by omega) (by omega)
        have e1 : IntKind.u64.wrap (97 + (q : Int)) = 97 + (q : Int) := by rw [IntKind.wrap_u64]; omega
        have e2 : IntKind.u8.wrap (97 + (q : Int)) = 97 + (q : Int) := by rw [IntKind.wrap_u8]; omega
        have Hch := Lib.hid hch
        clear hch
        go_wp2_with (at_builtin; refine wpList_push _ rfl (.tmp 21) (.tmp 30) _ rfl w.heap.size 5 i0 (.int .u8 0) 1 1 Tryz.underlying23 hi0 hz0 hz1 hz2 rfl (by decide) _ k _ rfl Hown.out rfl rfl (by simp [Value.oneCell']) (by unfold maxLen; omega) (by omega) hsz ?_; intro v2 w2 hown2 hg2 hs2 hat2)
        have hb3 := below_grown Hb.out Hown.out hg2 hsz
        go_roundw
        case rel =>
          refine ⟨k + 1, T ++ [ch], by omega, by omega, by simp [HT.out], fun h c hc => ?_, by go_num, ?_, hb3⟩
          · rcases List.mem_append.1 hc with hc | hc
            · exact Hfew.out h c hc
            · simp at hc
              subst hc
              have := Hch.out
              omega
          · rw [List.map_append]
            have e3 : bv ch = .int .u8 (97 + (q : Int)) := by unfold bv; rw [Hch.out]
            rw [List.map_cons, List.map_nil, e3]
            exact hown2
        case measure => simp [intOf]; omega
      | false =>
        have hwb : 0 ≤ IntKind.u8.wrap z ∧ IntKind.u8.wrap z ≤ 255 := by rw [IntKind.wrap_u8]; omega
        obtain ⟨ch, hch⟩ := byte_ex (IntKind.u8.wrap z) hwb.1 hwb.2
        have Hch := Lib.hid hch
        clear hch hwb
        go_wp2_with (at_builtin; refine wpList_push _ rfl (.tmp 32) (.tmp 38) _ rfl w.heap.size 5 i0 (.int .u8 0) 1 1 Tryz.underlying23 hi0 hz0 hz1 hz2 rfl (by decide) _ k _ rfl Hown.out rfl rfl (by simp [Value.oneCell']) (by unfold maxLen; omega) (by omega) hsz ?_; intro v2 w2 hown2 hg2 hs2 hat2)
        have hb3 := below_grown Hb.out Hown.out hg2 hsz
        go_roundw
        case rel =>
          refine ⟨k + 1, T ++ [ch], by omega, by omega, by simp [HT.out], fun h c hc => (by cases h), by go_num, ?_, hb3⟩
          rw [List.map_append]
          have e3 : bv ch = .int .u8 (IntKind.u8.wrap z) := by unfold bv; rw [Hch.out]
          rw [List.map_cons, List.map_nil, e3]
          exact hown2
        case measure => simp [intOf]; omega
    · subst hT
      obtain ⟨A', c', rfl, h3⟩ := made_of_own hown
      have H3 := Lib.hid h3
      have H4 := Lib.hid hb
      have H2 := Lib.hid hfew
      clear hown hb hfew h3
      by_cases hkn : T.length < n
      · have hkm' : ¬ T.length < most := fun h => hlt ⟨hkn, h⟩
        have hmI : ¬ (T.length : Int) < (most : Int) := by omega
        clear hlt
        go_wp2_with fail
        go_ret
        exact ⟨T, A', c', hkm, H2.out, rfl, H3.out, H4.out⟩
      · clear hlt
        go_wp2_with fail
        go_ret
        exact ⟨T, A', c', hkm, H2.out, rfl, H3.out, H4.out⟩
end Go.Proofs.YtmgiljicjjcjlaaGreat
namespace Go.Proofs.YtmgiljicjjcjlaaGreat
open Go.RowKit
set_option linter.unusedVariables false
set_option linter.unusedSimpArgs false
/-- A Live at gl holds the text t, with its pairs. -/
def TpAt (w : World) (Bw gl : Nat) (t : List UInt8) (rate : Nat) : Prop :=
  ∃ rs gk gp ga vl vo vt B tk, IsSuf (symL t) rs ∧ LiveAt w Bw gl gk gp ga vl vo vt B (t.length + 1) rate (lastL (symL t) rs) (sampC rs rate (t.length + 1)) tk ∧ t.length ≤ 127
theorem TpAt.vis {w w' : World} {Bw gl : Nat} {t : List UInt8} {rate : Nat} (h : TpAt w Bw gl t rate) (k : Vis w w') : TpAt w' Bw gl t rate := by
  obtain ⟨rs, gk, gp, ga, vl, vo, vt, B, tk, h1, h2, h3⟩ := h
  exact ⟨rs, gk, gp, ga, vl, vo, vt, B, tk, h1, h2.vis k, h3⟩
theorem VB.grow {Bw : Nat} {w w1 w2 : World} (h : VB Bw w w1) (k : Below w.heap.size w1 w2) : VB Bw w w2 :=
  ⟨⟨k.os.trans h.1.os, k.tape.trans h.1.tape, k.output.trans h.1.output, Nat.le_trans h.1.size k.size, fun b hb hn => by
    rcases h.1.block b hb hn with e | ⟨cs, v, h1, h2⟩ | ⟨cs, v, h1, h2⟩
    · exact .inl ((k.block b hb).trans e)
    · exact .inr (.inl ⟨cs, v, h1, h2.below k hb⟩)
    · exact .inr (.inr ⟨cs, v, h1, h2.below k hb⟩)⟩,
   ⟨k.os.trans h.2.os, k.tape.trans h.2.tape, k.output.trans h.2.output, Nat.le_trans h.2.size k.size, fun b hb hn => (k.block b hb).trans (h.2.block b hb hn)⟩⟩
def AllPost (w : World) (Bw : Nat) (t p : List UInt8) (e : Ending) (w' : World) : Prop :=
  ∃ A c, e = .returned (.slice A (placesT t p).length c) ∧ Made w' w.heap.size 3 1 A (placesT t p).length c ((placesT t p).map sv) ∧ VB Bw w w'
set_option maxRecDepth 100000 in
set_option maxHeartbeats 4000000 in
theorem All_any (Bw gl rate : Nat) (t : List UInt8) (A0 : Option Addr) (m0 c0 B : Nat) (ss : List Sl) (p : List UInt8) (hT : catS ss = p) (w : World) (h : TpAt w Bw gl t rate) (hr0 : Rd w B 1 A0 m0 (ss.map slV)) (hss : ∀ s ∈ ss, Rd w B 1 s.A s.n (s.l.map bv)) (hB : B ≤ w.heap.size) (hm : m0 ≤ 1000000) (hp : p.length ≤ 1000000) :
    Calls Tryz.prog 8 #[.pointer (some ⟨gl, 0, none⟩), .slice A0 m0 c0] w (AllPost w Bw t p) := by
  obtain ⟨i0, hi0, hz0, hz1, hz2⟩ := info_parts int_info
  obtain ⟨rs, gk, gp, ga, vl, vo, vt, B', tk, hs, hl, hn⟩ := h
  have hrl : rs.length = t.length + 1 := by rw [hs.len, symL_len]
  have hrows := FindRows_any Bw gl _ t.length A0 m0 c0 B ss p p.length hT rfl w hl.lvw (by rw [lastL_len, hrl]) (by omega) (lastL_lt (symL_lt t)) hr0 hss hB hm hp
  rw [rowsN_Nq hs (symL_end t)] at hrows
  have hsort := sort_places hs p
  have hle := Nq_le (symL t) true (symB p)
  rw [symL_len] at hle
  have hab : Nq (symL t) false (symB p) ≤ Nq (symL t) true (symB p) := by rw [Nq_occ]; omega
  have hlen : (placesT t p).length = Nq (symL t) true (symB p) - Nq (symL t) false (symB p) := by
    rw [← (rows_mid hs p).length_eq, List.length_take, List.length_drop, hrl]
    omega
  obtain ⟨lo, hlo⟩ : ∃ x, Nq (symL t) false (symB p) = x := ⟨_, rfl⟩
  obtain ⟨hi, hhi⟩ : ∃ x, Nq (symL t) true (symB p) = x := ⟨_, rfl⟩
  obtain ⟨ps, hps⟩ : ∃ x, placesT t p = x := ⟨_, rfl⟩
  unfold AllPost
  rw [hlo, hhi] at hrows hsort hlen
  rw [hlo] at hab
  rw [hhi] at hle hab
  rw [hps] at hsort hlen ⊢
  have Hl := Lib.hid hl
  have Hs := Lib.hid hs
  have Hsort := Lib.hid hsort
  have Hlen := Lib.hid hlen
  have Hrl := Lib.hid hrl
  clear hr0 hss hl hs hsort hlen hrl hlo hhi hps hT
  go_enter Tryz.func8, Tryz.ntmps8
  go_wp2_with fail
  refine hrows.mono ?_
  rintro e w1 ⟨rfl, hv1⟩
  clear hrows
  go_wp2_with fail
  go_loopw [7, 8] (fun v i wr => ∃ k : Nat, k ≤ hi - lo ∧ i = .int .i64 ((lo + k : Nat) : Int) ∧ wr.ownsRow w.heap.size 3 1 v k (((rs.drop lo).take k).map sv) ∧ VB Bw w wr) (fun _ i _ => hi - (intOf i).toNat)
  case atStart => exact ⟨0, Nat.zero_le _, by simp, World.ownsRow_nil _ _ _ _, hv1⟩
  case round =>
    obtain ⟨k, hk, rfl, hown, hv⟩ := hrel
    by_cases hlt : k < hi - lo
    · have hltI : ((lo + k : Nat) : Int) < (hi : Int) := by omega
      have hir : lo + k < rs.length := by rw [Hrl.out]; omega
      obtain ⟨y, hy⟩ : ∃ y, rs[lo + k]? = some y := ⟨_, List.getElem?_eq_getElem hir⟩
      have hnext : (rs.drop lo).take (k + 1) = (rs.drop lo).take k ++ [y] := by
        rw [List.take_add_one, List.getElem?_drop, hy]
        rfl
      have hl5 := Hl.out.vis hv.1
      have Hown := Lib.hid hown
      have Hv := Lib.hid hv
      have Hl5 := Lib.hid hl5
      have Hy := Lib.hid hy
      have Hnext := Lib.hid hnext
      clear hown hv hl5 hy hnext
      go_wp2_with fail
      refine (LivePos_any Bw gl gk gp ga vl vo vt B' rate t rs tk (lo + k) y wr Hl5.out Hs.out hn Hy.out).mono ?_
      rintro e w2 ⟨rfl, hv2⟩
      have hv3 := Hv.out.trans hv2
      have hown3 := hv2.1.own Hown.out (by decide) (by decide)
      have hsz3 := hv3.1.size
      have Hv3 := Lib.hid hv3
      have Hown3 := Lib.hid hown3
      clear hv2 hv3 hown3
      go_wp2_with (at_builtin; refine wpList_push _ rfl (.tmp 21) (.tmp 25) _ rfl w.heap.size 3 i0 (.int .i64 0) 1 8 Tryz.underlying22 hi0 hz0 hz1 hz2 rfl (by decide) _ k _ rfl Hown3.out rfl rfl (by simp [Value.oneCell']) (by unfold maxLen; omega) (by omega) hsz3 ?_; intro v2 w3 hown2 hg2 hs2 hat2)
      have hb3 := below_grown (Below.refl w.heap.size w2) Hown3.out hg2 hsz3
      have hv4 := VB.grow Hv3.out hb3
      have Hv4 := Lib.hid hv4
      clear hb3 hv4 hg2 hat2
      go_roundw
      case rel => exact ⟨k + 1, by omega, by go_num, by rw [Hnext.out, List.map_append]; exact hown2, Hv4.out⟩
      case measure => simp [intOf]; omega
    · obtain rfl : k = hi - lo := by omega
      have hltI : ¬ ((lo + (hi - lo) : Nat) : Int) < (hi : Int) := by omega
      have hmap : ((rs.drop lo).take (hi - lo)).map sv = (((rs.drop lo).take (hi - lo)).map fun n : Nat => (n : Int)).map (Value.int .i64) := by rw [List.map_map]; rfl
      rw [hmap] at hown
      obtain ⟨A, c, rfl, hsrt⟩ := SortOwn_any w.heap.size _ (hi - lo) _ wr hown (by rw [List.length_map, List.length_take, List.length_drop, Hrl.out]; omega) (by omega)
      have hown9 := hown
      rw [Hsort.out] at hsrt
      have hlt9 : ∀ b, (Value.slice A (hi - lo) c).ownBlock = some b → w.heap.size ≤ b := fun b hb => (hown9.lt b hb).1
      have Hv := Lib.hid hv
      have Hsrt := Lib.hid hsrt
      have Hlt9 := Lib.hid hlt9
      clear hown hown9 hv hsrt hlt9 hlt hmap
      go_wp2_with fail
      refine Hsrt.out.mono ?_
      rintro e w3 ⟨rfl, hown3, hk3⟩
      have hb3 : Below w.heap.size wr w3 := hk3.to_below Hv.out.1.size (fun b hb e => by have := Hlt9.out b e; omega)
      have hv4 := VB.grow Hv.out hb3
      rw [List.map_map] at hown3
      obtain ⟨A9, c9, e9, hm9⟩ := made_of_own hown3
      cases e9
      have Hm9 := Lib.hid hm9
      have Hv4 := Lib.hid hv4
      clear hown3 hk3 hb3 hv4 hm9
      go_wp2_with fail
      go_ret
      exact ⟨A, c, by rw [Hlen.out]; rfl, by rw [Hlen.out]; exact Hm9.out, Hv4.out⟩
end Go.Proofs.YtmgiljicjjcjlaaGreat
namespace Go.Proofs.YtmgiljicjjcjlaaGreat
open Go.RowKit
set_option linter.unusedVariables false
set_option linter.unusedSimpArgs false
theorem TpNew_any (rate : Nat) (A0 : Option Addr) (m0 c0 B : Nat) (ss : List Sl) (t : List UInt8) (hT : catS ss = t) (w : World) (hr0 : Rd w B 1 A0 m0 (ss.map slV)) (hss : ∀ s ∈ ss, Rd w B 1 s.A s.n (s.l.map bv)) (hB : B ≤ w.heap.size) (hm : m0 ≤ 1000000) (hn : t.length ≤ 127) (hr1 : 1 ≤ rate) (hr2 : rate ≤ 64) :
    Calls Tryz.prog 7 #[.int .i64 (rate : Int), .slice A0 m0 c0] w fun e w' => ∃ gl, e = .returned (.tuple #[.pointer (some ⟨gl, 0, none⟩), .int .i64 0]) ∧ w.heap.size ≤ gl ∧ TpAt w' w.heap.size gl t rate ∧ Below w.heap.size w w' :=
  (LiveNew_any rate A0 m0 c0 B ss t t.length hT rfl w hr0 hss hB hm hn hr1 hr2).mono fun e w' ⟨gl, gk, gp, ga, vl, vo, vt, B', tk, rs, h1, h2, h3, h4, _, h6⟩ => ⟨gl, h2, h3, ⟨rs, gk, gp, ga, vl, vo, vt, B', tk, h1, h4, hn⟩, h6⟩
def firstPl : List Nat → Int
  | [] => -1
  | x :: _ => (x : Int)
set_option maxRecDepth 100000 in
set_option maxHeartbeats 1000000 in
theorem First_any (Bw gl rate : Nat) (t : List UInt8) (A0 : Option Addr) (m0 c0 B : Nat) (ss : List Sl) (p : List UInt8) (hT : catS ss = p) (w : World) (h : TpAt w Bw gl t rate) (hr0 : Rd w B 1 A0 m0 (ss.map slV)) (hss : ∀ s ∈ ss, Rd w B 1 s.A s.n (s.l.map bv)) (hB : B ≤ w.heap.size) (hm : m0 ≤ 1000000) (hp : p.length ≤ 1000000) :
    Calls Tryz.prog 11 #[.pointer (some ⟨gl, 0, none⟩), .slice A0 m0 c0] w fun e w' => e = .returned (.int .i64 (firstPl (placesT t p))) ∧ VB Bw w w' := by
  have hall := All_any Bw gl rate t A0 m0 c0 B ss p hT w h hr0 hss hB hm hp
  clear h hr0 hss hT
  obtain ⟨ps, hps⟩ : ∃ x, placesT t p = x := ⟨_, rfl⟩
  unfold AllPost at hall
  rw [hps] at hall ⊢
  clear hps
  go_enter Tryz.func11, Tryz.ntmps11
  go_wp2_with fail
  refine hall.mono ?_
  rintro e w1 ⟨A, c, rfl, hm1, hv1⟩
  have Hv1 := Lib.hid hv1
  clear hall hv1
  obtain ⟨n, hn⟩ : ∃ n, ps.length = n := ⟨_, rfl⟩
  rw [hn] at hm1 ⊢
  rcases Nat.eq_zero_or_pos n with h0 | h0
  · subst h0
    have hps : ps = [] := List.eq_nil_of_length_eq_zero hn
    subst hps
    clear hm1 hn
    go_wp2_with fail
    go_ret
    exact ⟨rfl, Hv1.out⟩
  · obtain ⟨b, off, u, rfl, hbl, hu, hc⟩ := hm1.rd.get h0
    cases ps with
    | nil => simp at hn; omega
    | cons x l =>
      simp only [List.map_cons, List.getElem?_cons_zero, Option.some.injEq] at hu
      subst hu
      unfold sv at hc
      rw [Nat.add_zero] at hc
      clear hm1 hn
      have h1 : ¬ ((n : Int) = 0) := by omega
      have h2 : (0 : Int) < (n : Int) := by omega
      go_wp2_with fail
      go_ret
      exact ⟨rfl, Hv1.out⟩
end Go.Proofs.YtmgiljicjjcjlaaGreat
namespace Go.Proofs.YtmgiljicjjcjlaaGreat
open Go.RowKit
set_option linter.unusedVariables false
set_option linter.unusedSimpArgs false
set_option maxRecDepth 100000 in
theorem FRowsNil_any (A : Option Addr) (m c : Nat) (w : World) :
    Calls Tryz.prog 18 #[.pointer none, .slice A m c] w fun e w' => e = .returned (.tuple #[.int .i64 0, .int .i64 0]) ∧ Below w.heap.size w w' := by
  go_enter Tryz.func18, Tryz.ntmps18
  go_wp2_with fail
  go_ret2
  exact ⟨rfl, (Below.refl _ _).alloc (Nat.le_refl _) _⟩
set_option maxRecDepth 100000 in
set_option maxHeartbeats 1000000 in
theorem AllNil_any (A : Option Addr) (m c : Nat) (w : World) :
    Calls Tryz.prog 8 #[.pointer none, .slice A m c] w fun e w' => e = .returned (.slice none 0 0) ∧ Below w.heap.size w w' := by
  go_enter Tryz.func8, Tryz.ntmps8
  go_wp2_with fail
  refine (FRowsNil_any A m c _).mono ?_
  rintro e w1 ⟨rfl, hb⟩
  have Hb := Lib.hid hb
  clear hb
  go_wp2_with fail
  go_loopw [7, 8] (fun v i wr => v = .slice none 0 0 ∧ i = .int .i64 0 ∧ wr = w1) (fun _ _ _ => 0)
  case atStart => exact ⟨rfl, rfl, rfl⟩
  case round =>
    obtain ⟨rfl, rfl, rfl⟩ := hrel
    go_wp2_with fail
    refine (SortNil_any _).mono ?_
    rintro e w2 ⟨rfl, rfl⟩
    go_wp2_with fail
    go_ret
    exact ⟨rfl, Hb.out⟩
set_option maxRecDepth 100000 in
theorem FirstNil_any (A : Option Addr) (m c : Nat) (w : World) :
    Calls Tryz.prog 11 #[.pointer none, .slice A m c] w fun e w' => e = .returned (.int .i64 (-1)) ∧ Below w.heap.size w w' := by
  go_enter Tryz.func11, Tryz.ntmps11
  go_wp2_with fail
  refine (AllNil_any A m c _).mono ?_
  rintro e w1 ⟨rfl, hb⟩
  have Hb := Lib.hid hb
  clear hb
  go_wp2_with fail
  go_ret
  exact ⟨rfl, Hb.out⟩
end Go.Proofs.YtmgiljicjjcjlaaGreat
