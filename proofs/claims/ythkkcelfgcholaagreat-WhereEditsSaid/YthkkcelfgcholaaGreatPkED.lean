/- The walks of perm's each, with the closures of RowIn, RowOut, RowMove, PosIn, PosOut. Conditions: at most 2^20 pairs. The sampled pairs that own their blocks (PermE); the walks of RowIn and PosIn. Conditions: rows and places in order; at most 1000 numbers. The walks of perm's each with the closure of RowMove. Conditions: at most 2^20 pairs. slices.Insert of one number at any place of an own row; slices.Delete of one. Conditions: at most a million numbers. slices.SortFunc of an own row of numbers, by what they stand for. Conditions: numbers below a bound; the comparison leaves the world (but draws). -/
import Derived.Test.YthkkcelfgcholaaGreatPkEB
import Derived.Test.YthkkcelfgcholaaGreatPkH
import Derived.BigQuiet
import Derived.Test.YthkkcelfgcholaaGreatPkEE
import Derived.Test.YthkkcelfgcholaaGreatPkEA
import Derived.Test.YthkkcelfgcholaaGreatShi
import Derived.Sort.OwnSortedInts
import Derived.Test.YthkkcelfgcholaaGreatQFnRows
namespace Go.Proofs.YthkkcelfgcholaaGreat
open Go.RowKit
set_option linter.unusedVariables false
set_option linter.unusedSimpArgs false
theorem pairsL_set0 (C : List (Nat × Nat)) (k r : Nat) (hk : k < C.length) : (pairsL C).set (k * 2) (.int .i64 (r : Int)) = pairsL (C.set k (r, posK C k)) := by
  apply List.ext_getElem?
  intro j
  have hl := pairsL_len C
  have hl2 := pairsL_len (C.set k (r, posK C k))
  rw [List.length_set] at hl2
  rw [List.getElem?_set]
  by_cases hj : j < C.length * 2
  · have hi : j / 2 < C.length := by omega
    obtain ⟨p0, p1⟩ := pairsL_get C (j / 2) hi
    obtain ⟨q0, q1⟩ := pairsL_get (C.set k (r, posK C k)) (j / 2) (by rw [List.length_set]; exact hi)
    have er : rowK (C.set k (r, posK C k)) (j / 2) = if k = j / 2 then r else rowK C (j / 2) := by
      unfold rowK
      rw [List.getD_eq_getElem?_getD, List.getElem?_set, List.getD_eq_getElem?_getD]
      by_cases c : k = j / 2
      · simp [c, hi]
      · simp [c]
    have ep : posK (C.set k (r, posK C k)) (j / 2) = posK C (j / 2) := by
      unfold posK
      rw [List.getD_eq_getElem?_getD, List.getElem?_set, List.getD_eq_getElem?_getD, List.getD_eq_getElem?_getD]
      by_cases c : k = j / 2
      · subst c
        simp [hi]
      · simp [c]
    rw [er] at q0
    rw [ep] at q1
    by_cases ho : j % 2 = 0
    · have e : j / 2 * 2 = j := by omega
      rw [e] at p0 q0
      rw [q0]
      by_cases c : k * 2 = j
      · rw [if_pos c, if_pos (by omega), if_pos (by omega)]
      · rw [if_neg c, p0, if_neg (by omega)]
    · have e : j / 2 * 2 + 1 = j := by omega
      rw [e] at p1 q1
      rw [q1, if_neg (by omega), p1]
  · rw [if_neg (by omega), List.getElem?_eq_none (by omega), List.getElem?_eq_none (by omega)]
theorem pairsL_set1 (C : List (Nat × Nat)) (k p : Nat) (hk : k < C.length) : (pairsL C).set (k * 2 + 1) (.int .i64 (p : Int)) = pairsL (C.set k (rowK C k, p)) := by
  apply List.ext_getElem?
  intro j
  have hl := pairsL_len C
  have hl2 := pairsL_len (C.set k (rowK C k, p))
  rw [List.length_set] at hl2
  rw [List.getElem?_set]
  by_cases hj : j < C.length * 2
  · have hi : j / 2 < C.length := by omega
    obtain ⟨p0, p1⟩ := pairsL_get C (j / 2) hi
    obtain ⟨q0, q1⟩ := pairsL_get (C.set k (rowK C k, p)) (j / 2) (by rw [List.length_set]; exact hi)
    have er : rowK (C.set k (rowK C k, p)) (j / 2) = rowK C (j / 2) := by
      unfold rowK
      rw [List.getD_eq_getElem?_getD, List.getElem?_set, List.getD_eq_getElem?_getD, List.getD_eq_getElem?_getD]
      by_cases c : k = j / 2
      · subst c
        simp [hi]
      · simp [c]
    have ep : posK (C.set k (rowK C k, p)) (j / 2) = if k = j / 2 then p else posK C (j / 2) := by
      unfold posK
      rw [List.getD_eq_getElem?_getD, List.getElem?_set, List.getD_eq_getElem?_getD]
      by_cases c : k = j / 2
      · simp [c, hi]
      · simp [c]
    rw [er] at q0
    rw [ep] at q1
    by_cases ho : j % 2 = 0
    · have e : j / 2 * 2 = j := by omega
      rw [e] at p0 q0
      rw [q0, if_neg (by omega), p0]
    · have e : j / 2 * 2 + 1 = j := by omega
      rw [e] at p1 q1
      rw [q1]
      by_cases c : k * 2 + 1 = j
      · rw [if_pos c, if_pos (by omega), if_pos (by omega)]
      · rw [if_neg c, p1, if_neg (by omega)]
  · rw [if_neg (by omega), List.getElem?_eq_none (by omega), List.getElem?_eq_none (by omega)]
theorem wrap64_id {z : Int} (h0 : -9223372036854775808 ≤ z) (h1 : z ≤ 9223372036854775807) : wrap64 z = z := by unfold wrap64; omega
theorem own_heap {w w' : World} {B n sz : Nat} {e : TypeId} {v : Value} {xs : List Value} (h : w.ownsRow B e sz v n xs) (k : w'.heap = w.heap) : w'.ownsRow B e sz v n xs := own_same h fun b cs _ hb => by unfold Bk at hb ⊢; rw [k]; exact hb
theorem pair_self (C : List (Nat × Nat)) (k : Nat) (hk : k < C.length) : C.set k (rowK C k, posK C k) = C := by
  have e : (rowK C k, posK C k) = C[k] := by
    unfold rowK posK
    rw [List.getD_eq_getElem?_getD, List.getElem?_eq_getElem hk]
    rfl
  rw [e, List.set_getElem_self]
/-- A row (a place) where another one went from a to t. -/
def mvR (a t r : Nat) : Nat := if r = a then t else inR (outR r a) t
set_option maxRecDepth 100000 in
theorem RowInC_any (B gl n c gx z k : Nat) (C : List (Nat × Nat)) (w : World) (h : w.ownsRow B 71 2 (.slice (some ⟨gl, 0, none⟩) n c) n (pairsL C)) (hk : k < C.length) (hx : Bk w gx 3 #[.int .i64 (z : Int)]) (hC : rowK C k ≤ 1000000000000) :
    Calls Tryz.prog 63 #[.pointer (some ⟨gl, k * 2, none⟩), .pointer (some ⟨gx, 0, none⟩)] w fun e w' => e = .returned (.tuple #[]) ∧ w'.ownsRow B 71 2 (.slice (some ⟨gl, 0, none⟩) n c) n (pairsL (C.set k (inR (rowK C k) z, posK C k))) ∧ Keep (fun b => b = gl) w w' := by
  obtain ⟨p0, p1⟩ := pairsL_get C k hk
  have hn : C.length = n := by have h1 := h.1; rw [pairsL_len] at h1; omega
  have d0 := (World.ownsRow.cellAt h (k * 2) (by omega)).trans p0
  have d1 := (World.ownsRow.cellAt h (k * 2 + 1) (by omega)).trans p1
  have x0 : w.cell? ⟨gx, 0, none⟩ = some (.int .i64 (z : Int)) := (hx.cell 0).trans rfl
  obtain ⟨cur, hcur⟩ := own_bk h
  have fr := hcur.frozen (k * 2)
  have hgl := hcur.lt
  have hgx := hx.lt
  have hself := pair_self C k hk
  have hset := fun v => pairsL_set0 C k v hk
  obtain ⟨r, hr⟩ : ∃ r, rowK C k = r := ⟨_, rfl⟩
  obtain ⟨p, hp⟩ : ∃ p, posK C k = p := ⟨_, rfl⟩
  rw [hr] at d0 hself hC
  rw [hp] at d1 hself hset
  rw [hr, hp]
  
  have H := Lib.hid h
  have Hself := Lib.hid hself
  have Hset := Lib.hid hset
  clear h hk hx p0 p1 hcur hself hset hn hr hp
  by_cases hz : z ≤ r
  · have z1 : decide ((r : Int) ≥ (z : Int)) = true := decide_eq_true (by omega)
    have e1 : wrap64 ((r : Int) + 1) = ((r + 1 : Nat) : Int) := by unfold wrap64; omega
    have ho := (World.ownsRow.stored H.out (k * 2) (.int .i64 ((r + 1 : Nat) : Int))).1
    rw [Hset.out] at ho
    have Ho := Lib.hid ho
    clear ho
    go_enter Tryz.func63, Tryz.ntmps63
    go_wp2_with fail
    go_quiet (fail)
    go_wp2_with fail
    go_end0
    refine ⟨rfl, ?_, Keep.setCell (F := fun b => b = gl) ((Keep.refl _ _).drewN _) (p := ⟨gl, k * 2, none⟩) (.inl rfl) _⟩
    have e2 : inR (r) z = r + 1 := by unfold inR; rw [if_pos (by omega)]
    rw [e2]
    exact Ho.out
  · have z1 : decide ((r : Int) ≥ (z : Int)) = false := decide_eq_false (by omega)
    go_enter Tryz.func63, Tryz.ntmps63
    go_wp2_with fail
    go_quiet (fail)
    go_wp2_with fail
    go_end0
    refine ⟨rfl, ?_, (Keep.refl _ _).drewN _⟩
    have e2 : inR (r) z = r := by unfold inR; rw [if_neg (by omega)]
    rw [e2, Hself.out]
    exact H.out
set_option maxRecDepth 100000 in
theorem PosInC_any (B gl n c gx z k : Nat) (C : List (Nat × Nat)) (w : World) (h : w.ownsRow B 71 2 (.slice (some ⟨gl, 0, none⟩) n c) n (pairsL C)) (hk : k < C.length) (hx : Bk w gx 3 #[.int .i64 (z : Int)]) (hC : posK C k ≤ 1000000000000) :
    Calls Tryz.prog 64 #[.pointer (some ⟨gl, k * 2, none⟩), .pointer (some ⟨gx, 0, none⟩)] w fun e w' => e = .returned (.tuple #[]) ∧ w'.ownsRow B 71 2 (.slice (some ⟨gl, 0, none⟩) n c) n (pairsL (C.set k (rowK C k, inR (posK C k) z))) ∧ Keep (fun b => b = gl) w w' := by
  obtain ⟨p0, p1⟩ := pairsL_get C k hk
  have hn : C.length = n := by have h1 := h.1; rw [pairsL_len] at h1; omega
  have d0 := (World.ownsRow.cellAt h (k * 2) (by omega)).trans p0
  have d1 := (World.ownsRow.cellAt h (k * 2 + 1) (by omega)).trans p1
  have x0 : w.cell? ⟨gx, 0, none⟩ = some (.int .i64 (z : Int)) := (hx.cell 0).trans rfl
  obtain ⟨cur, hcur⟩ := own_bk h
  have fr := hcur.frozen (k * 2 + 1)
  have hgl := hcur.lt
  have hgx := hx.lt
  have hself := pair_self C k hk
  have hset := fun v => pairsL_set1 C k v hk
  obtain ⟨r, hr⟩ : ∃ r, rowK C k = r := ⟨_, rfl⟩
  obtain ⟨p, hp⟩ : ∃ p, posK C k = p := ⟨_, rfl⟩
  rw [hr] at d0 hself hset
  rw [hp] at d1 hself hC
  rw [hr, hp]
  
  have H := Lib.hid h
  have Hself := Lib.hid hself
  have Hset := Lib.hid hset
  clear h hk hx p0 p1 hcur hself hset hn hr hp
  by_cases hz : z ≤ p
  · have z1 : decide ((p : Int) ≥ (z : Int)) = true := decide_eq_true (by omega)
    have e1 : wrap64 ((p : Int) + 1) = ((p + 1 : Nat) : Int) := by unfold wrap64; omega
    have ho := (World.ownsRow.stored H.out (k * 2 + 1) (.int .i64 ((p + 1 : Nat) : Int))).1
    rw [Hset.out] at ho
    have Ho := Lib.hid ho
    clear ho
    go_enter Tryz.func64, Tryz.ntmps64
    go_wp2_with fail
    go_quiet (fail)
    go_wp2_with fail
    go_end0
    refine ⟨rfl, ?_, Keep.setCell (F := fun b => b = gl) ((Keep.refl _ _).drewN _) (p := ⟨gl, k * 2 + 1, none⟩) (.inl rfl) _⟩
    have e2 : inR (p) z = p + 1 := by unfold inR; rw [if_pos (by omega)]
    rw [e2]
    exact Ho.out
  · have z1 : decide ((p : Int) ≥ (z : Int)) = false := decide_eq_false (by omega)
    go_enter Tryz.func64, Tryz.ntmps64
    go_wp2_with fail
    go_quiet (fail)
    go_wp2_with fail
    go_end0
    refine ⟨rfl, ?_, (Keep.refl _ _).drewN _⟩
    have e2 : inR (p) z = p := by unfold inR; rw [if_neg (by omega)]
    rw [e2, Hself.out]
    exact H.out
set_option maxRecDepth 100000 in
set_option maxHeartbeats 1000000 in
theorem EachRowIn_any (B gp ga gx0 z0 : Nat) (vl vo vt vf : Value) (R P : Nat) (ks : List Nat) (C : List (Nat × Nat)) (tk : List Bool) (fr : List Nat) (w : World) (h : PermAt w B gp ga vl vo vt vf R P ks C tk fr) (hnd : ks.Nodup) (hl : ks.length ≤ 1000000) (hx0 : Bk w gx0 3 #[.int .i64 (z0 : Int)]) (hgx0 : ∀ b, vl.ownBlock = some b → b ≠ gx0) (hC : ∀ k, k ∈ ks → rowK C k ≤ 1000000000000 ∧ posK C k ≤ 1000000000000) :
    Calls Tryz.prog 62 #[.pointer (some ⟨gp, 0, none⟩), .func (.func 63) #[] #[.pointer (some ⟨gx0, 0, none⟩)]] w fun e w' => e = .returned (.tuple #[]) ∧ Keep (fun b => vl.ownBlock = some b) w w' ∧ ∃ C', C'.length = C.length ∧ (∀ k, k ∈ ks → (rowK C' k, posK C' k) = (inR (rowK C k) z0, posK C k)) ∧ PermAt w' B gp ga vl vo vt vf R P ks C' tk fr := by
  obtain ⟨A2, c2, hvo, _, _⟩ := own_shape h.orow
  have c2' : w.cell? ⟨gp, 2, none⟩ = some (.slice A2 ks.length c2) := (h.blk.cell 2).trans (by rw [hvo]; rfl)
  have hgp := h.blk.lt
  obtain ⟨n, hn⟩ : ∃ n, ks.length = n := ⟨_, rfl⟩
  rw [hn] at c2' hl
  have H := Lib.hid h
  have Hn := Lib.hid hn
  have Hvo := Lib.hid hvo
  have Hnd := Lib.hid hnd
  have HC := Lib.hid hC
  clear h hn hvo hnd hC
  go_enter Tryz.func62, Tryz.ntmps62
  go_wp2_with fail
  go_loopw [11] (fun i wr => ∃ (j : Nat) (Cj : List (Nat × Nat)), j ≤ n ∧ i = .int .i64 (j : Int) ∧ Cj.length = C.length ∧ (∀ k, k ∈ ks.take j → (rowK Cj k, posK Cj k) = (inR (rowK C k) z0, posK C k)) ∧ (∀ k, k ∈ ks.drop j → (rowK Cj k, posK Cj k) = (rowK C k, posK C k)) ∧ PermAt wr B gp ga vl vo vt vf R P ks Cj tk fr ∧ Keep (fun b => vl.ownBlock = some b) w wr) (fun i _ => n - (intOf i).toNat)
  case atStart => exact ⟨0, C, Nat.zero_le _, rfl, rfl, fun k hk => by simp at hk, fun k _ => rfl, H.out, Keep.refl _ _⟩
  case round =>
    obtain ⟨j, Cj, hj, rfl, hlen, hd1, hd2, hp, hk⟩ := hrel
    by_cases hlt : j < n
    · have hjl : j < ks.length := by rw [Hn.out]; exact hlt
      obtain ⟨k, hkj⟩ : ∃ k, ks[j]? = some k := ⟨_, List.getElem?_eq_getElem hjl⟩
      have hkm := List.mem_of_getElem? hkj
      have hkC : k < Cj.length := hp.lt k hkm
      have ho2 := hp.orow
      rw [Hvo.out] at ho2
      obtain ⟨g2, k2, e2, _, hg2⟩ := World.ownsRow.form ho2 (by omega)
      injection e2 with e2a _ e2c
      subst e2a e2c
      have hlr := hp.lrow
      obtain ⟨g1, k1, e1, _, hg1⟩ := World.ownsRow.form hlr (by omega)
      rw [e1] at hlr
      have d2 : wr.cell? ⟨g2, j, none⟩ = some (.int .i64 (k : Int)) := (World.ownsRow.cellAt ho2 j (by omega)).trans (by rw [List.getElem?_map, hkj]; rfl)
      have d1 : wr.cell? ⟨gp, 1, none⟩ = some (.slice (some ⟨g1, 0, none⟩) Cj.length k1) := (hp.blk.cell 1).trans (by rw [e1]; rfl)
      have hgpr := hp.blk.lt
      have hsz := hk.size
      have hkd : k ∈ ks.drop j := by
        rw [List.drop_eq_getElem_cons hjl, List.getElem_eq_getElem?_get]
        simp [hkj]
      have hCk : (rowK Cj k, posK Cj k) = (rowK C k, posK C k) := hd2 k hkd
      injection hCk with hCr hCp
      have hxr := fun (b : Nat) (e : Value.ownBlock vl = some b) => (World.ownsRow.lt hp.lrow b e).2
      obtain ⟨N, hN⟩ : ∃ N, Cj.length = N := ⟨_, rfl⟩
      rw [hN] at hlr d1 hkC
      have hxr0 := hk.bk hx0 (fun e => hgx0 _ e rfl)
      have hkI : (k : Int) < (N : Int) := by omega
      have Hp := Lib.hid hp
      have Hk := Lib.hid hk
      have Hlr := Lib.hid hlr
      have Hkj := Lib.hid hkj
      have Hd1 := Lib.hid hd1
      have Hd2 := Lib.hid hd2
      have HN := Lib.hid hN
      have Hlen := Lib.hid hlen
      have He1 := Lib.hid e1
      have HCr := Lib.hid hCr
      have HCp := Lib.hid hCp
      have Hkm := Lib.hid hkm
      clear hp hk hlr hkj hd1 hd2 hN hlen e1 hCr hCp hkm hkd ho2 hxr
      go_wp2_with fail
      refine (RowInC_any B g1 N k1 gx0 z0 k Cj wr Hlr.out (by rw [HN.out]; exact hkC) hxr0 (by rw [HCr.out]; exact (HC.out k Hkm.out).1)).mono ?_
      rintro e w1 ⟨rfl, hl1, hk1⟩
      have hC' : PermAt w1 B gp ga vl vo vt vf R P ks (Cj.set k (inR (rowK Cj k) z0, posK Cj k)) tk fr := by
        have hp := Hp.out
        have hne : ∀ b t cs, t ≠ 71 → Bk wr b t cs → b ≠ g1 := fun b t cs ht hb e => by
          subst e
          obtain ⟨cu, hcu⟩ := own_bk Hlr.out
          exact ht (bk_inj hb hcu).1
        refine ⟨hk1.bk hp.blk (hne _ _ _ (by decide) hp.blk), ?_, own_same hp.orow fun b cs _ hb => hk1.bk hb (hne _ _ _ (by decide) hb), hk1.bk hp.ar (hne _ _ _ (by decide) hp.ar), own_same hp.trow fun b cs _ hb => hk1.bk hb (hne _ _ _ (by decide) hb), own_same hp.frow fun b cs _ hb => hk1.bk hb (hne _ _ _ (by decide) hb), hp.apart, fun x hx => by rw [List.length_set]; exact hp.lt x hx, hp.lo⟩
        rw [List.length_set, HN.out, He1.out, HN.out]
        exact hl1
      have hk' : Keep (fun b => vl.ownBlock = some b) w w1 := Hk.out.trans (hk1.mono fun b _ e => by rw [He1.out, show b = g1 from e]; rfl)
      have hget : ∀ x, (rowK (Cj.set k (inR (rowK Cj k) z0, posK Cj k)) x, posK (Cj.set k (inR (rowK Cj k) z0, posK Cj k)) x) = if x = k then (inR (rowK Cj k) z0, posK Cj k) else (rowK Cj x, posK Cj x) := fun x => by
        unfold rowK posK
        rw [List.getD_eq_getElem?_getD, List.getElem?_set]
        by_cases cx : k = x
        · subst cx
          rw [if_pos rfl, if_pos rfl, if_pos (by rw [HN.out]; exact hkC)]
          rfl
        · rw [if_neg cx, if_neg (fun e => cx e.symm), List.getD_eq_getElem?_getD]
      have hrel : ∃ (j' : Nat) (Cj' : List (Nat × Nat)), j' ≤ n ∧ Value.int .i64 ((j + 1 : Nat) : Int) = .int .i64 (j' : Int) ∧ Cj'.length = C.length ∧ (∀ k, k ∈ ks.take j' → (rowK Cj' k, posK Cj' k) = (inR (rowK C k) z0, posK C k)) ∧ (∀ k, k ∈ ks.drop j' → (rowK Cj' k, posK Cj' k) = (rowK C k, posK C k)) ∧ PermAt w1 B gp ga vl vo vt vf R P ks Cj' tk fr ∧ Keep (fun b => vl.ownBlock = some b) w w1 := by
        refine ⟨j + 1, _, by omega, rfl, by rw [List.length_set]; exact Hlen.out, fun x hx => ?_, fun x hx => ?_, hC', hk'⟩
        · rw [hget]
          by_cases cx : x = k
          · subst cx
            rw [if_pos rfl, HCr.out, HCp.out]
          · rw [if_neg cx]
            refine Hd1.out x ?_
            rw [List.take_add_one, Hkj.out] at hx
            simp at hx
            rcases hx with hx | hx
            · exact hx
            · exact absurd hx cx
        · rw [hget]
          have hxk : x ≠ k := fun e => by
            subst e
            have hd : ks.drop j = x :: ks.drop (j + 1) := by
              have hjl : j < ks.length := by rw [Hn.out]; exact hlt
              rw [List.drop_eq_getElem_cons hjl]
              have h9 := Hkj.out
              rw [List.getElem?_eq_getElem hjl] at h9
              injection h9 with h9
              rw [h9]
            have hnd := (List.drop_sublist j ks).nodup Hnd.out
            rw [hd, List.nodup_cons] at hnd
            exact hnd.1 hx
          rw [if_neg hxk]
          exact Hd2.out x (List.mem_of_mem_drop (by rw [← List.drop_drop] at hx; exact hx : x ∈ (ks.drop j).drop 1))
      have Hrel := Lib.hid hrel
      clear hC' hk' hget hrel hk1 hl1 d1 d2
      go_wp2_with fail
      go_roundw
      case rel => exact Hrel.out
      case measure => simp [intOf]; omega
    · obtain rfl : j = n := by omega
      have Hp := Lib.hid hp
      have Hk := Lib.hid hk
      have Hd1 := Lib.hid hd1
      clear hp hk hd1 hd2
      go_wp2_with fail
      go_end0
      refine ⟨rfl, Hk.out, Cj, hlen, fun k hk => Hd1.out k ?_, Hp.out⟩
      rw [List.take_of_length_le (by rw [Hn.out]; exact Nat.le_refl _)]
      exact hk
set_option maxRecDepth 100000 in
set_option maxHeartbeats 1000000 in
theorem EachPosIn_any (B gp ga gx0 z0 : Nat) (vl vo vt vf : Value) (R P : Nat) (ks : List Nat) (C : List (Nat × Nat)) (tk : List Bool) (fr : List Nat) (w : World) (h : PermAt w B gp ga vl vo vt vf R P ks C tk fr) (hnd : ks.Nodup) (hl : ks.length ≤ 1000000) (hx0 : Bk w gx0 3 #[.int .i64 (z0 : Int)]) (hgx0 : ∀ b, vl.ownBlock = some b → b ≠ gx0) (hC : ∀ k, k ∈ ks → rowK C k ≤ 1000000000000 ∧ posK C k ≤ 1000000000000) :
    Calls Tryz.prog 62 #[.pointer (some ⟨gp, 0, none⟩), .func (.func 64) #[] #[.pointer (some ⟨gx0, 0, none⟩)]] w fun e w' => e = .returned (.tuple #[]) ∧ Keep (fun b => vl.ownBlock = some b) w w' ∧ ∃ C', C'.length = C.length ∧ (∀ k, k ∈ ks → (rowK C' k, posK C' k) = (rowK C k, inR (posK C k) z0)) ∧ PermAt w' B gp ga vl vo vt vf R P ks C' tk fr := by
  obtain ⟨A2, c2, hvo, _, _⟩ := own_shape h.orow
  have c2' : w.cell? ⟨gp, 2, none⟩ = some (.slice A2 ks.length c2) := (h.blk.cell 2).trans (by rw [hvo]; rfl)
  have hgp := h.blk.lt
  obtain ⟨n, hn⟩ : ∃ n, ks.length = n := ⟨_, rfl⟩
  rw [hn] at c2' hl
  have H := Lib.hid h
  have Hn := Lib.hid hn
  have Hvo := Lib.hid hvo
  have Hnd := Lib.hid hnd
  have HC := Lib.hid hC
  clear h hn hvo hnd hC
  go_enter Tryz.func62, Tryz.ntmps62
  go_wp2_with fail
  go_loopw [11] (fun i wr => ∃ (j : Nat) (Cj : List (Nat × Nat)), j ≤ n ∧ i = .int .i64 (j : Int) ∧ Cj.length = C.length ∧ (∀ k, k ∈ ks.take j → (rowK Cj k, posK Cj k) = (rowK C k, inR (posK C k) z0)) ∧ (∀ k, k ∈ ks.drop j → (rowK Cj k, posK Cj k) = (rowK C k, posK C k)) ∧ PermAt wr B gp ga vl vo vt vf R P ks Cj tk fr ∧ Keep (fun b => vl.ownBlock = some b) w wr) (fun i _ => n - (intOf i).toNat)
  case atStart => exact ⟨0, C, Nat.zero_le _, rfl, rfl, fun k hk => by simp at hk, fun k _ => rfl, H.out, Keep.refl _ _⟩
  case round =>
    obtain ⟨j, Cj, hj, rfl, hlen, hd1, hd2, hp, hk⟩ := hrel
    by_cases hlt : j < n
    · have hjl : j < ks.length := by rw [Hn.out]; exact hlt
      obtain ⟨k, hkj⟩ : ∃ k, ks[j]? = some k := ⟨_, List.getElem?_eq_getElem hjl⟩
      have hkm := List.mem_of_getElem? hkj
      have hkC : k < Cj.length := hp.lt k hkm
      have ho2 := hp.orow
      rw [Hvo.out] at ho2
      obtain ⟨g2, k2, e2, _, hg2⟩ := World.ownsRow.form ho2 (by omega)
      injection e2 with e2a _ e2c
      subst e2a e2c
      have hlr := hp.lrow
      obtain ⟨g1, k1, e1, _, hg1⟩ := World.ownsRow.form hlr (by omega)
      rw [e1] at hlr
      have d2 : wr.cell? ⟨g2, j, none⟩ = some (.int .i64 (k : Int)) := (World.ownsRow.cellAt ho2 j (by omega)).trans (by rw [List.getElem?_map, hkj]; rfl)
      have d1 : wr.cell? ⟨gp, 1, none⟩ = some (.slice (some ⟨g1, 0, none⟩) Cj.length k1) := (hp.blk.cell 1).trans (by rw [e1]; rfl)
      have hgpr := hp.blk.lt
      have hsz := hk.size
      have hkd : k ∈ ks.drop j := by
        rw [List.drop_eq_getElem_cons hjl, List.getElem_eq_getElem?_get]
        simp [hkj]
      have hCk : (rowK Cj k, posK Cj k) = (rowK C k, posK C k) := hd2 k hkd
      injection hCk with hCr hCp
      have hxr := fun (b : Nat) (e : Value.ownBlock vl = some b) => (World.ownsRow.lt hp.lrow b e).2
      obtain ⟨N, hN⟩ : ∃ N, Cj.length = N := ⟨_, rfl⟩
      rw [hN] at hlr d1 hkC
      have hxr0 := hk.bk hx0 (fun e => hgx0 _ e rfl)
      have hkI : (k : Int) < (N : Int) := by omega
      have Hp := Lib.hid hp
      have Hk := Lib.hid hk
      have Hlr := Lib.hid hlr
      have Hkj := Lib.hid hkj
      have Hd1 := Lib.hid hd1
      have Hd2 := Lib.hid hd2
      have HN := Lib.hid hN
      have Hlen := Lib.hid hlen
      have He1 := Lib.hid e1
      have HCr := Lib.hid hCr
      have HCp := Lib.hid hCp
      have Hkm := Lib.hid hkm
      clear hp hk hlr hkj hd1 hd2 hN hlen e1 hCr hCp hkm hkd ho2 hxr
      go_wp2_with fail
      refine (PosInC_any B g1 N k1 gx0 z0 k Cj wr Hlr.out (by rw [HN.out]; exact hkC) hxr0 (by rw [HCp.out]; exact (HC.out k Hkm.out).2)).mono ?_
      rintro e w1 ⟨rfl, hl1, hk1⟩
      have hC' : PermAt w1 B gp ga vl vo vt vf R P ks (Cj.set k (rowK Cj k, inR (posK Cj k) z0)) tk fr := by
        have hp := Hp.out
        have hne : ∀ b t cs, t ≠ 71 → Bk wr b t cs → b ≠ g1 := fun b t cs ht hb e => by
          subst e
          obtain ⟨cu, hcu⟩ := own_bk Hlr.out
          exact ht (bk_inj hb hcu).1
        refine ⟨hk1.bk hp.blk (hne _ _ _ (by decide) hp.blk), ?_, own_same hp.orow fun b cs _ hb => hk1.bk hb (hne _ _ _ (by decide) hb), hk1.bk hp.ar (hne _ _ _ (by decide) hp.ar), own_same hp.trow fun b cs _ hb => hk1.bk hb (hne _ _ _ (by decide) hb), own_same hp.frow fun b cs _ hb => hk1.bk hb (hne _ _ _ (by decide) hb), hp.apart, fun x hx => by rw [List.length_set]; exact hp.lt x hx, hp.lo⟩
        rw [List.length_set, HN.out, He1.out, HN.out]
        exact hl1
      have hk' : Keep (fun b => vl.ownBlock = some b) w w1 := Hk.out.trans (hk1.mono fun b _ e => by rw [He1.out, show b = g1 from e]; rfl)
      have hget : ∀ x, (rowK (Cj.set k (rowK Cj k, inR (posK Cj k) z0)) x, posK (Cj.set k (rowK Cj k, inR (posK Cj k) z0)) x) = if x = k then (rowK Cj k, inR (posK Cj k) z0) else (rowK Cj x, posK Cj x) := fun x => by
        unfold rowK posK
        rw [List.getD_eq_getElem?_getD, List.getElem?_set]
        by_cases cx : k = x
        · subst cx
          rw [if_pos rfl, if_pos rfl, if_pos (by rw [HN.out]; exact hkC)]
          rfl
        · rw [if_neg cx, if_neg (fun e => cx e.symm), List.getD_eq_getElem?_getD]
      have hrel : ∃ (j' : Nat) (Cj' : List (Nat × Nat)), j' ≤ n ∧ Value.int .i64 ((j + 1 : Nat) : Int) = .int .i64 (j' : Int) ∧ Cj'.length = C.length ∧ (∀ k, k ∈ ks.take j' → (rowK Cj' k, posK Cj' k) = (rowK C k, inR (posK C k) z0)) ∧ (∀ k, k ∈ ks.drop j' → (rowK Cj' k, posK Cj' k) = (rowK C k, posK C k)) ∧ PermAt w1 B gp ga vl vo vt vf R P ks Cj' tk fr ∧ Keep (fun b => vl.ownBlock = some b) w w1 := by
        refine ⟨j + 1, _, by omega, rfl, by rw [List.length_set]; exact Hlen.out, fun x hx => ?_, fun x hx => ?_, hC', hk'⟩
        · rw [hget]
          by_cases cx : x = k
          · subst cx
            rw [if_pos rfl, HCr.out, HCp.out]
          · rw [if_neg cx]
            refine Hd1.out x ?_
            rw [List.take_add_one, Hkj.out] at hx
            simp at hx
            rcases hx with hx | hx
            · exact hx
            · exact absurd hx cx
        · rw [hget]
          have hxk : x ≠ k := fun e => by
            subst e
            have hd : ks.drop j = x :: ks.drop (j + 1) := by
              have hjl : j < ks.length := by rw [Hn.out]; exact hlt
              rw [List.drop_eq_getElem_cons hjl]
              have h9 := Hkj.out
              rw [List.getElem?_eq_getElem hjl] at h9
              injection h9 with h9
              rw [h9]
            have hnd := (List.drop_sublist j ks).nodup Hnd.out
            rw [hd, List.nodup_cons] at hnd
            exact hnd.1 hx
          rw [if_neg hxk]
          exact Hd2.out x (List.mem_of_mem_drop (by rw [← List.drop_drop] at hx; exact hx : x ∈ (ks.drop j).drop 1))
      have Hrel := Lib.hid hrel
      clear hC' hk' hget hrel hk1 hl1 d1 d2
      go_wp2_with fail
      go_roundw
      case rel => exact Hrel.out
      case measure => simp [intOf]; omega
    · obtain rfl : j = n := by omega
      have Hp := Lib.hid hp
      have Hk := Lib.hid hk
      have Hd1 := Lib.hid hd1
      clear hp hk hd1 hd2
      go_wp2_with fail
      go_end0
      refine ⟨rfl, Hk.out, Cj, hlen, fun k hk => Hd1.out k ?_, Hp.out⟩
      rw [List.take_of_length_le (by rw [Hn.out]; exact Nat.le_refl _)]
      exact hk
end Go.Proofs.YthkkcelfgcholaaGreat
namespace Go.Proofs.YthkkcelfgcholaaGreat
open Go.RowKit
set_option linter.unusedVariables false
set_option linter.unusedSimpArgs false
/-- How a Perm lies in memory, whose blocks are F's. -/
structure PermX (w : World) (F : Nat → Prop) (gp ga : Nat) (vl vo vt vf : Value) (R P : Nat) (ks : List Nat) (C : List (Nat × Nat)) (tk : List Bool) (fr : List Nat) : Prop where
  at_ : PermAt w 0 gp ga vl vo vt vf R P ks C tk fr
  fp : F gp
  fa : F ga
  fl : OwnF F vl
  fo : OwnF F vo
  ft : OwnF F vt
  ff : OwnF F vf
  nd : ks.Nodup
  tkl : tk.length = C.length
  tkk : ∀ k, tk[k]? = some true ↔ k ∈ ks
  frn : fr.Nodup
  frk : ∀ k, k ∈ fr ↔ tk[k]? = some false
  sz : C.length ≤ 1000
/-- The pairs pr, by rising rows, of R rows and P places. -/
def PermE (w : World) (F : Nat → Prop) (gp R P : Nat) (pr : List (Nat × Nat)) : Prop :=
  (∃ ga vl vo vt vf ks C tk fr, PermX w F gp ga vl vo vt vf R P ks C tk fr ∧ pr = ks.map fun k => (rowK C k, posK C k)) ∧ pr.Pairwise (fun a b => a.1 < b.1) ∧ ∀ x ∈ pr, x.1 < R ∧ x.2 < P
theorem PermAt.vis2 {w w' : World} {B gp ga : Nat} {vl vo vt vf : Value} {R P : Nat} {ks : List Nat} {C : List (Nat × Nat)} {tk : List Bool} {fr : List Nat} (h : PermAt w B gp ga vl vo vt vf R P ks C tk fr) (k : Vis w w') : PermAt w' B gp ga vl vo vt vf R P ks C tk fr :=
  ⟨k.bk h.blk (by decide) (by decide), k.own h.lrow (by decide) (by decide), k.own h.orow (by decide) (by decide), k.bk h.ar (by decide) (by decide), k.own h.trow (by decide) (by decide), k.own h.frow (by decide) (by decide), h.apart, h.lt, h.lo⟩
section
variable {w w' : World} {F G : Nat → Prop} {gp R P : Nat} {pr : List (Nat × Nat)}
theorem PermE.vis (h : PermE w F gp R P pr) (k : Vis w w') : PermE w' F gp R P pr := by
  obtain ⟨⟨ga, vl, vo, vt, vf, ks, C, tk, fr, hx, e⟩, h2, h3⟩ := h
  exact ⟨⟨ga, vl, vo, vt, vf, ks, C, tk, fr, ⟨hx.at_.vis2 k, hx.fp, hx.fa, hx.fl, hx.fo, hx.ft, hx.ff, hx.nd, hx.tkl, hx.tkk, hx.frn, hx.frk, hx.sz⟩, e⟩, h2, h3⟩
theorem PermE.mono (h : PermE w F gp R P pr) (k : ∀ b, b < w.heap.size → F b → G b) : PermE w G gp R P pr := by
  obtain ⟨⟨ga, vl, vo, vt, vf, ks, C, tk, fr, hx, e⟩, h2, h3⟩ := h
  have a := hx.at_
  exact ⟨⟨ga, vl, vo, vt, vf, ks, C, tk, fr, ⟨a, k _ a.blk.lt hx.fp, k _ a.ar.lt hx.fa, fun b hb => k b (a.lrow.lt b hb).2 (hx.fl b hb), fun b hb => k b (a.orow.lt b hb).2 (hx.fo b hb), fun b hb => k b (a.trow.lt b hb).2 (hx.ft b hb), fun b hb => k b (a.frow.lt b hb).2 (hx.ff b hb), hx.nd, hx.tkl, hx.tkk, hx.frn, hx.frk, hx.sz⟩, e⟩, h2, h3⟩
theorem PermE.keep (h : PermE w F gp R P pr) (k : Keep G w w') (hf : ∀ b, F b → ¬ G b) : PermE w' F gp R P pr := by
  obtain ⟨⟨ga, vl, vo, vt, vf, ks, C, tk, fr, hx, e⟩, h2, h3⟩ := h
  have a := hx.at_
  refine ⟨⟨ga, vl, vo, vt, vf, ks, C, tk, fr, ⟨⟨k.bk a.blk (hf _ hx.fp), own_same a.lrow fun b cs hb hk => k.bk hk (hf _ (hx.fl b hb)), own_same a.orow fun b cs hb hk => k.bk hk (hf _ (hx.fo b hb)), k.bk a.ar (hf _ hx.fa), own_same a.trow fun b cs hb hk => k.bk hk (hf _ (hx.ft b hb)), own_same a.frow fun b cs hb hk => k.bk hk (hf _ (hx.ff b hb)), a.apart, a.lt, a.lo⟩, hx.fp, hx.fa, hx.fl, hx.fo, hx.ft, hx.ff, hx.nd, hx.tkl, hx.tkk, hx.frn, hx.frk, hx.sz⟩, e⟩, h2, h3⟩
theorem PermE.below (h : PermE w F gp R P pr) (k : Below w.heap.size w w') : PermE w' F gp R P pr := h.keep (G := fun _ => False) (Keep.of_below k) fun _ _ f => f
end
/-- The numbers of rows and of places are set. -/
theorem PermAt.set_rows {w : World} {B gp ga : Nat} {vl vo vt vf : Value} {R P : Nat} {ks : List Nat} {C : List (Nat × Nat)} {tk : List Bool} {fr : List Nat} (h : PermAt w B gp ga vl vo vt vf R P ks C tk fr) (R' : Nat) : PermAt (w.setCell ⟨gp, 3, none⟩ (.int .i64 (R' : Int))) B gp ga vl vo vt vf R' P ks C tk fr := by
  have k : Keep (fun b => b = gp) w (w.setCell ⟨gp, 3, none⟩ (.int .i64 (R' : Int))) := Keep.setCell (F := fun b => b = gp) (Keep.refl _ _) (p := ⟨gp, 3, none⟩) (.inl rfl) _
  exact ⟨h.blk.set 3 _, own_same h.lrow fun b cs _ hk => k.bk hk (Bk.ne hk h.blk (by decide)), own_same h.orow fun b cs _ hk => k.bk hk (Bk.ne hk h.blk (by decide)), k.bk h.ar (Bk.ne h.ar h.blk (by decide)), own_same h.trow fun b cs _ hk => k.bk hk (Bk.ne hk h.blk (by decide)), own_same h.frow fun b cs _ hk => k.bk hk (Bk.ne hk h.blk (by decide)), h.apart, h.lt, h.lo⟩
theorem PermAt.set_places {w : World} {B gp ga : Nat} {vl vo vt vf : Value} {R P : Nat} {ks : List Nat} {C : List (Nat × Nat)} {tk : List Bool} {fr : List Nat} (h : PermAt w B gp ga vl vo vt vf R P ks C tk fr) (P' : Nat) : PermAt (w.setCell ⟨gp, 4, none⟩ (.int .i64 (P' : Int))) B gp ga vl vo vt vf R P' ks C tk fr := by
  have k : Keep (fun b => b = gp) w (w.setCell ⟨gp, 4, none⟩ (.int .i64 (P' : Int))) := Keep.setCell (F := fun b => b = gp) (Keep.refl _ _) (p := ⟨gp, 4, none⟩) (.inl rfl) _
  exact ⟨h.blk.set 4 _, own_same h.lrow fun b cs _ hk => k.bk hk (Bk.ne hk h.blk (by decide)), own_same h.orow fun b cs _ hk => k.bk hk (Bk.ne hk h.blk (by decide)), k.bk h.ar (Bk.ne h.ar h.blk (by decide)), own_same h.trow fun b cs _ hk => k.bk hk (Bk.ne hk h.blk (by decide)), own_same h.frow fun b cs _ hk => k.bk hk (Bk.ne hk h.blk (by decide)), h.apart, h.lt, h.lo⟩
theorem pr_map {ks : List Nat} {C C' : List (Nat × Nat)} {f : Nat × Nat → Nat × Nat} (h : ∀ k, k ∈ ks → (rowK C' k, posK C' k) = f (rowK C k, posK C k)) : (ks.map fun k => (rowK C' k, posK C' k)) = (ks.map fun k => (rowK C k, posK C k)).map f := by
  rw [List.map_map]
  exact List.map_congr_left fun k hk => h k hk
theorem inR_lt {a b z : Nat} (h : a < b) : inR a z < inR b z := by
  unfold inR
  split <;> split <;> omega
theorem ks_len : ∀ {n : Nat} {ks : List Nat}, ks.Nodup → (∀ k ∈ ks, k < n) → ks.length ≤ n
  | 0, ks, _, hl => by
    cases ks with
    | nil => exact Nat.le_refl _
    | cons k ks => exact absurd (hl k (by simp)) (by omega)
  | n + 1, ks, h, hl => by
    have h1 := ks_len (n := n) (h.erase n) fun k hk => by
      have h2 := (h.mem_erase_iff).1 hk
      have := hl k h2.2
      omega
    by_cases c : n ∈ ks
    · have := List.length_erase_of_mem c
      omega
    · rw [List.erase_of_not_mem c] at h1
      omega
set_option maxRecDepth 100000 in
set_option maxHeartbeats 1000000 in
theorem PermRowIn_any (F : Nat → Prop) (gp R P z : Nat) (pr : List (Nat × Nat)) (w : World) (h : PermE w F gp R P pr) (hz : z ≤ R) (hR : R ≤ 100000) (hP : P ≤ 100000) :
    Calls Tryz.prog 28 #[.pointer (some ⟨gp, 0, none⟩), .int .i64 (z : Int)] w fun e w' => e = .returned (.int .i64 0) ∧ PermE w' F gp (R + 1) P (pr.map fun x => (inR x.1 z, x.2)) ∧ Keep F w w' := by
  obtain ⟨⟨ga, vl, vo, vt, vf, ks, C, tk, fr, hx, rfl⟩, hsort, hbd⟩ := h
  have hat := hx.at_
  have c3 : w.cell? ⟨gp, 3, none⟩ = some (.int .i64 (R : Int)) := (hat.blk.cell 3).trans rfl
  have f3 := hat.blk.frozen 3
  have hgp := hat.blk.lt
  have hzR : ¬ ((z : Int) > (R : Int)) := by omega
  have hzN : ¬ R < z := by omega
  have hz0 : decide ((z : Int) < 0) = false := by simp
  have e1 : wrap64 ((R : Int) + 1) = ((R + 1 : Nat) : Int) := by rw [wrap64_id (by omega) (by omega)]; rfl
  have HX := Lib.hid hx
  have Hsort := Lib.hid hsort
  have Hbd := Lib.hid hbd
  clear hx hat hsort hbd
  go_enter Tryz.func28, Tryz.ntmps28
  go_wp2_with fail
  go_quiet (fail)
  rename_i nq
  have c3q : ∀ q, ((w.alloc (.cells #[.int .i64 (z : Int)] 3)).drewN q).cell? ⟨gp, 3, none⟩ = some (.int .i64 (R : Int)) := fun q => (World.cell?_alloc_lt w _ ⟨gp, 3, none⟩ hgp).trans c3
  have hmf : ∀ (fn : Fn) (first cap : Array Value) (w : World), (Instr.makeFunc fn first cap).run Tryz.prog w = .ok (.func fn first cap) w := fun _ _ _ _ => rfl
  go_wp2_with fail
  have hatA := HX.out.at_.below ((Below.refl _ _).alloc (Nat.le_refl _) (.cells #[.int .i64 (z : Int)] 3))
  have hat1 : PermAt ((w.alloc (.cells #[.int .i64 (z : Int)] 3)).drewN nq) 0 gp ga vl vo vt vf R P ks C tk fr := hatA.below (below_drewN (Below.refl _ _) _)
  have hat2 := hat1.set_rows (R + 1)
  have hgx1 : Bk ((w.alloc (.cells #[.int .i64 (z : Int)] 3)).drewN nq) w.heap.size 3 #[.int .i64 (z : Int)] := Bk.new w _ _
  have hgx2 := hgx1.far (p := ⟨gp, 3, none⟩) (fun e => by have e' : w.heap.size = gp := e; omega) (.int .i64 ((R + 1 : Nat) : Int))
  have hvl : ∀ b, vl.ownBlock = some b → b ≠ w.heap.size := fun b hb e => by have := (HX.out.at_.lrow.lt b hb).2; omega
  have hC : ∀ k, k ∈ ks → rowK C k ≤ 1000000000000 ∧ posK C k ≤ 1000000000000 := fun k hk => by
    have := Hbd.out (rowK C k, posK C k) (List.mem_map.2 ⟨k, hk, rfl⟩)
    have h1 : rowK C k < R := this.1
    have h2 : posK C k < P := this.2
    omega
  have hkl := ks_len HX.out.nd HX.out.at_.lt
  refine (EachRowIn_any 0 gp ga w.heap.size z vl vo vt vf (R + 1) P ks C tk fr _ hat2 HX.out.nd (by have := HX.out.sz; omega) hgx2 hvl hC).mono ?_
  rintro e w2 ⟨rfl, hk2, C', hl', hf', hat3⟩
  have hkF : Keep F w w2 := (Keep.setCell (F := F) (((Keep.refl _ _).alloc _).drewN _) (p := ⟨gp, 3, none⟩) (.inl HX.out.fp) _).trans (hk2.mono fun b _ hb => HX.out.fl b hb)
  have hE : PermE w2 F gp (R + 1) P ((ks.map fun k => (rowK C k, posK C k)).map fun x => (inR x.1 z, x.2)) := by
    refine ⟨⟨ga, vl, vo, vt, vf, ks, C', tk, fr, ⟨hat3, HX.out.fp, HX.out.fa, HX.out.fl, HX.out.fo, HX.out.ft, HX.out.ff, HX.out.nd, by rw [hl']; exact HX.out.tkl, HX.out.tkk, HX.out.frn, HX.out.frk, by rw [hl']; exact HX.out.sz⟩, (pr_map (f := fun x => (inR x.1 z, x.2)) hf').symm⟩, ?_, fun x hx => ?_⟩
    · exact List.pairwise_map.2 (Hsort.out.imp fun {a b} hab => inR_lt hab)
    · obtain ⟨y, hy, rfl⟩ := List.mem_map.1 hx
      have := Hbd.out y hy
      have h9 : ∀ a, inR a z ≤ a + 1 := fun a => by unfold inR; split <;> omega
      have h8 := h9 y.1
      have h7 := h9 y.2
      constructor
      · show inR y.1 z < _
        omega
      · show y.2 < _
        omega
  have HE := Lib.hid hE
  have HkF := Lib.hid hkF
  clear hkF hE hat3 hf' hk2 hl' hC hvl hgx2 hgx1 hat2 hat1 hatA
  go_wp2_with fail
  go_ret
  exact ⟨rfl, HE.out, HkF.out⟩
set_option maxRecDepth 100000 in
set_option maxHeartbeats 1000000 in
theorem PermPosIn_any (F : Nat → Prop) (gp R P z : Nat) (pr : List (Nat × Nat)) (w : World) (h : PermE w F gp R P pr) (hz : z ≤ P) (hR : R ≤ 100000) (hP : P ≤ 100000) :
    Calls Tryz.prog 29 #[.pointer (some ⟨gp, 0, none⟩), .int .i64 (z : Int)] w fun e w' => e = .returned (.int .i64 0) ∧ PermE w' F gp R (P + 1) (pr.map fun x => (x.1, inR x.2 z)) ∧ Keep F w w' := by
  obtain ⟨⟨ga, vl, vo, vt, vf, ks, C, tk, fr, hx, rfl⟩, hsort, hbd⟩ := h
  have hat := hx.at_
  have c3 : w.cell? ⟨gp, 4, none⟩ = some (.int .i64 (P : Int)) := (hat.blk.cell 4).trans rfl
  have f3 := hat.blk.frozen 4
  have hgp := hat.blk.lt
  have hzR : ¬ ((z : Int) > (P : Int)) := by omega
  have hzN : ¬ P < z := by omega
  have hz0 : decide ((z : Int) < 0) = false := by simp
  have e1 : wrap64 ((P : Int) + 1) = ((P + 1 : Nat) : Int) := by rw [wrap64_id (by omega) (by omega)]; rfl
  have HX := Lib.hid hx
  have Hsort := Lib.hid hsort
  have Hbd := Lib.hid hbd
  clear hx hat hsort hbd
  go_enter Tryz.func29, Tryz.ntmps29
  go_wp2_with fail
  go_quiet (fail)
  rename_i nq
  have c3q : ∀ q, ((w.alloc (.cells #[.int .i64 (z : Int)] 3)).drewN q).cell? ⟨gp, 4, none⟩ = some (.int .i64 (P : Int)) := fun q => (World.cell?_alloc_lt w _ ⟨gp, 4, none⟩ hgp).trans c3
  have hmf : ∀ (fn : Fn) (first cap : Array Value) (w : World), (Instr.makeFunc fn first cap).run Tryz.prog w = .ok (.func fn first cap) w := fun _ _ _ _ => rfl
  go_wp2_with fail
  have hatA := HX.out.at_.below ((Below.refl _ _).alloc (Nat.le_refl _) (.cells #[.int .i64 (z : Int)] 3))
  have hat1 : PermAt ((w.alloc (.cells #[.int .i64 (z : Int)] 3)).drewN nq) 0 gp ga vl vo vt vf R P ks C tk fr := hatA.below (below_drewN (Below.refl _ _) _)
  have hat2 := hat1.set_places (P + 1)
  have hgx1 : Bk ((w.alloc (.cells #[.int .i64 (z : Int)] 3)).drewN nq) w.heap.size 3 #[.int .i64 (z : Int)] := Bk.new w _ _
  have hgx2 := hgx1.far (p := ⟨gp, 4, none⟩) (fun e => by have e' : w.heap.size = gp := e; omega) (.int .i64 ((P + 1 : Nat) : Int))
  have hvl : ∀ b, vl.ownBlock = some b → b ≠ w.heap.size := fun b hb e => by have := (HX.out.at_.lrow.lt b hb).2; omega
  have hC : ∀ k, k ∈ ks → rowK C k ≤ 1000000000000 ∧ posK C k ≤ 1000000000000 := fun k hk => by
    have := Hbd.out (rowK C k, posK C k) (List.mem_map.2 ⟨k, hk, rfl⟩)
    have h1 : rowK C k < R := this.1
    have h2 : posK C k < P := this.2
    omega
  have hkl := ks_len HX.out.nd HX.out.at_.lt
  refine (EachPosIn_any 0 gp ga w.heap.size z vl vo vt vf R (P + 1) ks C tk fr _ hat2 HX.out.nd (by have := HX.out.sz; omega) hgx2 hvl hC).mono ?_
  rintro e w2 ⟨rfl, hk2, C', hl', hf', hat3⟩
  have hkF : Keep F w w2 := (Keep.setCell (F := F) (((Keep.refl _ _).alloc _).drewN _) (p := ⟨gp, 4, none⟩) (.inl HX.out.fp) _).trans (hk2.mono fun b _ hb => HX.out.fl b hb)
  have hE : PermE w2 F gp R (P + 1) ((ks.map fun k => (rowK C k, posK C k)).map fun x => (x.1, inR x.2 z)) := by
    refine ⟨⟨ga, vl, vo, vt, vf, ks, C', tk, fr, ⟨hat3, HX.out.fp, HX.out.fa, HX.out.fl, HX.out.fo, HX.out.ft, HX.out.ff, HX.out.nd, by rw [hl']; exact HX.out.tkl, HX.out.tkk, HX.out.frn, HX.out.frk, by rw [hl']; exact HX.out.sz⟩, (pr_map (f := fun x => (x.1, inR x.2 z)) hf').symm⟩, ?_, fun x hx => ?_⟩
    · exact List.pairwise_map.2 (Hsort.out.imp fun {a b} hab => hab)
    · obtain ⟨y, hy, rfl⟩ := List.mem_map.1 hx
      have := Hbd.out y hy
      have h9 : ∀ a, inR a z ≤ a + 1 := fun a => by unfold inR; split <;> omega
      have h8 := h9 y.1
      have h7 := h9 y.2
      constructor
      · show y.1 < _
        omega
      · show inR y.2 z < _
        omega
  have HE := Lib.hid hE
  have HkF := Lib.hid hkF
  clear hkF hE hat3 hf' hk2 hl' hC hvl hgx2 hgx1 hat2 hat1 hatA
  go_wp2_with fail
  go_ret
  exact ⟨rfl, HE.out, HkF.out⟩
end Go.Proofs.YthkkcelfgcholaaGreat
namespace Go.Proofs.YthkkcelfgcholaaGreat
open Go.RowKit
set_option linter.unusedVariables false
set_option linter.unusedSimpArgs false
set_option maxRecDepth 100000 in
set_option maxHeartbeats 1000000 in
theorem RowMoveC_any (B gl n c gx0 gx1 z0 z1 k : Nat) (C : List (Nat × Nat)) (w : World) (h : w.ownsRow B 71 2 (.slice (some ⟨gl, 0, none⟩) n c) n (pairsL C)) (hk : k < C.length) (hx0 : Bk w gx0 3 #[.int .i64 (z0 : Int)]) (hx1 : Bk w gx1 3 #[.int .i64 (z1 : Int)]) (hC : rowK C k ≤ 1000000000000) :
    Calls Tryz.prog 101 #[.pointer (some ⟨gl, k * 2, none⟩), .pointer (some ⟨gx0, 0, none⟩), .pointer (some ⟨gx1, 0, none⟩)] w fun e w' => e = .returned (.tuple #[]) ∧ w'.ownsRow B 71 2 (.slice (some ⟨gl, 0, none⟩) n c) n (pairsL (C.set k (mvR z0 z1 (rowK C k), posK C k))) ∧ Keep (fun b => b = gl) w w' := by
  obtain ⟨p0, p1⟩ := pairsL_get C k hk
  have hn : C.length = n := by have h1 := h.1; rw [pairsL_len] at h1; omega
  have d0 := (World.ownsRow.cellAt h (k * 2) (by omega)).trans p0
  have x0 : w.cell? ⟨gx0, 0, none⟩ = some (.int .i64 (z0 : Int)) := (hx0.cell 0).trans rfl
  have x1 : w.cell? ⟨gx1, 0, none⟩ = some (.int .i64 (z1 : Int)) := (hx1.cell 0).trans rfl
  obtain ⟨cur, hcur⟩ := own_bk h
  have fr := hcur.frozen (k * 2)
  have hgl := hcur.lt
  have hgx0 := hx0.lt
  have hgx1 := hx1.lt
  have n0 : gx0 ≠ gl := Bk.ne hx0 hcur (by decide)
  have n1 : gx1 ≠ gl := Bk.ne hx1 hcur (by decide)
  have hself := pair_self C k hk
  have hset := fun v => pairsL_set0 C k v hk
  obtain ⟨r, hr⟩ : ∃ r, rowK C k = r := ⟨_, rfl⟩
  rw [hr] at d0 hself hC
  rw [hr]
  have H := Lib.hid h
  have Hself := Lib.hid hself
  have Hset := Lib.hid hset
  have hst : ∀ v : Nat, (w.setCell ⟨gl, k * 2, none⟩ (.int .i64 (v : Int))).ownsRow B 71 2 (.slice (some ⟨gl, 0, none⟩) n c) n (pairsL (C.set k (v, posK C k))) := fun v => by
    have := (World.ownsRow.stored H.out (k * 2) (.int .i64 (v : Int))).1
    rwa [Hset.out] at this
  have hst2 : ∀ u v : Nat, ((w.setCell ⟨gl, k * 2, none⟩ (.int .i64 (u : Int))).setCell ⟨gl, k * 2, none⟩ (.int .i64 (v : Int))).ownsRow B 71 2 (.slice (some ⟨gl, 0, none⟩) n c) n (pairsL (C.set k (v, posK C k))) := fun u v => by
    have h1 := (World.ownsRow.stored (World.ownsRow.stored H.out (k * 2) (.int .i64 (u : Int))).1 (k * 2) (.int .i64 (v : Int))).1
    rw [List.set_set, Hset.out] at h1
    exact h1
  have hkk : ∀ v : Value, Keep (fun b => b = gl) w (w.setCell ⟨gl, k * 2, none⟩ v) := fun v => Keep.setCell (F := fun b => b = gl) (Keep.refl _ _) (p := ⟨gl, k * 2, none⟩) (.inl rfl) _
  have Hst := Lib.hid hst
  have Hst2 := Lib.hid hst2
  have Hkk := Lib.hid hkk
  clear h hk hx0 hx1 p0 p1 hcur hself hset hn hr hst hst2 hkk
  have hgoal : ∀ v : Nat, mvR z0 z1 r = v → C.set k (mvR z0 z1 r, posK C k) = C.set k (v, posK C k) := fun v e => by rw [e]
  by_cases c0 : r = z0
  · subst c0
    have e9 : mvR r z1 r = z1 := by unfold mvR; rw [if_pos rfl]
    rw [e9]
    clear hgoal
    go_enter Tryz.func101, Tryz.ntmps101
    go_wp2_with fail
    go_quiet (fail)
    go_wp2_with fail
    refine bodyPost_ret (results_none rfl _ _ _) rfl ?_
    exact ⟨rfl, own_heap (Hst.out z1) rfl, (Keep.setCell (F := fun b => b = gl) ((Keep.refl _ _).drewN _) (p := ⟨gl, k * 2, none⟩) (.inl rfl) _)⟩
  · have b0 : ((r : Int) == (z0 : Int)) = false := by rw [beq_eq_false_iff_ne]; omega
    have m0 : mvR z0 z1 r = inR (outR r z0) z1 := by unfold mvR; rw [if_neg c0]
    by_cases c1 : z0 < r
    · obtain ⟨q, hq⟩ : ∃ q, r = q + 1 := ⟨r - 1, by omega⟩
      have b1 : decide ((r : Int) > (z0 : Int)) = true := decide_eq_true (by omega)
      have e1 : IntKind.i64.wrap ((r : Int) - 1) = (q : Int) := by rw [IntKind.wrap_i64]; omega
      have m1 : outR r z0 = q := by unfold outR; rw [if_pos c1]; omega
      rw [m1] at m0
      by_cases c2 : z1 ≤ q
      · have b2 : decide ((q : Int) ≥ (z1 : Int)) = true := decide_eq_true (by omega)
        have e2 : wrap64 ((q : Int) + 1) = (r : Int) := by rw [wrap64_id (by omega) (by omega)]; omega
        have e9 : mvR z0 z1 r = r := by rw [m0]; unfold inR; rw [if_pos c2]; exact hq.symm
        rw [e9]
        clear hgoal m0 m1 hC hq
        go_enter Tryz.func101, Tryz.ntmps101
        go_wp2_with fail
        go_quiet (fail)
        go_wp2_with fail
        go_quiet (fail)
        go_wp2_with fail
        go_quiet (fail)
        go_wp2_with fail
        go_end0
        exact ⟨rfl, own_heap (Hst2.out q r) rfl, (Keep.setCell (F := fun b => b = gl) (Keep.drewN (Keep.setCell (F := fun b => b = gl) ((Keep.refl _ _).drewN _) (p := ⟨gl, k * 2, none⟩) (.inl rfl) _) _) (p := ⟨gl, k * 2, none⟩) (.inl rfl) _)⟩
      · have b2 : decide ((q : Int) ≥ (z1 : Int)) = false := decide_eq_false (by omega)
        have e9 : mvR z0 z1 r = q := by rw [m0]; unfold inR; rw [if_neg c2]
        rw [e9]
        clear hgoal m0 m1 hC hq
        go_enter Tryz.func101, Tryz.ntmps101
        go_wp2_with fail
        go_quiet (fail)
        go_wp2_with fail
        go_quiet (fail)
        go_wp2_with fail
        go_quiet (fail)
        go_wp2_with fail
        go_end0
        exact ⟨rfl, own_heap (Hst.out q) rfl, Keep.drewN (Keep.setCell (F := fun b => b = gl) ((Keep.refl _ _).drewN _) (p := ⟨gl, k * 2, none⟩) (.inl rfl) _) _⟩
    · have b1 : decide ((r : Int) > (z0 : Int)) = false := decide_eq_false (by omega)
      by_cases c2 : z1 ≤ r
      · have b2 : decide ((r : Int) ≥ (z1 : Int)) = true := decide_eq_true (by omega)
        have e2 : wrap64 ((r : Int) + 1) = ((r + 1 : Nat) : Int) := by rw [wrap64_id (by omega) (by omega)]; omega
        have e9 : mvR z0 z1 r = r + 1 := by rw [m0]; unfold outR; rw [if_neg c1]; unfold inR; rw [if_pos c2]
        rw [e9]
        clear hgoal m0
        go_enter Tryz.func101, Tryz.ntmps101
        go_wp2_with fail
        go_quiet (fail)
        go_wp2_with fail
        go_quiet (fail)
        go_wp2_with fail
        go_quiet (fail)
        go_wp2_with fail
        go_end0
        exact ⟨rfl, own_heap (Hst.out (r + 1)) rfl, (Keep.setCell (F := fun b => b = gl) ((Keep.refl _ _).drewN _) (p := ⟨gl, k * 2, none⟩) (.inl rfl) _)⟩
      · have b2 : decide ((r : Int) ≥ (z1 : Int)) = false := decide_eq_false (by omega)
        have e9 : mvR z0 z1 r = r := by rw [m0]; unfold outR; rw [if_neg c1]; unfold inR; rw [if_neg c2]
        rw [e9, Hself.out]
        clear hgoal m0
        go_enter Tryz.func101, Tryz.ntmps101
        go_wp2_with fail
        go_quiet (fail)
        go_wp2_with fail
        go_quiet (fail)
        go_wp2_with fail
        go_quiet (fail)
        go_wp2_with fail
        go_end0
        exact ⟨rfl, H.out, (((Keep.refl _ _).drewN _).drewN _).drewN _⟩
set_option maxRecDepth 100000 in
set_option maxHeartbeats 1000000 in
theorem EachRowMove_any (B gp ga gx0 gx1 z0 z1 : Nat) (vl vo vt vf : Value) (R P : Nat) (ks : List Nat) (C : List (Nat × Nat)) (tk : List Bool) (fr : List Nat) (w : World) (h : PermAt w B gp ga vl vo vt vf R P ks C tk fr) (hnd : ks.Nodup) (hl : ks.length ≤ 1000000) (hx0 : Bk w gx0 3 #[.int .i64 (z0 : Int)]) (hgx0 : ∀ b, vl.ownBlock = some b → b ≠ gx0) (hx1 : Bk w gx1 3 #[.int .i64 (z1 : Int)]) (hgx1 : ∀ b, vl.ownBlock = some b → b ≠ gx1) (hC : ∀ k, k ∈ ks → rowK C k ≤ 1000000000000 ∧ posK C k ≤ 1000000000000) :
    Calls Tryz.prog 62 #[.pointer (some ⟨gp, 0, none⟩), .func (.func 101) #[] #[.pointer (some ⟨gx0, 0, none⟩), .pointer (some ⟨gx1, 0, none⟩)]] w fun e w' => e = .returned (.tuple #[]) ∧ Keep (fun b => vl.ownBlock = some b) w w' ∧ ∃ C', C'.length = C.length ∧ (∀ k, k ∈ ks → (rowK C' k, posK C' k) = (mvR z0 z1 (rowK C k), posK C k)) ∧ PermAt w' B gp ga vl vo vt vf R P ks C' tk fr := by
  obtain ⟨A2, c2, hvo, _, _⟩ := own_shape h.orow
  have c2' : w.cell? ⟨gp, 2, none⟩ = some (.slice A2 ks.length c2) := (h.blk.cell 2).trans (by rw [hvo]; rfl)
  have hgp := h.blk.lt
  obtain ⟨n, hn⟩ : ∃ n, ks.length = n := ⟨_, rfl⟩
  rw [hn] at c2' hl
  have H := Lib.hid h
  have Hn := Lib.hid hn
  have Hvo := Lib.hid hvo
  have Hnd := Lib.hid hnd
  have HC := Lib.hid hC
  clear h hn hvo hnd hC
  go_enter Tryz.func62, Tryz.ntmps62
  go_wp2_with fail
  go_loopw [11] (fun i wr => ∃ (j : Nat) (Cj : List (Nat × Nat)), j ≤ n ∧ i = .int .i64 (j : Int) ∧ Cj.length = C.length ∧ (∀ k, k ∈ ks.take j → (rowK Cj k, posK Cj k) = (mvR z0 z1 (rowK C k), posK C k)) ∧ (∀ k, k ∈ ks.drop j → (rowK Cj k, posK Cj k) = (rowK C k, posK C k)) ∧ PermAt wr B gp ga vl vo vt vf R P ks Cj tk fr ∧ Keep (fun b => vl.ownBlock = some b) w wr) (fun i _ => n - (intOf i).toNat)
  case atStart => exact ⟨0, C, Nat.zero_le _, rfl, rfl, fun k hk => by simp at hk, fun k _ => rfl, H.out, Keep.refl _ _⟩
  case round =>
    obtain ⟨j, Cj, hj, rfl, hlen, hd1, hd2, hp, hk⟩ := hrel
    by_cases hlt : j < n
    · have hjl : j < ks.length := by rw [Hn.out]; exact hlt
      obtain ⟨k, hkj⟩ : ∃ k, ks[j]? = some k := ⟨_, List.getElem?_eq_getElem hjl⟩
      have hkm := List.mem_of_getElem? hkj
      have hkC : k < Cj.length := hp.lt k hkm
      have ho2 := hp.orow
      rw [Hvo.out] at ho2
      obtain ⟨g2, k2, e2, _, hg2⟩ := World.ownsRow.form ho2 (by omega)
      injection e2 with e2a _ e2c
      subst e2a e2c
      have hlr := hp.lrow
      obtain ⟨g1, k1, e1, _, hg1⟩ := World.ownsRow.form hlr (by omega)
      rw [e1] at hlr
      have d2 : wr.cell? ⟨g2, j, none⟩ = some (.int .i64 (k : Int)) := (World.ownsRow.cellAt ho2 j (by omega)).trans (by rw [List.getElem?_map, hkj]; rfl)
      have d1 : wr.cell? ⟨gp, 1, none⟩ = some (.slice (some ⟨g1, 0, none⟩) Cj.length k1) := (hp.blk.cell 1).trans (by rw [e1]; rfl)
      have hgpr := hp.blk.lt
      have hsz := hk.size
      have hkd : k ∈ ks.drop j := by
        rw [List.drop_eq_getElem_cons hjl, List.getElem_eq_getElem?_get]
        simp [hkj]
      have hCk : (rowK Cj k, posK Cj k) = (rowK C k, posK C k) := hd2 k hkd
      injection hCk with hCr hCp
      have hxr := fun (b : Nat) (e : Value.ownBlock vl = some b) => (World.ownsRow.lt hp.lrow b e).2
      obtain ⟨N, hN⟩ : ∃ N, Cj.length = N := ⟨_, rfl⟩
      rw [hN] at hlr d1 hkC
      have hxr0 := hk.bk hx0 (fun e => hgx0 _ e rfl)
      have hxr1 := hk.bk hx1 (fun e => hgx1 _ e rfl)
      have hkI : (k : Int) < (N : Int) := by omega
      have Hp := Lib.hid hp
      have Hk := Lib.hid hk
      have Hlr := Lib.hid hlr
      have Hkj := Lib.hid hkj
      have Hd1 := Lib.hid hd1
      have Hd2 := Lib.hid hd2
      have HN := Lib.hid hN
      have Hlen := Lib.hid hlen
      have He1 := Lib.hid e1
      have HCr := Lib.hid hCr
      have HCp := Lib.hid hCp
      have Hkm := Lib.hid hkm
      clear hp hk hlr hkj hd1 hd2 hN hlen e1 hCr hCp hkm hkd ho2 hxr
      go_wp2_with fail
      refine (RowMoveC_any B g1 N k1 gx0 gx1 z0 z1 k Cj wr Hlr.out (by rw [HN.out]; exact hkC) hxr0 hxr1 (by rw [HCr.out]; exact (HC.out k Hkm.out).1)).mono ?_
      rintro e w1 ⟨rfl, hl1, hk1⟩
      have hC' : PermAt w1 B gp ga vl vo vt vf R P ks (Cj.set k (mvR z0 z1 (rowK Cj k), posK Cj k)) tk fr := by
        have hp := Hp.out
        have hne : ∀ b t cs, t ≠ 71 → Bk wr b t cs → b ≠ g1 := fun b t cs ht hb e => by
          subst e
          obtain ⟨cu, hcu⟩ := own_bk Hlr.out
          exact ht (bk_inj hb hcu).1
        refine ⟨hk1.bk hp.blk (hne _ _ _ (by decide) hp.blk), ?_, own_same hp.orow fun b cs _ hb => hk1.bk hb (hne _ _ _ (by decide) hb), hk1.bk hp.ar (hne _ _ _ (by decide) hp.ar), own_same hp.trow fun b cs _ hb => hk1.bk hb (hne _ _ _ (by decide) hb), own_same hp.frow fun b cs _ hb => hk1.bk hb (hne _ _ _ (by decide) hb), hp.apart, fun x hx => by rw [List.length_set]; exact hp.lt x hx, hp.lo⟩
        rw [List.length_set, HN.out, He1.out, HN.out]
        exact hl1
      have hk' : Keep (fun b => vl.ownBlock = some b) w w1 := Hk.out.trans (hk1.mono fun b _ e => by rw [He1.out, show b = g1 from e]; rfl)
      have hget : ∀ x, (rowK (Cj.set k (mvR z0 z1 (rowK Cj k), posK Cj k)) x, posK (Cj.set k (mvR z0 z1 (rowK Cj k), posK Cj k)) x) = if x = k then (mvR z0 z1 (rowK Cj k), posK Cj k) else (rowK Cj x, posK Cj x) := fun x => by
        unfold rowK posK
        rw [List.getD_eq_getElem?_getD, List.getElem?_set]
        by_cases cx : k = x
        · subst cx
          rw [if_pos rfl, if_pos rfl, if_pos (by rw [HN.out]; exact hkC)]
          rfl
        · rw [if_neg cx, if_neg (fun e => cx e.symm), List.getD_eq_getElem?_getD]
      have hrel : ∃ (j' : Nat) (Cj' : List (Nat × Nat)), j' ≤ n ∧ Value.int .i64 ((j + 1 : Nat) : Int) = .int .i64 (j' : Int) ∧ Cj'.length = C.length ∧ (∀ k, k ∈ ks.take j' → (rowK Cj' k, posK Cj' k) = (mvR z0 z1 (rowK C k), posK C k)) ∧ (∀ k, k ∈ ks.drop j' → (rowK Cj' k, posK Cj' k) = (rowK C k, posK C k)) ∧ PermAt w1 B gp ga vl vo vt vf R P ks Cj' tk fr ∧ Keep (fun b => vl.ownBlock = some b) w w1 := by
        refine ⟨j + 1, _, by omega, rfl, by rw [List.length_set]; exact Hlen.out, fun x hx => ?_, fun x hx => ?_, hC', hk'⟩
        · rw [hget]
          by_cases cx : x = k
          · subst cx
            rw [if_pos rfl, HCr.out, HCp.out]
          · rw [if_neg cx]
            refine Hd1.out x ?_
            rw [List.take_add_one, Hkj.out] at hx
            simp at hx
            rcases hx with hx | hx
            · exact hx
            · exact absurd hx cx
        · rw [hget]
          have hxk : x ≠ k := fun e => by
            subst e
            have hd : ks.drop j = x :: ks.drop (j + 1) := by
              have hjl : j < ks.length := by rw [Hn.out]; exact hlt
              rw [List.drop_eq_getElem_cons hjl]
              have h9 := Hkj.out
              rw [List.getElem?_eq_getElem hjl] at h9
              injection h9 with h9
              rw [h9]
            have hnd := (List.drop_sublist j ks).nodup Hnd.out
            rw [hd, List.nodup_cons] at hnd
            exact hnd.1 hx
          rw [if_neg hxk]
          exact Hd2.out x (List.mem_of_mem_drop (by rw [← List.drop_drop] at hx; exact hx : x ∈ (ks.drop j).drop 1))
      have Hrel := Lib.hid hrel
      clear hC' hk' hget hrel hk1 hl1 d1 d2
      go_wp2_with fail
      go_roundw
      case rel => exact Hrel.out
      case measure => simp [intOf]; omega
    · obtain rfl : j = n := by omega
      have Hp := Lib.hid hp
      have Hk := Lib.hid hk
      have Hd1 := Lib.hid hd1
      clear hp hk hd1 hd2
      go_wp2_with fail
      go_end0
      refine ⟨rfl, Hk.out, Cj, hlen, fun k hk => Hd1.out k ?_, Hp.out⟩
      rw [List.take_of_length_le (by rw [Hn.out]; exact Nat.le_refl _)]
      exact hk
end Go.Proofs.YthkkcelfgcholaaGreat
namespace Go.Proofs.YthkkcelfgcholaaGreat
open Go.RowKit Go.Shelf
set_option linter.unusedVariables false
set_option linter.unusedSimpArgs false
theorem setCells_bk (g : Nat) : ∀ (vs : List Value) (o : Nat) (w : World) (t : TypeId) (cs : Array Value), Bk w g t cs → ∃ cs' : Array Value, Bk (w.setCells g o vs) g t cs' ∧ cs'.size = cs.size ∧ ∀ j, j < cs.size → cs'[j]? = if o ≤ j ∧ j < o + vs.length then vs[j - o]? else cs[j]?
  | [], o, w, t, cs, h => ⟨cs, h, rfl, fun j hj => by rw [if_neg (by simp)]⟩
  | v :: vs, o, w, t, cs, h => by
    obtain ⟨cs', h1, h2, h3⟩ := setCells_bk g vs (o + 1) (w.setCell ⟨g, o, none⟩ v) t _ (h.set o v)
    refine ⟨cs', h1, by rw [h2]; simp, fun j hj => ?_⟩
    rw [h3 j (by simpa using hj)]
    by_cases c : o + 1 ≤ j ∧ j < o + 1 + vs.length
    · rw [if_pos c, if_pos (by simp; omega), show j - o = (j - (o + 1)) + 1 by omega]
      rfl
    · rw [if_neg c, Array.getElem?_setIfInBounds]
      by_cases e : o = j
      · subst e
        rw [if_pos rfl, if_pos hj, if_pos (by simp), Nat.sub_self]
        rfl
      · rw [if_neg e, if_neg (by simp; omega)]
theorem setCells_keep (g : Nat) : ∀ (vs : List Value) (o : Nat) (w0 w : World), Keep (fun b => b = g) w0 w → Keep (fun b => b = g) w0 (w.setCells g o vs)
  | [], _, _, _, h => h
  | v :: vs, o, w0, w, h => setCells_keep g vs (o + 1) w0 (w.setCell ⟨g, o, none⟩ v) (h.setCell (p := ⟨g, o, none⟩) (.inl rfl) v)
theorem setCells_keep_new {F : Nat → Prop} (g : Nat) : ∀ (vs : List Value) (o : Nat) (w0 w : World), w0.heap.size ≤ g → Keep F w0 w → Keep F w0 (w.setCells g o vs)
  | [], _, _, _, _, h => h
  | v :: vs, o, w0, w, hg, h => setCells_keep_new g vs (o + 1) w0 (w.setCell ⟨g, o, none⟩ v) hg (h.setCell (p := ⟨g, o, none⟩) (.inr hg) v)
theorem Bk.shape {w : World} {g : Nat} {t : TypeId} {cs : Array Value} (h : Bk w g t cs) : w.shape? g = some (t, cs.size) := by
  unfold Bk at h
  unfold World.shape?
  rw [h]
theorem ei_take_ext {cs : Array Value} {xs : List Value} {n : Nat} (hl : xs.length = n) (hn : n ≤ cs.size) (h : ∀ j, j < n → cs[j]? = xs[j]?) : cs.toList.take n = xs := by
  apply List.ext_getElem?
  intro j
  by_cases hj : j < n
  · rw [List.getElem?_take_of_lt hj, Array.getElem?_toList]
    exact h j hj
  · rw [List.getElem?_take_eq_none (by omega), List.getElem?_eq_none (by omega)]
theorem own_cells {w : World} {B g n c : Nat} {e : TypeId} {xs : List Value} (h : w.ownsRow B e 1 (.slice (some ⟨g, 0, none⟩) n c) n xs) (hn : 0 < n) : ∃ cs : Array Value, Bk w g e cs ∧ cs.size = c ∧ n ≤ c ∧ c ≤ maxLen ∧ B ≤ g ∧ ∀ j, j < n → cs[j]? = xs[j]? := by
  rcases h.2 with ⟨h1, h2⟩ | ⟨g', cap, cs, h1, hb, hg, hnc, hm, hsz, htk⟩
  · cases h1
  · injection h1 with h1 _ h3
    injection h1 with h1
    injection h1 with h1 _
    subst h1 h3
    refine ⟨cs, hg, by omega, hnc, hm, hb, fun j hj => ?_⟩
    rw [Nat.mul_one] at htk
    rw [← htk, List.getElem?_take_of_lt hj, Array.getElem?_toList]
def InsPost (B : Nat) (v0 : Value) (n : Nat) (xs : List Value) (w : World) (e : Ending) (w' : World) : Prop :=
  ∃ A c, e = .returned (.slice A (n + 1) c) ∧ w'.ownsRow B 3 1 (.slice A (n + 1) c) (n + 1) xs ∧ Keep (fun b => v0.ownBlock = some b) w w' ∧ ((Value.slice A (n + 1) c).ownBlock = v0.ownBlock ∨ ∃ g, (Value.slice A (n + 1) c).ownBlock = some g ∧ w.heap.size ≤ g)
theorem InsertMid_any (B : Nat) (A : Option Addr) (n c i : Nat) (ks : List Nat) (gx k : Nat) (w : World) (hown : w.ownsRow B 3 1 (.slice A n c) n (ks.map sv)) (hx : Bk w gx 3 #[sv k]) (hxg : ∀ b, (Value.slice A n c).ownBlock = some b → b ≠ gx) (hB : B ≤ w.heap.size) (hi : i < n) (hn : n ≤ 1000000) :
    Calls Tryz.prog 49 #[.slice A n c, .int .i64 (i : Int), .slice (some ⟨gx, 0, none⟩) 1 1] w (InsPost B (.slice A n c) n ((insN ks i k).map sv) w) := by
  have hl : ks.length = n := by have := hown.1; simpa using this
  obtain ⟨g, k1, e1, _, hgl⟩ := World.ownsRow.form hown (by omega)
  injection e1 with e1 _ e3
  subst e1 e3
  obtain ⟨cs, hg, hcs, hnc, hm, hBg, hcell⟩ := own_cells hown (by omega)
  have hne : gx ≠ g := fun e => hxg g rfl e.symm
  have hcs0 : ∀ j v, (ks.map sv)[j]? = some v → w.cell? ⟨g, 0 + j, none⟩ = some v := fun j v hv => by
    have hj : j < n := by
      have := (List.getElem?_eq_some_iff.1 hv).1
      simpa [hl] using this
    rw [Nat.zero_add, hg.cell, hcell j hj, hv]
  have hvs0 : ∀ j v, [sv k][j]? = some v → w.cell? ⟨gx, 0 + j, none⟩ = some v := fun j v hv => by
    rw [Nat.zero_add, hx.cell, ← hv]
    rcases j with _ | j
    · rfl
    · simp at hv
  have h1c : ∀ v ∈ ks.map sv, v.oneCell' = true := fun v hv => by
    obtain ⟨a, _, rfl⟩ := List.mem_map.1 hv
    rfl
  have h1v : ∀ v ∈ [sv k], v.oneCell' = true := fun v hv => by
    rw [List.mem_singleton] at hv
    subst hv
    rfl
  have hins : ∀ j, j < n + 1 → ((insN ks i k).map sv)[j]? = if j < i then (ks.map sv)[j]? else if j = i then some (sv k) else (ks.map sv)[j - 1]? := fun j hj => by
    rw [insN_map, insN_get _ _ (by rw [List.length_map]; omega)]
  have hil : ((insN ks i k).map sv).length = n + 1 := by rw [List.length_map, insN_len _ _ (by omega), hl]
  by_cases hroom : n + 1 ≤ c
  · have hcell' : ∀ j, j < n + 1 → w.cell? ⟨g, 0 + j, none⟩ = some (cs.getD j (.bool false)) := fun j hj => by
      rw [Nat.zero_add, hg.cell, Array.getElem?_eq_getElem (by omega)]
      congr 1
      rw [Array.getD_eq_getD_getElem?, Array.getElem?_eq_getElem (by omega)]
      rfl
    have hcall := Any2.slices_Insert_int_shift shIns g 0 n c i gx 0 1 1 (ks.map sv) [sv k] w hi (by decide) hroom (by unfold maxLen at hm; omega) hne (by simpa using hl) rfl hcs0 (fun j hj => by rw [hcell' j hj]; rfl) (fun j hj => by rw [Nat.zero_add]; exact hg.frozen j) hvs0 h1c h1v 3 3 1 cs.size (hx.shape) (hg.shape) (by omega) (hx.frozen 0) (hx.frozen 1)
    refine hcall.mono ?_
    rintro e w' ⟨rfl, rfl⟩
    obtain ⟨cs1, p1, p2, p3⟩ := setCells_bk g ((ks.map sv).drop i) (0 + (i + 1)) w.drew _ _ hg.drew
    obtain ⟨cs2, q1, q2, q3⟩ := setCells_bk g [sv k] (0 + i) _ _ _ p1
    refine ⟨_, c, rfl, ⟨by rw [hil, Nat.mul_one], .inr ⟨g, c, cs2, rfl, hBg, q1, hroom, hm, by omega, ?_⟩⟩, (setCells_keep g _ _ w _ (setCells_keep g _ _ w _ (Keep.refl _ w).drew)).mono fun b _ e => by rw [show b = g from e]; rfl, .inl rfl⟩
    rw [Nat.mul_one]
    refine ei_take_ext hil (by omega) fun j hj => ?_
    rw [hins j hj, q3 j (by omega), p3 j (by omega)]
    simp only [List.length_cons, List.length_nil, List.length_drop, List.length_map, hl]
    by_cases c1 : j < i
    · rw [if_neg (by omega), if_neg (by omega), if_pos c1, hcell j (by omega)]
    · by_cases c2 : j = i
      · subst c2
        rw [if_pos (by omega), if_neg (by omega), if_pos rfl]
        simp
      · rw [if_neg (by omega), if_pos (by omega), if_neg c1, if_neg c2, List.getElem?_drop]
        congr 1
        omega
  · have hcall := Any2.slices_Insert_int_grow shIns g 0 n c i gx 0 1 1 (ks.map sv) [sv k] w hi (by decide) hnc (by omega) (by omega) (by simpa using hl) rfl hcs0 hvs0 h1c h1v
    refine hcall.mono ?_
    rintro e w' ⟨rfl, rfl⟩
    obtain ⟨N, hN⟩ : ∃ N, grownCap w (n + 1) c 3 = N := ⟨_, rfl⟩
    have hN1 : n + 1 ≤ N := by rw [← hN]; exact grownCap_ge _ _ _ _
    have hN2 : N ≤ maxLen := by rw [← hN]; exact grownCap_le_maxLen _ _ _ _ (by unfold maxLen; omega)
    show InsPost _ _ _ _ _ (.returned (.slice _ _ (grownCap w (n + 1) c 3))) _
    rw [hN]
    have hz : ∀ q, (Builtin.zeroCells (Value.int .i64 0).cells q).size = q := fun q => by simp [Builtin.zeroCells, Value.cells]
    obtain ⟨C0, hC0⟩ : ∃ C0, ((ks.map sv).take i).toArray ++ Builtin.zeroCells (Value.int .i64 0).cells (n + 1 - i) ++ Builtin.zeroCells (Value.int .i64 0).cells (N - (n + 1)) = C0 := ⟨_, rfl⟩
    have hC0s : C0.size = N := by
      rw [← hC0, Array.size_append, Array.size_append, hz, hz]
      simp [hl]
      omega
    have hC0g : ∀ j, j < i → C0[j]? = (ks.map sv)[j]? := fun j hj => by
      have hs : (((ks.map sv).take i).toArray).size = i := by simp [hl]; omega
      rw [← hC0, Array.append_assoc, Array.getElem?_append_left (by omega), List.getElem?_toArray, List.getElem?_take_of_lt hj]
    have hb0 : Bk (w.alloc (.cells C0 3)) w.heap.size 3 C0 := Bk.new _ _ _
    have hcs := hC0
    show InsPost _ _ _ _ _ _ ((((w.alloc (.cells (((ks.map sv).take i).toArray ++ Builtin.zeroCells (Value.int .i64 0).cells (n + 1 - i) ++ Builtin.zeroCells (Value.int .i64 0).cells (grownCap w (n + 1) c 3 - (n + 1))) 3)).drew.setCells w.heap.size i [sv k]).drew).setCells w.heap.size (i + 1) ((ks.map sv).drop i))
    rw [hN, hC0]
    obtain ⟨cs1, p1, p2, p3⟩ := setCells_bk w.heap.size [sv k] i _ _ _ hb0.drew
    obtain ⟨cs2, q1, q2, q3⟩ := setCells_bk w.heap.size ((ks.map sv).drop i) (i + 1) _ _ _ p1.drew
    refine ⟨_, N, rfl, ⟨by rw [hil, Nat.mul_one], .inr ⟨w.heap.size, N, cs2, rfl, hB, q1, hN1, hN2, by omega, ?_⟩⟩, setCells_keep_new _ _ _ w _ (Nat.le_refl _) (setCells_keep_new _ _ _ w _ (Nat.le_refl _) ((Keep.refl _ w).alloc _).drew).drew, .inr ⟨_, rfl, Nat.le_refl _⟩⟩
    rw [Nat.mul_one]
    refine ei_take_ext hil (by omega) fun j hj => ?_
    rw [hins j hj, q3 j (by omega), p3 j (by omega)]
    simp only [List.length_cons, List.length_nil, List.length_drop, List.length_map, hl]
    by_cases c1 : j < i
    · rw [if_neg (by omega), if_neg (by omega), if_pos c1, hC0g j c1]
    · by_cases c2 : j = i
      · subst c2
        rw [if_neg (by omega), if_pos (by omega), if_neg c1, if_pos rfl]
        simp
      · rw [if_pos (by omega), if_neg c1, if_neg c2, List.getElem?_drop]
        congr 1
        omega
/-- slices.Insert of one number anywhere. -/
theorem InsertAny_any (B : Nat) (A : Option Addr) (n c i : Nat) (ks : List Nat) (gx k : Nat) (w : World) (hown : w.ownsRow B 3 1 (.slice A n c) n (ks.map sv)) (hx : Bk w gx 3 #[sv k]) (hxg : ∀ b, (Value.slice A n c).ownBlock = some b → b ≠ gx) (hB : B ≤ w.heap.size) (hi : i ≤ n) (hn : n ≤ 1000000) :
    Calls Tryz.prog 49 #[.slice A n c, .int .i64 (i : Int), .slice (some ⟨gx, 0, none⟩) 1 1] w (InsPost B (.slice A n c) n ((insN ks i k).map sv) w) := by
  by_cases h : i < n
  · exact InsertMid_any B A n c i ks gx k w hown hx hxg hB h hn
  · obtain rfl : i = n := by omega
    have hl : ks.length = i := by have := hown.1; simpa using this
    have hr : Rd w w.heap.size 1 (some ⟨gx, 0, none⟩) 1 [sv k] := by
      refine ⟨rfl, fun _ => ⟨gx, 0, rfl, hx.lt, fun j u hu => ?_⟩⟩
      rcases j with _ | j
      · injection hu with hu
        subst hu
        exact (hx.cell 0).trans rfl
      · simp at hu
    refine (InsertEnd_any B A i c (ks.map sv) (some ⟨gx, 0, none⟩) 1 k w hown hr hB hn).mono ?_
    rintro e w' ⟨v, rfl, ho, hg, hv⟩
    have e1 : (insN ks i k).map sv = ks.map sv ++ [sv k] := by
      unfold insN
      rw [List.take_of_length_le (by omega), List.drop_of_length_le (by omega), List.map_append]
      rfl
    obtain ⟨A', c', rfl, _⟩ := own_shape ho
    refine ⟨A', c', rfl, by rw [e1]; exact ho, ⟨hg.os, hg.tape, hg.output, hg.size, fun b hb hne => hg.block b hb fun e => hne e.symm⟩, ?_⟩
    rcases hv with hv | hv
    · exact .inl hv
    · exact .inr ⟨_, hv, Nat.le_refl _⟩
end Go.Proofs.YthkkcelfgcholaaGreat
namespace Go.Proofs.YthkkcelfgcholaaGreat
open Go.RowKit Go.Shelf
open Go.Sort (Holds PermIn SortedIn SWO heap_grow_old)
set_option linter.unusedVariables false
set_option linter.unusedSimpArgs false
theorem sort_own {w : World} {m base g cap n k : Nat} {os : Array Obj} {cur : Array Value} (d' : Array (Fin (m + 1))) (hd : d'.size = n) (hb : Bk w g 3 cur) (hg : base ≤ g) (h1 : n ≤ cap) (h2 : cap ≤ maxLen) (h3 : cur.size = cap) :
    (sortWorld (encF m) w g 0 k d' os).ownsRow base 3 1 (.slice (some ⟨g, 0, none⟩) n cap) n ((d'.toList.map fun x => x.val).map sv) := by
  have hgl := hb.lt
  have hh : (sortWorld (encF m) w g 0 k d' os).heap[g]? = some (.cells (Go.Sort.putCells (encF m) 0 d' cur) 3 (0, 0)) := by
    unfold sortWorld
    rw [heap_grow_old _ _ (by show g < (w.heap.modify g _).size; simpa using hgl)]
    have hb' : w.heap[g]? = some (.cells cur 3 (0, 0)) := hb
    simp [Go.Sort.putRow, Go.Sort.mapBlock, Go.Sort.ahead, Array.getElem?_modify, hb', Go.Sort.onCells]
  refine ⟨by simp [hd], .inr ⟨g, cap, _, rfl, hg, hh, h1, h2, by simp [Go.Sort.putCells, h3], ?_⟩⟩
  rw [Nat.mul_one]
  refine ei_take_ext (by simp [hd]) (by simp [Go.Sort.putCells]; omega) fun j hj => ?_
  have hjc : j < cur.size := by omega
  have hjd : j < d'.size := by omega
  simp [Go.Sort.putCells, Array.getElem?_mapIdx, hjc, hjd, encF, sv, getB]
theorem ordA_vals {c : Nat} {ks : List Nat} (h : ∀ k ∈ ks, k < c + 1) : (ordA c ks).toList.map (fun x => x.val) = ks := by
  unfold ordA
  rw [List.map_map]
  conv => rhs; rw [← List.map_id ks]
  exact List.map_congr_left fun k hk => Nat.mod_eq_of_lt (h k hk)
/-- The comparison of two numbers by what f says of them. -/
def cfK (c : Nat) (f : Nat → Nat) (x y : Fin (c + 1)) : Int := Lib.compareInt ((f x.val : Nat) : Int) ((f y.val : Nat) : Int)
theorem lt_cfK (c : Nat) (f : Nat → Nat) (x y : Fin (c + 1)) : ltOf (cfK c f) x y = decide (f x.val < f y.val) := by
  unfold ltOf cfK
  rw [decide_eq_decide, cmp_neg]
  omega
theorem swo_cfK (c : Nat) (f : Nat → Nat) : SWO (ltOf (cfK c f)) where
  irrefl x := by rw [lt_cfK]; simp
  trans x y z h1 h2 := by
    rw [lt_cfK, decide_eq_true_eq] at *
    omega
  ntrans x y z h1 h2 := by
    rw [lt_cfK, decide_eq_false_iff_not] at *
    omega
/-- Behind the sort: another order of the same numbers, by rising f. -/
theorem sorted_vals {c : Nat} {ks : List Nat} {f : Nat → Nat} {d' : Array (Fin (c + 1))} (h : ∀ k ∈ ks, k < c + 1) (hp : PermIn 0 (ordA c ks).size (ordA c ks) d') (hs : SortedIn (ltOf (cfK c f)) 0 (ordA c ks).size d') (hnd : ks.Nodup) (hf : ∀ x ∈ ks, ∀ y ∈ ks, f x = f y → x = y) :
    (d'.toList.map fun x => x.val).Perm ks ∧ (d'.toList.map fun x => x.val).Pairwise (fun a b => f a < f b) := by
  have hperm : (d'.toList.map fun x => x.val).Perm ks := by
    have := (perm_of_in hp).map (fun x : Fin (c + 1) => x.val)
    rwa [ordA_vals h] at this
  refine ⟨hperm, ?_⟩
  have hnd' : (d'.toList.map fun x => x.val).Nodup := hperm.nodup_iff.2 hnd
  rw [List.pairwise_iff_getElem]
  intro i j hi hj hij
  have hi' : i < d'.size := by simpa using hi
  have hj' : j < d'.size := by simpa using hj
  have h1 := hs i j (Nat.zero_le _) hij (by rw [← hp.1]; exact hj')
  rw [lt_cfK, decide_eq_false_iff_not, getB _ _ hi', getB _ _ hj'] at h1
  have e1 : (d'.toList.map fun x => x.val)[i] = d'[i].val := by simp
  have e2 : (d'.toList.map fun x => x.val)[j] = d'[j].val := by simp
  have hne : (d'.toList.map fun x => x.val)[i] ≠ (d'.toList.map fun x => x.val)[j] := List.pairwise_iff_getElem.1 hnd' i j hi hj hij
  have m1 : d'[i].val ∈ ks := hperm.subset (by rw [← e1]; exact List.getElem_mem hi)
  have m2 : d'[j].val ∈ ks := hperm.subset (by rw [← e2]; exact List.getElem_mem hj)
  rw [e1, e2] at hne ⊢
  have hne2 : f d'[i].val ≠ f d'[j].val := fun e => hne (hf _ m1 _ m2 e)
  omega
end Go.Proofs.YthkkcelfgcholaaGreat
