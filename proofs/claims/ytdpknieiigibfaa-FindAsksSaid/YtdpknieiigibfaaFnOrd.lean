/- The walks of the two closures of sorted.Rows. Conditions: at most 1000 symbols, numbers up to 1000. -/
import Derived.Test.YtdpknieiigibfaaFnSuf
import Derived.BigQuiet
namespace Go.Proofs.Ytdpknieiigibfaa
open Go.RowKit
set_option linter.unusedVariables false
set_option linter.unusedSimpArgs false
/-- What the closures read: the width, the length, the ranks, the first closure. -/
structure OrdAt (W : World) (gw gn gr : Nat) (w n : Nat) (A : Option Addr) (c : Nat) (R : List Nat) : Prop where
  wide : W.cell? ⟨gw, 0, none⟩ = some (.int .i64 (w : Int))
  len : W.cell? ⟨gn, 0, none⟩ = some (.int .i64 (n : Int))
  rank : W.cell? ⟨gr, 0, none⟩ = some (.slice A n c)
  rd : Rd W W.heap.size 1 A n (R.map sv)
theorem OrdAt.drewN {W : World} {gw gn gr w n c : Nat} {A : Option Addr} {R : List Nat} (h : OrdAt W gw gn gr w n A c R) (q : Nat) : OrdAt (W.drewN q) gw gn gr w n A c R := ⟨h.wide, h.len, h.rank, h.rd⟩
theorem OrdAt.at {W : World} {gw gn gr w n c : Nat} {A : Option Addr} {R : List Nat} (h : OrdAt W gw gn gr w n A c R) {i : Nat} (hi : i < n) : ∃ (b off x : Nat), A = some ⟨b, off, none⟩ ∧ R[i]? = some x ∧ W.cell? ⟨b, off + i, none⟩ = some (.int .i64 (x : Int)) := by
  obtain ⟨b, off, u, rfl, hbl, hu, hc⟩ := h.rd.get hi
  rw [List.getElem?_map] at hu
  obtain ⟨x, hx, rfl⟩ := Option.map_eq_some_iff.1 hu
  exact ⟨b, off, x, rfl, hx, hc⟩
set_option maxRecDepth 100000 in
theorem Rows1_any (gw gn gr w n c : Nat) (A : Option Addr) (R : List Nat) (i : Nat) (W : World) (h : OrdAt W gw gn gr w n A c R) (hw : w ≤ 1000) (hn : n ≤ 1000) (hi : i < n) :
    Calls Try.prog 33 #[.int .i64 (i : Int), .pointer (some ⟨gw, 0, none⟩), .pointer (some ⟨gn, 0, none⟩), .pointer (some ⟨gr, 0, none⟩)] W fun e w' => e = .returned (.int .i64 (aN R (i + w))) ∧ ∃ q, w' = W.drewN q := by
  have hRl : R.length = n := by simpa using h.rd.1
  have c0 := h.wide
  have c1 := h.len
  have c2 := h.rank
  by_cases hlt : i + w < n
  · have hltI : (i : Int) + (w : Int) < (n : Int) := by omega
    obtain ⟨b, off, x, rfl, hx, hc⟩ := h.at hlt
    have hfin := aN_some hx
    have HF := Lib.hid hfin
    clear hx h hfin
    go_enter Try.func33, Try.ntmps33
    go_wp2
    go_ret
    exact ⟨by rw [HF.out]; first | rfl | simp_all, 0, rfl⟩
  · have hltI : ¬ ((i : Int) + (w : Int) < (n : Int)) := by omega
    have hfin := aN_ge (l := R) (p := i + w) (by omega)
    have HF := Lib.hid hfin
    clear h hfin
    go_enter Try.func33, Try.ntmps33
    go_wp2
    go_ret
    exact ⟨by rw [HF.out]; rfl, 0, rfl⟩
set_option maxRecDepth 100000 in
set_option maxHeartbeats 1000000 in
theorem Rows2_any (gw gn gr gb w n c : Nat) (A : Option Addr) (R : List Nat) (x y : Nat) (W : World) (h : OrdAt W gw gn gr w n A c R) (hb : W.cell? ⟨gb, 0, none⟩ = some (.func (.func 33) #[] #[.pointer (some ⟨gw, 0, none⟩), .pointer (some ⟨gn, 0, none⟩), .pointer (some ⟨gr, 0, none⟩)])) (hw : w ≤ 1000) (hn : n ≤ 1000) (hR : ∀ r ∈ R, r ≤ 1000) (hx : x < n) (hy : y < n) :
    Calls Try.prog 34 #[.int .i64 (x : Int), .int .i64 (y : Int), .pointer (some ⟨gr, 0, none⟩), .pointer (some ⟨gb, 0, none⟩)] W fun e w' => e = .returned (.int .i64 (ordV (aN R) w x y)) ∧ ∃ q, w' = W.drewN q := by
  have c2 := h.rank
  have H := Lib.hid h
  obtain ⟨b, off, p, hA, hp, hcp⟩ := h.at hx
  obtain ⟨b', off', q, hA', hq, hcq⟩ := h.at hy
  rw [hA] at hA'
  injection hA' with hA'
  injection hA' with e1 e2
  subst e1 e2
  have hp1 := hR p (List.mem_of_getElem? hp)
  have hq1 := hR q (List.mem_of_getElem? hq)
  have ep := aN_some hp
  have eq := aN_some hq
  have bound : ∀ i, -1 ≤ aN R i ∧ aN R i ≤ 1000 := by
    intro i
    unfold aN
    split
    · next z hz =>
      have := hR z (List.mem_of_getElem? hz)
      omega
    · omega
  have b1 := bound (x + w)
  have b2 := bound (y + w)
  have hov : ordV (aN R) w x y = if (p : Int) ≠ (q : Int) then (p : Int) - (q : Int) else aN R (x + w) - aN R (y + w) := by
    unfold ordV
    rw [ep, eq]
  obtain ⟨u, hu⟩ : ∃ u, aN R (x + w) = u := ⟨_, rfl⟩
  obtain ⟨v, hv⟩ : ∃ v, aN R (y + w) = v := ⟨_, rfl⟩
  rw [hu, hv] at hov
  rw [hu] at b1
  rw [hv] at b2
  rw [hov]
  subst hA
  have Hu := Lib.hid hu
  have Hv := Lib.hid hv
  clear h hp hq ep eq bound hov hu hv hR
  by_cases hpq : p = q
  · subst hpq
    rw [if_neg (by simp)]
    go_enter Try.func34, Try.ntmps34
    go_wp2
    go_quiet (fail)
    go_wp2
    have k1 : ∀ m : Nat, Calls Try.prog 33 #[.int .i64 (x : Int), .pointer (some ⟨gw, 0, none⟩), .pointer (some ⟨gn, 0, none⟩), .pointer (some ⟨gr, 0, none⟩)] (W.drewN (nq + m)) fun e w'' => e = .returned (.int .i64 u) ∧ ∃ n, w'' = W.drewN (nq + n) := fun m => by
      have h := Rows1_any gw gn gr w n c _ R x (W.drewN (nq + m)) (H.out.drewN _) hw hn hx
      rw [Hu.out] at h
      exact h.mono fun _ _ ⟨he, q, hq⟩ => ⟨he, m + q, by rw [hq, World.drewN_drewN, Nat.add_assoc]⟩
    have k2 : ∀ m : Nat, Calls Try.prog 33 #[.int .i64 (y : Int), .pointer (some ⟨gw, 0, none⟩), .pointer (some ⟨gn, 0, none⟩), .pointer (some ⟨gr, 0, none⟩)] (W.drewN (nq + m)) fun e w'' => e = .returned (.int .i64 v) ∧ ∃ n, w'' = W.drewN (nq + n) := fun m => by
      have h := Rows1_any gw gn gr w n c _ R y (W.drewN (nq + m)) (H.out.drewN _) hw hn hy
      rw [Hv.out] at h
      exact h.mono fun _ _ ⟨he, q, hq⟩ => ⟨he, m + q, by rw [hq, World.drewN_drewN, Nat.add_assoc]⟩
    have h64 : IntKind.i64.wrap (u - v) = u - v := by rw [IntKind.wrap_i64]; omega
    go_quiet ((first | (with_reducible exact k1 _) | (with_reducible exact k2 _)))
    go_wp2
    go_ret
    exact ⟨ret_i64 (by first | omega | rfl), _, World.drewN_drewN _ _ _⟩
  · have hpI : ¬ ((p : Int) = (q : Int)) := by omega
    rw [if_pos hpI]
    go_enter Try.func34, Try.ntmps34
    go_wp2
    go_quiet (fail)
    go_wp2
    go_quiet (fail)
    go_wp2
    go_ret
    exact ⟨ret_i64 (by omega), _, World.drewN_drewN _ _ _⟩
end Go.Proofs.Ytdpknieiigibfaa
