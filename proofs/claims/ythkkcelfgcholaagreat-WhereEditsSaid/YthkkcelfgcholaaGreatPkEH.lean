/- The walks of live's add and fill: behind an edit no samples are too far apart. Conditions: at most 127 bytes; a rate from 1 to 64. Plain laws for an insert and a delete of a byte: the samples' gaps behind it, the symbols (plain Lean). No conditions. A text that may be edited (LiveE); the walk of live's Insert. Conditions: at most 126 bytes ahead; a rate from 1 to 64. The walks of walk's of and New, of live's New: what they make owns its blocks (WalkE, LiveE). Conditions: at most 127 bytes, a rate from 1 to 64. -/
import Derived.Test.YthkkcelfgcholaaGreatPkEG
import Derived.Test.YthkkcelfgcholaaGreatPkI
import Derived.Test.YthkkcelfgcholaaGreatPkEC
import Derived.Test.YthkkcelfgcholaaGreatPkL
namespace Go.Proofs.YthkkcelfgcholaaGreat
open Go.RowKit Go.Shelf
set_option linter.unusedVariables false
set_option linter.unusedSimpArgs false
theorem least_ex (l : List (Nat × Nat)) (pos : Nat) : ∃ z, LeastOk l pos z := by
  have key : ∀ n, ∃ z, LeastOk (l.take n) pos z := by
    intro n
    induction n with
    | zero => exact ⟨-1, .inl ⟨rfl, fun x hx => by simp at hx⟩⟩
    | succ n ih =>
      obtain ⟨z, hz⟩ := ih
      rw [List.take_add_one]
      cases h : l[n]? with
      | none => exact ⟨z, by simpa using hz⟩
      | some x => exact ⟨_, least_snoc hz x.1 x.2⟩
  obtain ⟨z, hz⟩ := key l.length
  rw [List.take_length] at hz
  exact ⟨z, hz⟩
theorem least_un {l : List (Nat × Nat)} {pos : Nat} {z z' : Int} (h : LeastOk l pos z) (h' : LeastOk l pos z') : z = z' := by
  rcases h with ⟨rfl, h1⟩ | ⟨x, hx, rfl, h1, h2⟩
  · rcases h' with ⟨rfl, _⟩ | ⟨y, hy, rfl, h3, _⟩
    · rfl
    · have := h1 y hy
      omega
  · rcases h' with ⟨rfl, h3⟩ | ⟨y, hy, rfl, h3, h4⟩
    · have := h3 x hx
      omega
    · have := h2 y hy h3
      have := h4 x hx h1
      omega
theorem PermNextZ_any (gp R P : Nat) (C : List (Nat × Nat)) (pos : Nat) (z : Int) (w : World) (h : PermR w gp R P C) (hz : LeastOk C pos z) :
    Calls Tryz.prog 51 #[.pointer (some ⟨gp, 0, none⟩), .int .i64 (pos : Int)] w fun e w' => e = .returned (.int .i64 z) ∧ Below w.heap.size w w' := by
  refine (PermNextG_any gp R P C pos w h).mono ?_
  rintro e w' ⟨z', rfl, hz', hb⟩
  exact ⟨by rw [least_un hz hz'], hb⟩
theorem PermE.len {w : World} {F : Nat → Prop} {gp R P : Nat} {pr : List (Nat × Nat)} (h : PermE w F gp R P pr) : pr.length ≤ R := by
  have h1 : (pr.map fun x => x.1).Nodup := by
    rw [List.Nodup, List.pairwise_map]
    exact h.2.1.imp fun {a b} hab => Nat.ne_of_lt hab
  have h2 := ks_len (n := R) h1 fun k hk => by
    obtain ⟨x, hx, rfl⟩ := List.mem_map.1 hk
    exact (h.2.2 x hx).1
  simpa using h2
/-- The places that have a pair. -/
def Smp (pr : List (Nat × Nat)) (p : Nat) : Prop := ∃ x ∈ pr, x.2 = p
/-- As fill goes on: what is fine up to q. -/
structure FG (S : Nat → Prop) (r N at_ : Nat) (q : Int) : Prop where
  zero : S 0
  le : ∀ s, S s → s ≤ N
  at_q : q = -1 ∨ q = ((N + 1 : Nat) : Int) ∨ ∃ s : Nat, S s ∧ q = (s : Int)
  fine : ∀ s : Nat, S s → ((s : Int) < q ∨ at_ ≤ s) → s + r ≤ N → ∃ s', S s' ∧ s < s' ∧ s' ≤ s + r
  gap2 : ∀ s : Nat, S s → s + 2 * r ≤ N → ∃ s', S s' ∧ s < s' ∧ s' ≤ s + 2 * r
/-- No window of the rate's length is without a pair. -/
def GapOk (S : Nat → Prop) (r N : Nat) : Prop := ∀ s : Nat, S s → s + r ≤ N → ∃ s', S s' ∧ s < s' ∧ s' ≤ s + r
/-- Ahead of fill: what an edit leaves, with place 0 besides. -/
structure PreGap (S : Nat → Prop) (r N at_ : Nat) : Prop where
  le : ∀ s, S s → s ≤ N
  fine : ∀ s : Nat, (S s ∨ s = 0) → (s + r < at_ ∨ at_ ≤ s) → s + r ≤ N → ∃ s', S s' ∧ s < s' ∧ s' ≤ s + r
  gap2 : ∀ s : Nat, (S s ∨ s = 0) → s + 2 * r ≤ N → ∃ s', S s' ∧ s < s' ∧ s' ≤ s + 2 * r
theorem FG.congr {S S' : Nat → Prop} {r N at_ : Nat} {q : Int} (h : FG S r N at_ q) (e : ∀ p, S' p ↔ S p) : FG S' r N at_ q := by
  have : S' = S := funext fun p => propext (e p)
  rw [this]
  exact h
theorem fill_start {S S0 : Nat → Prop} {r N at_ : Nat} {z : Int} (h : PreGap S r N at_) (h0 : ∀ p, S0 p ↔ S p ∨ p = 0) (hr : 1 ≤ r) (hz : (z = -1 ∧ ∀ s, S0 s → s < at_ - 2 * r) ∨ ∃ x : Nat, S0 x ∧ z = (x : Int) ∧ at_ - 2 * r ≤ x ∧ ∀ y, S0 y → at_ - 2 * r ≤ y → x ≤ y) : FG S0 r N at_ z := by
  refine ⟨(h0 0).2 (.inr rfl), fun s hs => ?_, ?_, fun s hs hc hN => ?_, fun s hs hN => ?_⟩
  · rcases (h0 s).1 hs with hs | rfl
    · exact h.le s hs
    · exact Nat.zero_le _
  · rcases hz with ⟨hz, _⟩ | ⟨x, hx, hz, _⟩
    · exact .inl hz
    · exact .inr (.inr ⟨x, hx, hz⟩)
  · obtain ⟨s', h1, h2, h3⟩ := h.fine s ((h0 s).1 hs) (by
      rcases hc with hc | hc
      · rcases hz with ⟨hz, _⟩ | ⟨x, hx, hz, hx1, hx2⟩
        · omega
        · by_cases c : at_ - 2 * r ≤ s
          · have := hx2 s hs c
            omega
          · exact .inl (by omega)
      · exact .inr hc) hN
    exact ⟨s', (h0 s').2 (.inl h1), h2, h3⟩
  · obtain ⟨s', h1, h2, h3⟩ := h.gap2 s ((h0 s).1 hs) hN
    exact ⟨s', (h0 s').2 (.inl h1), h2, h3⟩
theorem fill_end {S : Nat → Prop} {r N at_ : Nat} {q : Int} (h : FG S r N at_ q) (hq : ¬ q ≤ min (N : Int) ((at_ : Int) + (r : Int))) : GapOk S r N := fun s hs hN => by
  refine h.fine s hs ?_ hN
  have := h.le s hs
  by_cases c : (s : Int) < q
  · exact .inl c
  · right
    omega
/-- The next sample, or the end. -/
def NxOk (S : Nat → Prop) (N : Nat) (q nx : Int) : Prop := q < nx ∧ (∀ s : Nat, S s → q < (s : Int) → nx ≤ (s : Int)) ∧ (nx = ((N + 1 : Nat) : Int) ∨ ∃ s : Nat, S s ∧ nx = (s : Int))
theorem fill_next {S : Nat → Prop} {r N at_ : Nat} {q nx : Int} (h : FG S r N at_ q) (hn : NxOk S N q nx) (hr : nx - q ≤ (r : Int)) : FG S r N at_ nx := by
  obtain ⟨n1, n2, n3⟩ := hn
  refine ⟨h.zero, h.le, .inr n3, fun s hs hc hN => ?_, h.gap2⟩
  rcases hc with hc | hc
  · by_cases c1 : (s : Int) < q
    · exact h.fine s hs (.inl c1) hN
    · by_cases c2 : (s : Int) = q
      · rcases n3 with n3 | ⟨y, hy, n3⟩
        · omega
        · exact ⟨y, hy, by omega, by omega⟩
      · have := n2 s hs (by omega)
        omega
  · exact h.fine s hs (.inr hc) hN
theorem fill_add {S S' : Nat → Prop} {r N at_ : Nat} {q nx : Int} (h : FG S r N at_ q) (hn : NxOk S N q nx) (hqN : q ≤ (N : Int)) (hr1 : 1 ≤ r) (hr : ¬ nx - q ≤ (r : Int)) : ∃ p : Nat, q + (r : Int) = (p : Int) ∧ p ≤ N ∧ ¬ S p ∧ ((∀ x, S' x ↔ x = p ∨ S x) → FG S' r N at_ (p : Int)) := by
  obtain ⟨n1, n2, n3⟩ := hn
  have hq : ∃ q0 : Nat, S q0 ∧ q = (q0 : Int) := by
    rcases h.at_q with e | e | e
    · exfalso
      have := n2 0 h.zero (by omega)
      omega
    · omega
    · exact e
  obtain ⟨q0, hq0, rfl⟩ := hq
  have hnx : nx ≤ ((N + 1 : Nat) : Int) := by
    rcases n3 with e | ⟨y, hy, e⟩
    · omega
    · have := h.le y hy
      omega
  refine ⟨q0 + r, by omega, by omega, fun hs => ?_, fun hS => ?_⟩
  · have := n2 _ hs (by omega)
    omega
  · have up : ∀ {a b : Nat}, (∃ s', S s' ∧ a < s' ∧ s' ≤ b) → ∃ s', S' s' ∧ a < s' ∧ s' ≤ b := fun ⟨s', h1, h2⟩ => ⟨s', (hS s').2 (.inr h1), h2⟩
    have h2 : q0 + 2 * r ≤ N → ∃ s', S' s' ∧ q0 + r < s' ∧ s' ≤ q0 + 2 * r := fun hN => by
      obtain ⟨s', g1, g2, g3⟩ := h.gap2 q0 hq0 hN
      have := n2 s' g1 (by omega)
      exact ⟨s', (hS s').2 (.inr g1), by omega, g3⟩
    refine ⟨(hS 0).2 (.inr h.zero), fun s hs => ?_, .inr (.inr ⟨q0 + r, (hS _).2 (.inl rfl), rfl⟩), fun s hs hc hN => ?_, fun s hs hN => ?_⟩
    · rcases (hS s).1 hs with rfl | hs
      · omega
      · exact h.le s hs
    · rcases (hS s).1 hs with rfl | hs
      · obtain ⟨s', g1, g2, g3⟩ := h2 (by omega)
        exact ⟨s', g1, g2, by omega⟩
      · by_cases c1 : s = q0
        · subst c1
          exact ⟨s + r, (hS _).2 (.inl rfl), by omega, Nat.le_refl _⟩
        · by_cases c2 : (s : Int) < (q0 : Int)
          · exact up (h.fine s hs (.inl c2) hN)
          · have := n2 s hs (by omega)
            exact up (h.fine s hs (.inr (by omega)) hN)
    · rcases (hS s).1 hs with rfl | hs
      · obtain ⟨s', g1, g2, g3⟩ := h2 (by omega)
        exact ⟨s', g1, g2, by omega⟩
      · exact up (h.gap2 s hs hN)
/-- A text's state as fill finds it. -/
structure TxM (w : World) (B : Nat) (own : Nat → Nat) (gl gk gp rate : Nat) (mv : Int) (S T : List Nat) (N : Nat) (rs : List Nat) (pr : List (Nat × Nat)) : Prop where
  suf : IsSuf S rs
  live : LiveM w B own gl gk gp rate mv (N + 1) (N + 1) (lastL S rs) T pr
  tal : T.Perm (lastL S rs)
  right : ∀ x ∈ pr, rs[x.1]? = some x.2
theorem TxM.vis {w w' : World} {B : Nat} {own : Nat → Nat} {gl gk gp rate : Nat} {mv : Int} {S T : List Nat} {N : Nat} {rs : List Nat} {pr : List (Nat × Nat)} (h : TxM w B own gl gk gp rate mv S T N rs pr) (k : Vis w w') : TxM w' B own gl gk gp rate mv S T N rs pr := ⟨h.suf, h.live.vis k, h.tal, h.right⟩
def AddPost (w : World) (B : Nat) (own : Nat → Nat) (gl gk gp rate : Nat) (mv : Int) (S T : List Nat) (N : Nat) (rs : List Nat) (pr : List (Nat × Nat)) (pos : Nat) (e : Ending) (w' : World) : Prop :=
  e = .returned (.tuple #[]) ∧ ∃ own' pr', TxM w' B own' gl gk gp rate mv S T N rs pr' ∧ (∀ p, Smp pr' p ↔ p = pos ∨ Smp pr p) ∧ LF B w w' own own'
set_option maxRecDepth 100000 in
set_option maxHeartbeats 2000000 in
theorem LAdd_any (w : World) (B : Nat) (own : Nat → Nat) (gl gk gp rate : Nat) (mv : Int) (t : List UInt8) (T : List Nat) (N : Nat) (rs : List Nat) (pr : List (Nat × Nat)) (pos : Nat) (h : TxM w B own gl gk gp rate mv (symL t) T N rs pr) (hN : t.length = N) (hn : N ≤ 127) (hpos : pos ≤ N) (hnp : ∀ x ∈ pr, x.2 ≠ pos) :
    Calls Tryz.prog 68 #[.pointer (some ⟨gl, 0, none⟩), .int .i64 (pos : Int)] w (AddPost w B own gl gk gp rate mv (symL t) T N rs pr pos) := by
  subst hN
  obtain ⟨r, hrl, hrp⟩ := h.suf.row (p := pos) (by rw [symL_len]; omega)
  have hrp' : rs[r]? = some pos := by rw [List.getElem?_eq_getElem hrl, hrp]
  have hrN : r < t.length + 1 := by
    have := h.suf.len
    rw [symL_len] at this
    omega
  have hrow : ∀ w5, VB B w w5 → Calls Tryz.prog 21 #[.pointer (some ⟨gl, 0, none⟩), .int .i64 (pos : Int)] w5 fun e w' => e = .returned (.int .i64 (r : Int)) ∧ VB B w5 w' := fun w5 hv => by
    have h5 := h.vis hv.1
    exact LiveRowG_any B gl gk gp rate t rs pr r pos w5 (h5.live.g h5.tal) h5.right h5.suf hn hrp'
  have hnr : ∀ x ∈ pr, x.1 ≠ r := fun x hx e => by
    have := h.right x hx
    rw [e, hrp'] at this
    injection this with this
    exact hnp x hx this.symm
  have hlen : pr.length ≤ 900 := by have := h.live.perm.len; omega
  have H := Lib.hid h.live
  have HT := Lib.hid h
  have Hrow := Lib.hid hrow
  have Hnr := Lib.hid hnr
  have Hnp := Lib.hid hnp
  have Hlen := Lib.hid hlen
  have Hrp := Lib.hid hrp'
  obtain ⟨N, hN⟩ : ∃ N, t.length = N := ⟨_, rfl⟩
  rw [hN] at hn hpos hrN
  have HN := Lib.hid hN
  clear h hrow hnr hnp hlen hrp hrp' hrl hN
  rw [HN.out] at H
  unfold AddPost
  go_enter Tryz.func68, Tryz.ntmps68
  go_wp2_with fail
  refine wp_region_any (by kernel_rfl) ?_
  refine wpAny_vis_tail B 8 [4, 5, 6, 7, 8, 9, 10, 11] (fun _ => False) 100 [] (fun _ => True) (anyV) [is (.pointer (some ⟨gl, 0, none⟩)), is (.pointer (some ⟨gl, 0, none⟩)), is (.pointer (some ⟨gl, 1, none⟩)), is (.pointer (some ⟨gp, 0, none⟩)), is (.pointer (some ⟨gl, 0, none⟩)), is (.int .i64 (pos : Int)), is (.int .i64 (r : Int)), is (.int .i64 (pos : Int))] _ _ rfl (by decide) (by kernel_rfl) (by kernel_rfl) (by kernel_rfl) (trivial) (fun _ _ _ _ _ => trivial) (fun _ _ _ h _ => h) (by repeat' (first | exact stbs_is _ _ | exact stbs_any _ | (refine List.forall_mem_cons.2 ⟨?_, ?_⟩) | (intro p hp; cases hp))) ?_ ?_
  · refine steps_of_n ?_
    refine steps_cons ?_ ?_
    · refine step_on3 rfl rfl ?_
      intro ev w5 hS hU hc hf hold hval a K ha hK
      replace hS : VFB B (fun _ => False) w w5 := ⟨⟨hS.1.os, hS.1.tape, hS.1.output, hS.1.size, hS.1.block⟩, ⟨hS.2.os, hS.2.tape, hS.2.output, hS.2.size, hS.2.block⟩⟩
      clear hU
      have e0 : ev (.tmp 0) = .pointer (some ⟨gl, 0, none⟩) := hold 0 (by kernel_rfl)
      go_simp
      exact hK _ _ (vstep_vis (VisK.refl _ _)) rfl
    refine steps_cons ?_ ?_
    · refine step_on3 rfl rfl ?_
      intro ev w5 hS hU hc hf hold hval a K ha hK
      replace hS : VFB B (fun _ => False) w w5 := ⟨⟨hS.1.os, hS.1.tape, hS.1.output, hS.1.size, hS.1.block⟩, ⟨hS.2.os, hS.2.tape, hS.2.output, hS.2.size, hS.2.block⟩⟩
      clear hU
      have e4 : ev (.tmp 4) = .pointer (some ⟨gl, 0, none⟩) := hval 0 4 (by kernel_rfl) rfl
      go_simp
      exact hK _ _ (vstep_vis (VisK.refl _ _)) rfl
    refine steps_cons ?_ ?_
    · refine step_on3 rfl rfl ?_
      intro ev w5 hS hU hc hf hold hval a K ha hK
      replace hS : VFB B (fun _ => False) w w5 := ⟨⟨hS.1.os, hS.1.tape, hS.1.output, hS.1.size, hS.1.block⟩, ⟨hS.2.os, hS.2.tape, hS.2.output, hS.2.size, hS.2.block⟩⟩
      clear hU
      have e5 : ev (.tmp 5) = .pointer (some ⟨gl, 0, none⟩) := hval 1 5 (by kernel_rfl) rfl
      go_simp
      exact hK _ _ (vstep_vis (VisK.refl _ _)) rfl
    refine steps_cons ?_ ?_
    · refine step_on3 rfl rfl ?_
      intro ev w5 hS hU hc hf hold hval a K ha hK
      replace hS : VFB B (fun _ => False) w w5 := ⟨⟨hS.1.os, hS.1.tape, hS.1.output, hS.1.size, hS.1.block⟩, ⟨hS.2.os, hS.2.tape, hS.2.output, hS.2.size, hS.2.block⟩⟩
      clear hU
      have e6 : ev (.tmp 6) = .pointer (some ⟨gl, 1, none⟩) := hval 2 6 (by kernel_rfl) rfl
      have c7 : w5.cell? ⟨gl, 1, none⟩ = some (.pointer (some ⟨gp, 0, none⟩)) := ((H.out.vis (VFB.to_vb hS fun _ _ f => f).1).blk.cell 1).trans rfl
      go_simp
      exact hK _ _ (vstep_vis (VisK.refl _ _)) rfl
    refine steps_cons ?_ ?_
    · refine step_on3 rfl rfl ?_
      intro ev w5 hS hU hc hf hold hval a K ha hK
      replace hS : VFB B (fun _ => False) w w5 := ⟨⟨hS.1.os, hS.1.tape, hS.1.output, hS.1.size, hS.1.block⟩, ⟨hS.2.os, hS.2.tape, hS.2.output, hS.2.size, hS.2.block⟩⟩
      clear hU
      have e0 : ev (.tmp 0) = .pointer (some ⟨gl, 0, none⟩) := hold 0 (by kernel_rfl)
      go_simp
      exact hK _ _ (vstep_vis (VisK.refl _ _)) rfl
    refine steps_cons ?_ ?_
    · refine step_on3 rfl rfl ?_
      intro ev w5 hS hU hc hf hold hval a K ha hK
      replace hS : VFB B (fun _ => False) w w5 := ⟨⟨hS.1.os, hS.1.tape, hS.1.output, hS.1.size, hS.1.block⟩, ⟨hS.2.os, hS.2.tape, hS.2.output, hS.2.size, hS.2.block⟩⟩
      clear hU
      have e1 : ev (.tmp 1) = .int .i64 (pos : Int) := hold 1 (by kernel_rfl)
      go_simp
      exact hK _ _ (vstep_vis (VisK.refl _ _)) rfl
    refine steps_cons ?_ ?_
    · refine step_on3 rfl rfl ?_
      intro ev w5 hS hU hc hf hold hval a K ha hK
      replace hS : VFB B (fun _ => False) w w5 := ⟨⟨hS.1.os, hS.1.tape, hS.1.output, hS.1.size, hS.1.block⟩, ⟨hS.2.os, hS.2.tape, hS.2.output, hS.2.size, hS.2.block⟩⟩
      clear hU
      have e8 : ev (.tmp 8) = .pointer (some ⟨gl, 0, none⟩) := hval 4 8 (by kernel_rfl) rfl
      have e9 : ev (.tmp 9) = .int .i64 (pos : Int) := hval 5 9 (by kernel_rfl) rfl
      go_simp
      refine (Hrow.out w5 (VFB.to_vb hS fun _ _ f => f)).mono ?_
      rintro e w8 ⟨rfl, hv8⟩
      exact hK _ _ (vstep_vis hv8) rfl
    refine steps_cons ?_ ?_
    · refine step_on3 rfl rfl ?_
      intro ev w5 hS hU hc hf hold hval a K ha hK
      replace hS : VFB B (fun _ => False) w w5 := ⟨⟨hS.1.os, hS.1.tape, hS.1.output, hS.1.size, hS.1.block⟩, ⟨hS.2.os, hS.2.tape, hS.2.output, hS.2.size, hS.2.block⟩⟩
      clear hU
      have e1 : ev (.tmp 1) = .int .i64 (pos : Int) := hold 1 (by kernel_rfl)
      go_simp
      exact hK _ _ (vstep_vis (VisK.refl _ _)) rfl
    exact steps_nil
  · intro ev w6 f hS hval hall
    replace hS : VFB B (fun _ => False) w w6 := ⟨⟨hS.1.os, hS.1.tape, hS.1.output, hS.1.size, hS.1.block⟩, ⟨hS.2.os, hS.2.tape, hS.2.output, hS.2.size, hS.2.block⟩⟩
    have e7 : ev (.tmp 7) = .pointer (some ⟨gp, 0, none⟩) := hval 3 7 (by decide) rfl
    have e10 : ev (.tmp 10) = .int .i64 (r : Int) := hval 6 10 (by decide) rfl
    have e11 : ev (.tmp 11) = .int .i64 (pos : Int) := hval 7 11 (by decide) rfl
    simp only [putsOf, List.foldl_cons, List.foldl_nil, Act.put, List.setIfInBounds_toArray, List.set_cons_zero, List.set_cons_succ]
    rw [e7]
    rw [e10]
    rw [e11]
    clear hval
    change wpAny Tryz.prog Region.Mode.any _ _ (1 + f) (firstN 8 9) _ w6
    rw [Nat.add_comm 1 f]
    refine wpAny_one (f := f) (i := 8) (by kernel_rfl) ?_
    refine wpOp_run rfl rfl ?_
    generalize hK : wpAny Tryz.prog _ _ _ f _ = K5
    go_simp
    have hv6 : VB B w w6 := VFB.to_vb hS fun _ _ f => f
    have hl6 := H.out.vis hv6.1
    refine (PermAddE_any (fun b => own b = 1) gp (N + 1) (N + 1) r pos pr w6 hl6.perm (by omega) (by omega) Hnr.out Hnp.out Hlen.out).mono ?_
    rintro e w8 ⟨rfl, ⟨pr', hpp, hP8⟩, hk8⟩
    obtain ⟨hl8, hf8⟩ := hl6.permOp hP8 hk8
    have Hl8 := Lib.hid hl8
    have Hf8 := Lib.hid ((LF.of_vb (own := own) hv6).trans hf8)
    have Hpp := Lib.hid hpp
    clear hl8 hf8 hpp hP8 hk8 hl6 hv6
    subst hK
    refine wpAny_all (by kernel_rfl) ?_
    go_wp2_with fail
    go_end0
    refine ⟨rfl, _, pr', ⟨HT.out.suf, by rw [HN.out]; exact Hl8.out, HT.out.tal, fun x hx => ?_⟩, fun p => ?_, Hf8.out⟩
    · rcases List.mem_cons.1 (Hpp.out.subset hx) with rfl | hx
      · exact Hrp.out
      · exact HT.out.right x hx
    · unfold Smp
      constructor
      · rintro ⟨x, hx, rfl⟩
        rcases List.mem_cons.1 (Hpp.out.subset hx) with rfl | hx
        · exact .inl rfl
        · exact .inr ⟨x, hx, rfl⟩
      · rintro (rfl | ⟨x, hx, rfl⟩)
        · exact ⟨(r, p), Hpp.out.symm.subset (by simp), rfl⟩
        · exact ⟨x, Hpp.out.symm.subset (by simp [hx]), rfl⟩
def FillPost (w : World) (B : Nat) (own : Nat → Nat) (gl gk gp rate : Nat) (mv : Int) (S T : List Nat) (N : Nat) (rs : List Nat) (e : Ending) (w' : World) : Prop :=
  e = .returned (.tuple #[]) ∧ ∃ own' pr', TxM w' B own' gl gk gp rate mv S T N rs pr' ∧ Smp pr' 0 ∧ GapOk (Smp pr') rate N ∧ LF B w w' own own'
theorem least_smp {pr : List (Nat × Nat)} {pos : Nat} {z : Int} (h : LeastOk pr pos z) : (z = -1 ∧ ∀ s, Smp pr s → s < pos) ∨ ∃ x : Nat, Smp pr x ∧ z = (x : Int) ∧ pos ≤ x ∧ ∀ y, Smp pr y → pos ≤ y → x ≤ y := by
  rcases h with ⟨h1, h2⟩ | ⟨x, hx, h1, h2, h3⟩
  · exact .inl ⟨h1, fun s ⟨y, hy, e⟩ => by rw [← e]; exact h2 y hy⟩
  · exact .inr ⟨x.2, ⟨x, hx, rfl⟩, h1, h2, fun y ⟨u, hu, e⟩ hp => by rw [← e] at hp ⊢; exact h3 u hu hp⟩
theorem nx_of_least {pr : List (Nat × Nat)} {N q1 : Nat} {q z : Int} (h : LeastOk pr q1 z) (hq : q + 1 = (q1 : Int)) (hqN : q ≤ (N : Int)) : (z < 0 → NxOk (Smp pr) N q ((N + 1 : Nat) : Int)) ∧ (¬ z < 0 → NxOk (Smp pr) N q z) := by
  rcases least_smp h with ⟨h1, h2⟩ | ⟨x, hx, h1, h2, h3⟩
  · refine ⟨fun _ => ⟨by omega, fun s hs hlt => ?_, .inl rfl⟩, fun c => absurd (by omega) c⟩
    have := h2 s hs
    omega
  · refine ⟨fun c => absurd c (by omega), fun _ => ⟨by omega, fun s hs hlt => ?_, .inr ⟨x, hx, h1⟩⟩⟩
    have := h3 s hs (by omega)
    omega
/-- A round of fill. -/
structure FillI (w0 wr : World) (B : Nat) (own0 own : Nat → Nat) (gl gk gp rate : Nat) (mv : Int) (S T : List Nat) (N at_ : Nat) (rs : List Nat) (pr : List (Nat × Nat)) (q : Int) : Prop where
  tx : TxM wr B own gl gk gp rate mv S T N rs pr
  fg : FG (Smp pr) rate N at_ q
  lf : LF B w0 wr own0 own
theorem TxM.lenc {w : World} {B : Nat} {own : Nat → Nat} {gl gk gp rate : Nat} {mv : Int} {t : List UInt8} {T : List Nat} {N : Nat} {rs : List Nat} {pr : List (Nat × Nat)} (h : TxM w B own gl gk gp rate mv (symL t) T N rs pr) (hN : t.length = N) (hn : N ≤ 127) : ∀ q : Nat, Calls Tryz.prog 19 #[.pointer (some ⟨gl, 0, none⟩)] (w.drewN q) fun e w' => e = .returned (.int .i64 (N : Int)) ∧ ∃ m, w' = w.drewN m := fun q => by
  have h2 := h.vis (Vis.of_below (below_drewN (Below.refl _ _) q))
  have hl : (lastL (symL t) rs).length = N + 1 := by rw [lastL_len, h.suf.len, symL_len, hN]
  exact (LiveLen_any B gl _ N _ (h2.live.g h2.tal).lvw hl (by omega)).mono fun e w' ⟨h1, h3⟩ => ⟨h1, q, h3.symm⟩
theorem FG.ge {S : Nat → Prop} {r N at_ : Nat} {q : Int} (h : FG S r N at_ q) : -1 ≤ q ∧ q ≤ ((N + 1 : Nat) : Int) := by
  rcases h.at_q with e | e | ⟨s, hs, e⟩
  · omega
  · omega
  · have := h.le s hs
    omega
set_option maxRecDepth 100000 in
set_option maxHeartbeats 3000000 in
theorem Fill_any (w : World) (B : Nat) (own : Nat → Nat) (gl gk gp rate : Nat) (mv : Int) (t : List UInt8) (T : List Nat) (N at_ : Nat) (rs : List Nat) (pr : List (Nat × Nat)) (h : TxM w B own gl gk gp rate mv (symL t) T N rs pr) (hN : t.length = N) (hn : N ≤ 127) (hat : at_ ≤ N) (hr1 : 1 ≤ rate) (hr2 : rate ≤ 64) (hg : PreGap (Smp pr) rate N at_) :
    Calls Tryz.prog 32 #[.pointer (some ⟨gl, 0, none⟩), .int .i64 (at_ : Int)] w (FillPost w B own gl gk gp rate mv (symL t) T N rs) := by
  have c1 : w.cell? ⟨gl, 1, none⟩ = some (.pointer (some ⟨gp, 0, none⟩)) := (h.live.blk.cell 1).trans rfl
  have e64 : IntKind.i64.wrap (2 * (rate : Int)) = ((2 * rate : Nat) : Int) := by rw [IntKind.wrap_i64]; omega
  have e65 : IntKind.i64.wrap ((at_ : Int) - ((2 * rate : Nat) : Int)) = (at_ : Int) - ((2 * rate : Nat) : Int) := by rw [IntKind.wrap_i64]; omega
  have e66 : IntKind.i64.wrap ((at_ : Int) + (rate : Int)) = (at_ : Int) + (rate : Int) := by rw [IntKind.wrap_i64]; omega
  have e67 : wrap64 ((N : Int) + 1) = ((N + 1 : Nat) : Int) := by rw [wrap64_id (by omega) (by omega)]; rfl
  have H := Lib.hid h
  have HN := Lib.hid hN
  have Hg := Lib.hid hg
  clear h hN hg
  unfold FillPost
  go_enter Tryz.func32, Tryz.ntmps32
  by_cases h0 : ∃ x ∈ pr, x.2 = 0
  · have hrow := PermRowR_any gp (N + 1) (N + 1) pr 0 w H.out.live.permR h0
    unfold RowPostR at hrow
    have hS0 : ∀ p, Smp pr p ↔ Smp pr p ∨ p = 0 := fun p => ⟨.inl, fun h => by
      rcases h with h | rfl
      · exact h
      · exact h0⟩
    have HS0 := Lib.hid hS0
    clear hS0 h0
    go_wp2_with fail
    refine hrow.mono ?_
    clear hrow
    rintro e W ⟨r0, hr0, rfl, hbW⟩
    have hr0b : decide ((r0 : Int) < 0) = false := by simp
    have HX := Lib.hid (H.out.vis (Vis.of_below hbW))
    have HF := Lib.hid (LF.of_vb (B := B) (own := own) (VisK.of_below hbW))
    clear hbW hr0 c1 H
    go_wp2_with fail
    obtain ⟨z, hz⟩ := least_ex pr (at_ - 2 * rate)
    refine wp_region_any (by kernel_rfl) ?_
    refine wpAny_loose2 [14, 15, 16, 17, 18, 19, 20, 21, 22, 23, 24, 25, 26, 4] (Grow) (Vs [is (.pointer (some ⟨gl, 0, none⟩)), is (.pointer (some ⟨gl, 0, none⟩)), is (.pointer (some ⟨gl, 1, none⟩)), is (.pointer (some ⟨gp, 0, none⟩)), is (.int .i64 (at_ : Int)), is (.pointer (some ⟨gl, 0, none⟩)), is (.pointer (some ⟨gl, 0, none⟩)), is (.pointer (some ⟨gl, 2, none⟩)), is (.int .i64 (rate : Int)), is (.int .i64 ((2 * rate : Nat) : Int)), is (.int .i64 ((at_ : Int) - ((2 * rate : Nat) : Int))), is (.int .i64 ((at_ - 2 * rate : Nat) : Int)), is (.int .i64 z), is (.int .i64 z)]) _ _ rfl (by kernel_rfl) (Below.refl _ _) (fun _ _ => Grow.trans) (stbs_all (by repeat' (first | exact stbs_is _ _ | exact stbs_any _ | (refine List.forall_mem_cons.2 ⟨?_, ?_⟩) | (intro p hp; cases hp)))) ?_ ?_
    · refine steps_of ?_
      refine steps_cons ?_ ?_
      · refine step_on rfl rfl ?_
        intro ev w5 hS hc hf hold hval a K ha hK
        have e0 : ev (.tmp 0) = .pointer (some ⟨gl, 0, none⟩) := hold 0 (by kernel_rfl)
        replace hS : (Grow) W w5 := ⟨hS.os, hS.tape, hS.output, hS.size, hS.block⟩
        go_simp
        exact hK _ _ ((Below.refl _ _)) rfl
      refine steps_cons ?_ ?_
      · refine step_on rfl rfl ?_
        intro ev w5 hS hc hf hold hval a K ha hK
        have e14 : ev (.tmp 14) = .pointer (some ⟨gl, 0, none⟩) := hval 0 14 (by kernel_rfl) rfl
        replace hS : (Grow) W w5 := ⟨hS.os, hS.tape, hS.output, hS.size, hS.block⟩
        go_simp
        exact hK _ _ ((Below.refl _ _)) rfl
      refine steps_cons ?_ ?_
      · refine step_on rfl rfl ?_
        intro ev w5 hS hc hf hold hval a K ha hK
        have e15 : ev (.tmp 15) = .pointer (some ⟨gl, 0, none⟩) := hval 1 15 (by kernel_rfl) rfl
        replace hS : (Grow) W w5 := ⟨hS.os, hS.tape, hS.output, hS.size, hS.block⟩
        go_simp
        exact hK _ _ ((Below.refl _ _)) rfl
      refine steps_cons ?_ ?_
      · refine step_on rfl rfl ?_
        intro ev w5 hS hc hf hold hval a K ha hK
        have e16 : ev (.tmp 16) = .pointer (some ⟨gl, 1, none⟩) := hval 2 16 (by kernel_rfl) rfl
        replace hS : (Grow) W w5 := ⟨hS.os, hS.tape, hS.output, hS.size, hS.block⟩
        have c17 : w5.cell? ⟨gl, 1, none⟩ = some (.pointer (some ⟨gp, 0, none⟩)) := ((HX.out.vis (Vis.of_below hS)).live.blk.cell 1).trans rfl
        go_simp
        exact hK _ _ ((Below.refl _ _)) rfl
      refine steps_cons ?_ ?_
      · refine step_on rfl rfl ?_
        intro ev w5 hS hc hf hold hval a K ha hK
        have e1 : ev (.tmp 1) = .int .i64 (at_ : Int) := hold 1 (by kernel_rfl)
        replace hS : (Grow) W w5 := ⟨hS.os, hS.tape, hS.output, hS.size, hS.block⟩
        go_simp
        exact hK _ _ ((Below.refl _ _)) rfl
      refine steps_cons ?_ ?_
      · refine step_on rfl rfl ?_
        intro ev w5 hS hc hf hold hval a K ha hK
        have e0 : ev (.tmp 0) = .pointer (some ⟨gl, 0, none⟩) := hold 0 (by kernel_rfl)
        replace hS : (Grow) W w5 := ⟨hS.os, hS.tape, hS.output, hS.size, hS.block⟩
        go_simp
        exact hK _ _ ((Below.refl _ _)) rfl
      refine steps_cons ?_ ?_
      · refine step_on rfl rfl ?_
        intro ev w5 hS hc hf hold hval a K ha hK
        have e19 : ev (.tmp 19) = .pointer (some ⟨gl, 0, none⟩) := hval 5 19 (by kernel_rfl) rfl
        replace hS : (Grow) W w5 := ⟨hS.os, hS.tape, hS.output, hS.size, hS.block⟩
        go_simp
        exact hK _ _ ((Below.refl _ _)) rfl
      refine steps_cons ?_ ?_
      · refine step_on rfl rfl ?_
        intro ev w5 hS hc hf hold hval a K ha hK
        have e20 : ev (.tmp 20) = .pointer (some ⟨gl, 0, none⟩) := hval 6 20 (by kernel_rfl) rfl
        replace hS : (Grow) W w5 := ⟨hS.os, hS.tape, hS.output, hS.size, hS.block⟩
        go_simp
        exact hK _ _ ((Below.refl _ _)) rfl
      refine steps_cons ?_ ?_
      · refine step_on rfl rfl ?_
        intro ev w5 hS hc hf hold hval a K ha hK
        have e21 : ev (.tmp 21) = .pointer (some ⟨gl, 2, none⟩) := hval 7 21 (by kernel_rfl) rfl
        replace hS : (Grow) W w5 := ⟨hS.os, hS.tape, hS.output, hS.size, hS.block⟩
        have c22 : w5.cell? ⟨gl, 2, none⟩ = some (.int .i64 (rate : Int)) := ((HX.out.vis (Vis.of_below hS)).live.blk.cell 2).trans rfl
        go_simp
        exact hK _ _ ((Below.refl _ _)) rfl
      refine steps_cons ?_ ?_
      · refine step_on rfl rfl ?_
        intro ev w5 hS hc hf hold hval a K ha hK
        have e22 : ev (.tmp 22) = .int .i64 (rate : Int) := hval 8 22 (by kernel_rfl) rfl
        replace hS : (Grow) W w5 := ⟨hS.os, hS.tape, hS.output, hS.size, hS.block⟩
        go_simp
        exact hK _ _ ((Below.refl _ _)) rfl
      refine steps_cons ?_ ?_
      · refine step_on rfl rfl ?_
        intro ev w5 hS hc hf hold hval a K ha hK
        have e18 : ev (.tmp 18) = .int .i64 (at_ : Int) := hval 4 18 (by kernel_rfl) rfl
        have e23 : ev (.tmp 23) = .int .i64 ((2 * rate : Nat) : Int) := hval 9 23 (by kernel_rfl) rfl
        replace hS : (Grow) W w5 := ⟨hS.os, hS.tape, hS.output, hS.size, hS.block⟩
        go_simp
        exact hK _ _ (Below.refl _ _) (i64_eq (by rw [IntKind.wrap_i64]; push_cast; omega))
      refine steps_cons ?_ ?_
      · refine step_on rfl rfl ?_
        intro ev w5 hS hc hf hold hval a K ha hK
        have e24 : ev (.tmp 24) = .int .i64 ((at_ : Int) - ((2 * rate : Nat) : Int)) := hval 10 24 (by kernel_rfl) rfl
        replace hS : (Grow) W w5 := ⟨hS.os, hS.tape, hS.output, hS.size, hS.block⟩
        go_simp
        exact hK _ _ (Below.refl _ _) (i64_eq (by omega))
      refine steps_cons ?_ ?_
      · refine step_on rfl rfl ?_
        intro ev w5 hS hc hf hold hval a K ha hK
        have e17 : ev (.tmp 17) = .pointer (some ⟨gp, 0, none⟩) := hval 3 17 (by kernel_rfl) rfl
        have e25 : ev (.tmp 25) = .int .i64 ((at_ - 2 * rate : Nat) : Int) := hval 11 25 (by kernel_rfl) rfl
        replace hS : (Grow) W w5 := ⟨hS.os, hS.tape, hS.output, hS.size, hS.block⟩
        go_simp
        refine (PermNextZ_any gp (N + 1) (N + 1) pr (at_ - 2 * rate) z w5 (HX.out.vis (Vis.of_below hS)).live.permR hz).mono ?_
        rintro e w8 ⟨rfl, hb8⟩
        exact hK _ _ hb8 rfl
      refine steps_cons ?_ ?_
      · refine step_on rfl rfl ?_
        intro ev w5 hS hc hf hold hval a K ha hK
        have e26 : ev (.tmp 26) = .int .i64 z := hval 12 26 (by kernel_rfl) rfl
        replace hS : (Grow) W w5 := ⟨hS.os, hS.tape, hS.output, hS.size, hS.block⟩
        go_simp
        exact hK _ _ ((Below.refl _ _)) rfl
      exact steps_nil
    · intro ev w6 hS hval
      replace hS : (Grow) W w6 := ⟨hS.os, hS.tape, hS.output, hS.size, hS.block⟩
      have e4 : ev (.tmp 4) = .int .i64 z := hval 13 4 rfl
      simp only [putsOf, List.foldl_cons, List.foldl_nil, Act.put, List.setIfInBounds_toArray, List.set_cons_zero, List.set_cons_succ]
      rw [e4]
      clear hval
      have hxW := HX.out.vis (Vis.of_below hS)
      have hfW := HF.out.trans (LF.of_vb (B := B) (own := own) (VisK.of_below hS))
      have hfg := fill_start Hg.out HS0.out hr1 (least_smp hz)
      have HI0 := Lib.hid (FillI.mk hxW hfg hfW)
      clear hxW hfW hfg hz hS HX HF HS0 Hg
      go_wp2_with fail
      go_loopw [4] (fun x wr => ∃ (q : Int) (ownq : Nat → Nat) (prq : List (Nat × Nat)), x = .int .i64 q ∧ FillI w wr B own ownq gl gk gp rate mv (symL t) T N at_ rs prq q) (fun x _ => ((N : Int) + 2 - intOf x).toNat)
      case atStart => exact ⟨z, _, _, rfl, HI0.out⟩
      case round =>
        clear HI0
        obtain ⟨q, ownq, prq, rfl, hI⟩ := hrel
        obtain ⟨hq1, hq2⟩ := hI.fg.ge
        have kc := hI.tx.lenc HN.out hn
        have g1 : wr.cell? ⟨gl, 1, none⟩ = some (.pointer (some ⟨gp, 0, none⟩)) := (hI.tx.live.blk.cell 1).trans rfl
        have g2 : wr.cell? ⟨gl, 2, none⟩ = some (.int .i64 (rate : Int)) := (hI.tx.live.blk.cell 2).trans rfl
        have hgl := hI.tx.live.blk.lt
        obtain ⟨mn, hmn⟩ : ∃ mn, min (N : Int) ((at_ : Int) + (rate : Int)) = mn := ⟨_, rfl⟩
        have HI := Lib.hid hI
        have Hmn := Lib.hid hmn
        clear hI
        by_cases hq : q ≤ mn
        · have hqb : decide (q ≤ mn) = true := decide_eq_true hq
          obtain ⟨q1, hq1e⟩ : ∃ q1 : Nat, q + 1 = (q1 : Int) := ⟨(q + 1).toNat, by omega⟩
          have hqN : q ≤ (N : Int) := by omega
          obtain ⟨z2, hz2⟩ := least_ex prq q1
          obtain ⟨nx1, nx2⟩ := nx_of_least (N := N) hz2 hq1e hqN
          have e1 : wrap64 (q + 1) = (q1 : Int) := by rw [wrap64_id (by omega) (by omega)]; exact hq1e
          have Hz2 := Lib.hid hz2
          have Hnx1 := Lib.hid nx1
          have Hnx2 := Lib.hid nx2
          have Hq1e := Lib.hid hq1e
          clear hz2 nx1 nx2
          go_wp2_with fail
          go_quiet ((with_reducible exact kc _))
          rename_i nq
          have hxq := HI.out.tx.vis (Vis.of_below (below_drewN (Below.refl _ _) nq))
          have hnext := PermNextZ_any gp (N + 1) (N + 1) prq q1 z2 (wr.drewN nq) hxq.live.permR Hz2.out
          clear hxq
          go_wp2_with fail
          refine hnext.mono ?_
          clear hnext
          rintro e w1 ⟨rfl, hb1⟩
          have hvq : VB B wr w1 := VisK.of_below ((below_drewN (Below.refl _ _) nq).trans hb1)
          have hx1 := HI.out.tx.vis hvq.1
          have hf1 := HI.out.lf.trans (LF.of_vb (own := ownq) hvq)
          have Hx1 := Lib.hid hx1
          have Hf1 := Lib.hid hf1
          clear hvq hx1 hf1 hb1 kc g1 g2 hgl
          by_cases hzn : z2 < 0
          · have hznb : decide (z2 < 0) = true := decide_eq_true hzn
            have Hnx := Lib.hid (Hnx1.out (by omega))
            have hlen := Hx1.out.lenc HN.out hn 0
            clear Hnx1 Hnx2
            go_wp2_with fail
            refine hlen.mono ?_
            clear hlen
            rintro e w2 ⟨rfl, m2, rfl⟩
            have hx2 := Hx1.out.vis (Vis.of_below (below_drewN (Below.refl _ _) m2))
            have hf2 := Hf1.out.trans (LF.of_vb (B := B) (own := ownq) (VisK.of_below (below_drewN (Below.refl _ _) m2)))
            have Hx2 := Lib.hid hx2
            have Hf2 := Lib.hid hf2
            clear hx2 hf2
            generalize w1.drewN m2 = w2 at Hx2 Hf2 ⊢
            obtain ⟨nx, hnx⟩ : ∃ nx : Int, ((N + 1 : Nat) : Int) = nx := ⟨_, rfl⟩
            rw [hnx] at Hnx
            have e67' : wrap64 ((N : Int) + 1) = nx := by rw [e67]; exact hnx
            have hnl := Hnx.out.1
            have hnN : nx ≤ ((N + 1 : Nat) : Int) := by
              rcases Hnx.out.2.2 with e | ⟨s, hs, e⟩
              · omega
              · have := HI.out.fg.le s hs
                omega
            have e2 : IntKind.i64.wrap (nx - q) = nx - q := by rw [IntKind.wrap_i64]; omega
            have g2 : w2.cell? ⟨gl, 2, none⟩ = some (.int .i64 (rate : Int)) := (Hx2.out.live.blk.cell 2).trans rfl
            have hgl2 := Hx2.out.live.blk.lt
            by_cases hfar : nx - q ≤ (rate : Int)
            · have hfarb : decide (nx - q > (rate : Int)) = false := decide_eq_false (by omega)
              have hfarc : ¬ (rate : Int) < nx - q := by omega
              have hfg2 := fill_next HI.out.fg Hnx.out hfar
              have Hfg2 := Lib.hid hfg2
              clear hfg2
              go_wp2_with fail
              go_roundw
              case rel => exact ⟨nx, ownq, prq, by first | rfl | (congr 1 <;> omega), Hx2.out, Hfg2.out, Hf2.out⟩
              case measure => simp [intOf]; omega
            · have hfarb : decide (nx - q > (rate : Int)) = true := decide_eq_true (by omega)
              have hfarc : (rate : Int) < nx - q := by omega
              obtain ⟨p, hp, hpN, hpS, _⟩ := fill_add (S' := Smp prq) HI.out.fg Hnx.out hqN hr1 hfar
              have e3 : IntKind.i64.wrap (q + (rate : Int)) = (p : Int) := by rw [IntKind.wrap_i64]; omega
              have hadd := LAdd_any w2 B ownq gl gk gp rate mv t T N rs prq p Hx2.out HN.out hn hpN (fun x hx e => hpS ⟨x, hx, e⟩)
              unfold AddPost at hadd
              have Hp := Lib.hid hp
              have HpS := Lib.hid hpS
              clear hp hpS
              go_wp2_with fail
              refine hadd.mono ?_
              clear hadd
              rintro e w3 ⟨rfl, own3, pr3, hx3, hs3, hf3⟩
              have hfg3 : FG (Smp pr3) rate N at_ (p : Int) := by
                obtain ⟨p', hp', _, _, hpF⟩ := fill_add (S' := Smp pr3) HI.out.fg Hnx.out hqN hr1 (by omega)
                have : p' = p := by have := Hp.out; omega
                subst this
                exact hpF hs3
              have Hfg3 := Lib.hid hfg3
              have Hx3 := Lib.hid hx3
              have Hf3 := Lib.hid (Hf2.out.trans hf3)
              have Hlt := Lib.hid (show q < (p : Int) by have := Hp.out; omega)
              clear hfg3 hx3 hs3 hf3
              go_wp2_with fail
              go_roundw
              case rel => exact ⟨(p : Int), own3, pr3, rfl, Hx3.out, Hfg3.out, Hf3.out⟩
              case measure => simp [intOf]; have := Hlt.out; omega
          · have hznb : decide (z2 < 0) = false := decide_eq_false hzn
            have Hnx := Lib.hid (Hnx2.out (by omega))
            clear Hnx1 Hnx2
            obtain ⟨nx, hnx⟩ : ∃ nx : Int, z2 = nx := ⟨_, rfl⟩
            rw [hnx] at Hnx hznb ⊢
            have Hx2 := Hx1
            have Hf2 := Hf1
            clear Hx1 Hf1
            generalize w1 = w2 at Hx2 Hf2 ⊢
            have hnl := Hnx.out.1
            have hnN : nx ≤ ((N + 1 : Nat) : Int) := by
              rcases Hnx.out.2.2 with e | ⟨s, hs, e⟩
              · omega
              · have := HI.out.fg.le s hs
                omega
            have e2 : IntKind.i64.wrap (nx - q) = nx - q := by rw [IntKind.wrap_i64]; omega
            have g2 : w2.cell? ⟨gl, 2, none⟩ = some (.int .i64 (rate : Int)) := (Hx2.out.live.blk.cell 2).trans rfl
            have hgl2 := Hx2.out.live.blk.lt
            by_cases hfar : nx - q ≤ (rate : Int)
            · have hfarb : decide (nx - q > (rate : Int)) = false := decide_eq_false (by omega)
              have hfarc : ¬ (rate : Int) < nx - q := by omega
              have hfg2 := fill_next HI.out.fg Hnx.out hfar
              have Hfg2 := Lib.hid hfg2
              clear hfg2
              go_wp2_with fail
              go_roundw
              case rel => exact ⟨nx, ownq, prq, by first | rfl | (congr 1 <;> omega), Hx2.out, Hfg2.out, Hf2.out⟩
              case measure => simp [intOf]; omega
            · have hfarb : decide (nx - q > (rate : Int)) = true := decide_eq_true (by omega)
              have hfarc : (rate : Int) < nx - q := by omega
              obtain ⟨p, hp, hpN, hpS, _⟩ := fill_add (S' := Smp prq) HI.out.fg Hnx.out hqN hr1 hfar
              have e3 : IntKind.i64.wrap (q + (rate : Int)) = (p : Int) := by rw [IntKind.wrap_i64]; omega
              have hadd := LAdd_any w2 B ownq gl gk gp rate mv t T N rs prq p Hx2.out HN.out hn hpN (fun x hx e => hpS ⟨x, hx, e⟩)
              unfold AddPost at hadd
              have Hp := Lib.hid hp
              have HpS := Lib.hid hpS
              clear hp hpS
              go_wp2_with fail
              refine hadd.mono ?_
              clear hadd
              rintro e w3 ⟨rfl, own3, pr3, hx3, hs3, hf3⟩
              have hfg3 : FG (Smp pr3) rate N at_ (p : Int) := by
                obtain ⟨p', hp', _, _, hpF⟩ := fill_add (S' := Smp pr3) HI.out.fg Hnx.out hqN hr1 (by omega)
                have : p' = p := by have := Hp.out; omega
                subst this
                exact hpF hs3
              have Hfg3 := Lib.hid hfg3
              have Hx3 := Lib.hid hx3
              have Hf3 := Lib.hid (Hf2.out.trans hf3)
              have Hlt := Lib.hid (show q < (p : Int) by have := Hp.out; omega)
              clear hfg3 hx3 hs3 hf3
              go_wp2_with fail
              go_roundw
              case rel => exact ⟨(p : Int), own3, pr3, rfl, Hx3.out, Hfg3.out, Hf3.out⟩
              case measure => simp [intOf]; have := Hlt.out; omega
        · have hqb : decide (q ≤ mn) = false := decide_eq_false hq
          have hend := fill_end HI.out.fg (by rw [Hmn.out]; exact hq)
          have Hend := Lib.hid hend
          clear hend
          go_wp2_with fail
          go_quiet ((with_reducible exact kc _))
          rename_i nq
          have hvq : VB B wr (wr.drewN nq) := VisK.of_below (below_drewN (Below.refl _ _) nq)
          have hx1 := HI.out.tx.vis hvq.1
          have hf1 := HI.out.lf.trans (LF.of_vb (own := ownq) hvq)
          have Hx1 := Lib.hid hx1
          have Hf1 := Lib.hid hf1
          clear hvq hx1 hf1 kc g1 g2 hgl
          go_wp2_with fail
          go_end0
          exact ⟨rfl, ownq, prq, Hx1.out, HI.out.fg.zero, Hend.out, Hf1.out⟩
  · have hrow := PermRowR_none gp (N + 1) (N + 1) pr 0 w H.out.live.permR (fun x hx e => h0 ⟨x, hx, e⟩)
    have Hno := Lib.hid h0
    clear h0
    go_wp2_with fail
    refine hrow.mono ?_
    clear hrow
    rintro e W0 ⟨rfl, hbW⟩
    have hx0 := H.out.vis (Vis.of_below hbW)
    have hadd := LAdd_any W0 B own gl gk gp rate mv t T N rs pr 0 hx0 HN.out hn (Nat.zero_le _) (fun x hx e => Hno.out ⟨x, hx, e⟩)
    unfold AddPost at hadd
    have HF0 := Lib.hid (LF.of_vb (B := B) (own := own) (VisK.of_below hbW))
    clear hbW hx0 c1 H
    go_wp2_with fail
    refine hadd.mono ?_
    clear hadd
    rintro e W ⟨rfl, own1, pr1, hx1, hs1, hf1⟩
    have HX := Lib.hid hx1
    have HF := Lib.hid (HF0.out.trans hf1)
    have hS0 : ∀ p, Smp pr1 p ↔ Smp pr p ∨ p = 0 := fun p => (hs1 p).trans Or.comm
    have HS0 := Lib.hid hS0
    clear hS0 hx1 hs1 hf1 HF0
    go_wp2_with fail
    obtain ⟨z, hz⟩ := least_ex pr1 (at_ - 2 * rate)
    refine wp_region_any (by kernel_rfl) ?_
    refine wpAny_loose2 [14, 15, 16, 17, 18, 19, 20, 21, 22, 23, 24, 25, 26, 4] (Grow) (Vs [is (.pointer (some ⟨gl, 0, none⟩)), is (.pointer (some ⟨gl, 0, none⟩)), is (.pointer (some ⟨gl, 1, none⟩)), is (.pointer (some ⟨gp, 0, none⟩)), is (.int .i64 (at_ : Int)), is (.pointer (some ⟨gl, 0, none⟩)), is (.pointer (some ⟨gl, 0, none⟩)), is (.pointer (some ⟨gl, 2, none⟩)), is (.int .i64 (rate : Int)), is (.int .i64 ((2 * rate : Nat) : Int)), is (.int .i64 ((at_ : Int) - ((2 * rate : Nat) : Int))), is (.int .i64 ((at_ - 2 * rate : Nat) : Int)), is (.int .i64 z), is (.int .i64 z)]) _ _ rfl (by kernel_rfl) (Below.refl _ _) (fun _ _ => Grow.trans) (stbs_all (by repeat' (first | exact stbs_is _ _ | exact stbs_any _ | (refine List.forall_mem_cons.2 ⟨?_, ?_⟩) | (intro p hp; cases hp)))) ?_ ?_
    · refine steps_of ?_
      refine steps_cons ?_ ?_
      · refine step_on rfl rfl ?_
        intro ev w5 hS hc hf hold hval a K ha hK
        have e0 : ev (.tmp 0) = .pointer (some ⟨gl, 0, none⟩) := hold 0 (by kernel_rfl)
        replace hS : (Grow) W w5 := ⟨hS.os, hS.tape, hS.output, hS.size, hS.block⟩
        go_simp
        exact hK _ _ ((Below.refl _ _)) rfl
      refine steps_cons ?_ ?_
      · refine step_on rfl rfl ?_
        intro ev w5 hS hc hf hold hval a K ha hK
        have e14 : ev (.tmp 14) = .pointer (some ⟨gl, 0, none⟩) := hval 0 14 (by kernel_rfl) rfl
        replace hS : (Grow) W w5 := ⟨hS.os, hS.tape, hS.output, hS.size, hS.block⟩
        go_simp
        exact hK _ _ ((Below.refl _ _)) rfl
      refine steps_cons ?_ ?_
      · refine step_on rfl rfl ?_
        intro ev w5 hS hc hf hold hval a K ha hK
        have e15 : ev (.tmp 15) = .pointer (some ⟨gl, 0, none⟩) := hval 1 15 (by kernel_rfl) rfl
        replace hS : (Grow) W w5 := ⟨hS.os, hS.tape, hS.output, hS.size, hS.block⟩
        go_simp
        exact hK _ _ ((Below.refl _ _)) rfl
      refine steps_cons ?_ ?_
      · refine step_on rfl rfl ?_
        intro ev w5 hS hc hf hold hval a K ha hK
        have e16 : ev (.tmp 16) = .pointer (some ⟨gl, 1, none⟩) := hval 2 16 (by kernel_rfl) rfl
        replace hS : (Grow) W w5 := ⟨hS.os, hS.tape, hS.output, hS.size, hS.block⟩
        have c17 : w5.cell? ⟨gl, 1, none⟩ = some (.pointer (some ⟨gp, 0, none⟩)) := ((HX.out.vis (Vis.of_below hS)).live.blk.cell 1).trans rfl
        go_simp
        exact hK _ _ ((Below.refl _ _)) rfl
      refine steps_cons ?_ ?_
      · refine step_on rfl rfl ?_
        intro ev w5 hS hc hf hold hval a K ha hK
        have e1 : ev (.tmp 1) = .int .i64 (at_ : Int) := hold 1 (by kernel_rfl)
        replace hS : (Grow) W w5 := ⟨hS.os, hS.tape, hS.output, hS.size, hS.block⟩
        go_simp
        exact hK _ _ ((Below.refl _ _)) rfl
      refine steps_cons ?_ ?_
      · refine step_on rfl rfl ?_
        intro ev w5 hS hc hf hold hval a K ha hK
        have e0 : ev (.tmp 0) = .pointer (some ⟨gl, 0, none⟩) := hold 0 (by kernel_rfl)
        replace hS : (Grow) W w5 := ⟨hS.os, hS.tape, hS.output, hS.size, hS.block⟩
        go_simp
        exact hK _ _ ((Below.refl _ _)) rfl
      refine steps_cons ?_ ?_
      · refine step_on rfl rfl ?_
        intro ev w5 hS hc hf hold hval a K ha hK
        have e19 : ev (.tmp 19) = .pointer (some ⟨gl, 0, none⟩) := hval 5 19 (by kernel_rfl) rfl
        replace hS : (Grow) W w5 := ⟨hS.os, hS.tape, hS.output, hS.size, hS.block⟩
        go_simp
        exact hK _ _ ((Below.refl _ _)) rfl
      refine steps_cons ?_ ?_
      · refine step_on rfl rfl ?_
        intro ev w5 hS hc hf hold hval a K ha hK
        have e20 : ev (.tmp 20) = .pointer (some ⟨gl, 0, none⟩) := hval 6 20 (by kernel_rfl) rfl
        replace hS : (Grow) W w5 := ⟨hS.os, hS.tape, hS.output, hS.size, hS.block⟩
        go_simp
        exact hK _ _ ((Below.refl _ _)) rfl
      refine steps_cons ?_ ?_
      · refine step_on rfl rfl ?_
        intro ev w5 hS hc hf hold hval a K ha hK
        have e21 : ev (.tmp 21) = .pointer (some ⟨gl, 2, none⟩) := hval 7 21 (by kernel_rfl) rfl
        replace hS : (Grow) W w5 := ⟨hS.os, hS.tape, hS.output, hS.size, hS.block⟩
        have c22 : w5.cell? ⟨gl, 2, none⟩ = some (.int .i64 (rate : Int)) := ((HX.out.vis (Vis.of_below hS)).live.blk.cell 2).trans rfl
        go_simp
        exact hK _ _ ((Below.refl _ _)) rfl
      refine steps_cons ?_ ?_
      · refine step_on rfl rfl ?_
        intro ev w5 hS hc hf hold hval a K ha hK
        have e22 : ev (.tmp 22) = .int .i64 (rate : Int) := hval 8 22 (by kernel_rfl) rfl
        replace hS : (Grow) W w5 := ⟨hS.os, hS.tape, hS.output, hS.size, hS.block⟩
        go_simp
        exact hK _ _ ((Below.refl _ _)) rfl
      refine steps_cons ?_ ?_
      · refine step_on rfl rfl ?_
        intro ev w5 hS hc hf hold hval a K ha hK
        have e18 : ev (.tmp 18) = .int .i64 (at_ : Int) := hval 4 18 (by kernel_rfl) rfl
        have e23 : ev (.tmp 23) = .int .i64 ((2 * rate : Nat) : Int) := hval 9 23 (by kernel_rfl) rfl
        replace hS : (Grow) W w5 := ⟨hS.os, hS.tape, hS.output, hS.size, hS.block⟩
        go_simp
        exact hK _ _ (Below.refl _ _) (i64_eq (by rw [IntKind.wrap_i64]; push_cast; omega))
      refine steps_cons ?_ ?_
      · refine step_on rfl rfl ?_
        intro ev w5 hS hc hf hold hval a K ha hK
        have e24 : ev (.tmp 24) = .int .i64 ((at_ : Int) - ((2 * rate : Nat) : Int)) := hval 10 24 (by kernel_rfl) rfl
        replace hS : (Grow) W w5 := ⟨hS.os, hS.tape, hS.output, hS.size, hS.block⟩
        go_simp
        exact hK _ _ (Below.refl _ _) (i64_eq (by omega))
      refine steps_cons ?_ ?_
      · refine step_on rfl rfl ?_
        intro ev w5 hS hc hf hold hval a K ha hK
        have e17 : ev (.tmp 17) = .pointer (some ⟨gp, 0, none⟩) := hval 3 17 (by kernel_rfl) rfl
        have e25 : ev (.tmp 25) = .int .i64 ((at_ - 2 * rate : Nat) : Int) := hval 11 25 (by kernel_rfl) rfl
        replace hS : (Grow) W w5 := ⟨hS.os, hS.tape, hS.output, hS.size, hS.block⟩
        go_simp
        refine (PermNextZ_any gp (N + 1) (N + 1) pr1 (at_ - 2 * rate) z w5 (HX.out.vis (Vis.of_below hS)).live.permR hz).mono ?_
        rintro e w8 ⟨rfl, hb8⟩
        exact hK _ _ hb8 rfl
      refine steps_cons ?_ ?_
      · refine step_on rfl rfl ?_
        intro ev w5 hS hc hf hold hval a K ha hK
        have e26 : ev (.tmp 26) = .int .i64 z := hval 12 26 (by kernel_rfl) rfl
        replace hS : (Grow) W w5 := ⟨hS.os, hS.tape, hS.output, hS.size, hS.block⟩
        go_simp
        exact hK _ _ ((Below.refl _ _)) rfl
      exact steps_nil
    · intro ev w6 hS hval
      replace hS : (Grow) W w6 := ⟨hS.os, hS.tape, hS.output, hS.size, hS.block⟩
      have e4 : ev (.tmp 4) = .int .i64 z := hval 13 4 rfl
      simp only [putsOf, List.foldl_cons, List.foldl_nil, Act.put, List.setIfInBounds_toArray, List.set_cons_zero, List.set_cons_succ]
      rw [e4]
      clear hval
      have hxW := HX.out.vis (Vis.of_below hS)
      have hfW := HF.out.trans (LF.of_vb (B := B) (own := own1) (VisK.of_below hS))
      have hfg := fill_start Hg.out HS0.out hr1 (least_smp hz)
      have HI0 := Lib.hid (FillI.mk hxW hfg hfW)
      clear hxW hfW hfg hz hS HX HF HS0 Hg
      go_wp2_with fail
      go_loopw [4] (fun x wr => ∃ (q : Int) (ownq : Nat → Nat) (prq : List (Nat × Nat)), x = .int .i64 q ∧ FillI w wr B own ownq gl gk gp rate mv (symL t) T N at_ rs prq q) (fun x _ => ((N : Int) + 2 - intOf x).toNat)
      case atStart => exact ⟨z, _, _, rfl, HI0.out⟩
      case round =>
        clear HI0
        obtain ⟨q, ownq, prq, rfl, hI⟩ := hrel
        obtain ⟨hq1, hq2⟩ := hI.fg.ge
        have kc := hI.tx.lenc HN.out hn
        have g1 : wr.cell? ⟨gl, 1, none⟩ = some (.pointer (some ⟨gp, 0, none⟩)) := (hI.tx.live.blk.cell 1).trans rfl
        have g2 : wr.cell? ⟨gl, 2, none⟩ = some (.int .i64 (rate : Int)) := (hI.tx.live.blk.cell 2).trans rfl
        have hgl := hI.tx.live.blk.lt
        obtain ⟨mn, hmn⟩ : ∃ mn, min (N : Int) ((at_ : Int) + (rate : Int)) = mn := ⟨_, rfl⟩
        have HI := Lib.hid hI
        have Hmn := Lib.hid hmn
        clear hI
        by_cases hq : q ≤ mn
        · have hqb : decide (q ≤ mn) = true := decide_eq_true hq
          obtain ⟨q1, hq1e⟩ : ∃ q1 : Nat, q + 1 = (q1 : Int) := ⟨(q + 1).toNat, by omega⟩
          have hqN : q ≤ (N : Int) := by omega
          obtain ⟨z2, hz2⟩ := least_ex prq q1
          obtain ⟨nx1, nx2⟩ := nx_of_least (N := N) hz2 hq1e hqN
          have e1 : wrap64 (q + 1) = (q1 : Int) := by rw [wrap64_id (by omega) (by omega)]; exact hq1e
          have Hz2 := Lib.hid hz2
          have Hnx1 := Lib.hid nx1
          have Hnx2 := Lib.hid nx2
          have Hq1e := Lib.hid hq1e
          clear hz2 nx1 nx2
          go_wp2_with fail
          go_quiet ((with_reducible exact kc _))
          rename_i nq
          have hxq := HI.out.tx.vis (Vis.of_below (below_drewN (Below.refl _ _) nq))
          have hnext := PermNextZ_any gp (N + 1) (N + 1) prq q1 z2 (wr.drewN nq) hxq.live.permR Hz2.out
          clear hxq
          go_wp2_with fail
          refine hnext.mono ?_
          clear hnext
          rintro e w1 ⟨rfl, hb1⟩
          have hvq : VB B wr w1 := VisK.of_below ((below_drewN (Below.refl _ _) nq).trans hb1)
          have hx1 := HI.out.tx.vis hvq.1
          have hf1 := HI.out.lf.trans (LF.of_vb (own := ownq) hvq)
          have Hx1 := Lib.hid hx1
          have Hf1 := Lib.hid hf1
          clear hvq hx1 hf1 hb1 kc g1 g2 hgl
          by_cases hzn : z2 < 0
          · have hznb : decide (z2 < 0) = true := decide_eq_true hzn
            have Hnx := Lib.hid (Hnx1.out (by omega))
            have hlen := Hx1.out.lenc HN.out hn 0
            clear Hnx1 Hnx2
            go_wp2_with fail
            refine hlen.mono ?_
            clear hlen
            rintro e w2 ⟨rfl, m2, rfl⟩
            have hx2 := Hx1.out.vis (Vis.of_below (below_drewN (Below.refl _ _) m2))
            have hf2 := Hf1.out.trans (LF.of_vb (B := B) (own := ownq) (VisK.of_below (below_drewN (Below.refl _ _) m2)))
            have Hx2 := Lib.hid hx2
            have Hf2 := Lib.hid hf2
            clear hx2 hf2
            generalize w1.drewN m2 = w2 at Hx2 Hf2 ⊢
            obtain ⟨nx, hnx⟩ : ∃ nx : Int, ((N + 1 : Nat) : Int) = nx := ⟨_, rfl⟩
            rw [hnx] at Hnx
            have e67' : wrap64 ((N : Int) + 1) = nx := by rw [e67]; exact hnx
            have hnl := Hnx.out.1
            have hnN : nx ≤ ((N + 1 : Nat) : Int) := by
              rcases Hnx.out.2.2 with e | ⟨s, hs, e⟩
              · omega
              · have := HI.out.fg.le s hs
                omega
            have e2 : IntKind.i64.wrap (nx - q) = nx - q := by rw [IntKind.wrap_i64]; omega
            have g2 : w2.cell? ⟨gl, 2, none⟩ = some (.int .i64 (rate : Int)) := (Hx2.out.live.blk.cell 2).trans rfl
            have hgl2 := Hx2.out.live.blk.lt
            by_cases hfar : nx - q ≤ (rate : Int)
            · have hfarb : decide (nx - q > (rate : Int)) = false := decide_eq_false (by omega)
              have hfarc : ¬ (rate : Int) < nx - q := by omega
              have hfg2 := fill_next HI.out.fg Hnx.out hfar
              have Hfg2 := Lib.hid hfg2
              clear hfg2
              go_wp2_with fail
              go_roundw
              case rel => exact ⟨nx, ownq, prq, by first | rfl | (congr 1 <;> omega), Hx2.out, Hfg2.out, Hf2.out⟩
              case measure => simp [intOf]; omega
            · have hfarb : decide (nx - q > (rate : Int)) = true := decide_eq_true (by omega)
              have hfarc : (rate : Int) < nx - q := by omega
              obtain ⟨p, hp, hpN, hpS, _⟩ := fill_add (S' := Smp prq) HI.out.fg Hnx.out hqN hr1 hfar
              have e3 : IntKind.i64.wrap (q + (rate : Int)) = (p : Int) := by rw [IntKind.wrap_i64]; omega
              have hadd := LAdd_any w2 B ownq gl gk gp rate mv t T N rs prq p Hx2.out HN.out hn hpN (fun x hx e => hpS ⟨x, hx, e⟩)
              unfold AddPost at hadd
              have Hp := Lib.hid hp
              have HpS := Lib.hid hpS
              clear hp hpS
              go_wp2_with fail
              refine hadd.mono ?_
              clear hadd
              rintro e w3 ⟨rfl, own3, pr3, hx3, hs3, hf3⟩
              have hfg3 : FG (Smp pr3) rate N at_ (p : Int) := by
                obtain ⟨p', hp', _, _, hpF⟩ := fill_add (S' := Smp pr3) HI.out.fg Hnx.out hqN hr1 (by omega)
                have : p' = p := by have := Hp.out; omega
                subst this
                exact hpF hs3
              have Hfg3 := Lib.hid hfg3
              have Hx3 := Lib.hid hx3
              have Hf3 := Lib.hid (Hf2.out.trans hf3)
              have Hlt := Lib.hid (show q < (p : Int) by have := Hp.out; omega)
              clear hfg3 hx3 hs3 hf3
              go_wp2_with fail
              go_roundw
              case rel => exact ⟨(p : Int), own3, pr3, rfl, Hx3.out, Hfg3.out, Hf3.out⟩
              case measure => simp [intOf]; have := Hlt.out; omega
          · have hznb : decide (z2 < 0) = false := decide_eq_false hzn
            have Hnx := Lib.hid (Hnx2.out (by omega))
            clear Hnx1 Hnx2
            obtain ⟨nx, hnx⟩ : ∃ nx : Int, z2 = nx := ⟨_, rfl⟩
            rw [hnx] at Hnx hznb ⊢
            have Hx2 := Hx1
            have Hf2 := Hf1
            clear Hx1 Hf1
            generalize w1 = w2 at Hx2 Hf2 ⊢
            have hnl := Hnx.out.1
            have hnN : nx ≤ ((N + 1 : Nat) : Int) := by
              rcases Hnx.out.2.2 with e | ⟨s, hs, e⟩
              · omega
              · have := HI.out.fg.le s hs
                omega
            have e2 : IntKind.i64.wrap (nx - q) = nx - q := by rw [IntKind.wrap_i64]; omega
            have g2 : w2.cell? ⟨gl, 2, none⟩ = some (.int .i64 (rate : Int)) := (Hx2.out.live.blk.cell 2).trans rfl
            have hgl2 := Hx2.out.live.blk.lt
            by_cases hfar : nx - q ≤ (rate : Int)
            · have hfarb : decide (nx - q > (rate : Int)) = false := decide_eq_false (by omega)
              have hfarc : ¬ (rate : Int) < nx - q := by omega
              have hfg2 := fill_next HI.out.fg Hnx.out hfar
              have Hfg2 := Lib.hid hfg2
              clear hfg2
              go_wp2_with fail
              go_roundw
              case rel => exact ⟨nx, ownq, prq, by first | rfl | (congr 1 <;> omega), Hx2.out, Hfg2.out, Hf2.out⟩
              case measure => simp [intOf]; omega
            · have hfarb : decide (nx - q > (rate : Int)) = true := decide_eq_true (by omega)
              have hfarc : (rate : Int) < nx - q := by omega
              obtain ⟨p, hp, hpN, hpS, _⟩ := fill_add (S' := Smp prq) HI.out.fg Hnx.out hqN hr1 hfar
              have e3 : IntKind.i64.wrap (q + (rate : Int)) = (p : Int) := by rw [IntKind.wrap_i64]; omega
              have hadd := LAdd_any w2 B ownq gl gk gp rate mv t T N rs prq p Hx2.out HN.out hn hpN (fun x hx e => hpS ⟨x, hx, e⟩)
              unfold AddPost at hadd
              have Hp := Lib.hid hp
              have HpS := Lib.hid hpS
              clear hp hpS
              go_wp2_with fail
              refine hadd.mono ?_
              clear hadd
              rintro e w3 ⟨rfl, own3, pr3, hx3, hs3, hf3⟩
              have hfg3 : FG (Smp pr3) rate N at_ (p : Int) := by
                obtain ⟨p', hp', _, _, hpF⟩ := fill_add (S' := Smp pr3) HI.out.fg Hnx.out hqN hr1 (by omega)
                have : p' = p := by have := Hp.out; omega
                subst this
                exact hpF hs3
              have Hfg3 := Lib.hid hfg3
              have Hx3 := Lib.hid hx3
              have Hf3 := Lib.hid (Hf2.out.trans hf3)
              have Hlt := Lib.hid (show q < (p : Int) by have := Hp.out; omega)
              clear hfg3 hx3 hs3 hf3
              go_wp2_with fail
              go_roundw
              case rel => exact ⟨(p : Int), own3, pr3, rfl, Hx3.out, Hfg3.out, Hf3.out⟩
              case measure => simp [intOf]; have := Hlt.out; omega
        · have hqb : decide (q ≤ mn) = false := decide_eq_false hq
          have hend := fill_end HI.out.fg (by rw [Hmn.out]; exact hq)
          have Hend := Lib.hid hend
          clear hend
          go_wp2_with fail
          go_quiet ((with_reducible exact kc _))
          rename_i nq
          have hvq : VB B wr (wr.drewN nq) := VisK.of_below (below_drewN (Below.refl _ _) nq)
          have hx1 := HI.out.tx.vis hvq.1
          have hf1 := HI.out.lf.trans (LF.of_vb (own := ownq) hvq)
          have Hx1 := Lib.hid hx1
          have Hf1 := Lib.hid hf1
          clear hvq hx1 hf1 kc g1 g2 hgl
          go_wp2_with fail
          go_end0
          exact ⟨rfl, ownq, prq, Hx1.out, HI.out.fg.zero, Hend.out, Hf1.out⟩
end Go.Proofs.YthkkcelfgcholaaGreat
namespace Go.Proofs.YthkkcelfgcholaaGreat
set_option linter.unusedVariables false
set_option linter.unusedSimpArgs false
theorem symL_ins (t : List UInt8) {k : Nat} (b : UInt8) (h : k ≤ t.length) : symL (insN t k b) = insN (symL t) k (b.toNat + 1) := by
  unfold symL symB insN
  rw [List.map_append, List.map_cons, List.map_take, List.map_drop, List.take_append_of_le_length (by simpa using h), List.drop_append_of_le_length (by simpa using h)]
  simp
theorem set_perm {L : List Nat} {k s old : Nat} (h : L[k]? = some old) : (old :: L.set k s).Perm (s :: L) := by
  obtain ⟨hk, e⟩ := List.getElem?_eq_some_iff.1 h
  have h1 : L.set k s = L.take k ++ s :: L.drop (k + 1) := List.set_eq_take_append_cons_drop .. |>.trans (by rw [if_pos hk])
  have h2 : L = L.take k ++ old :: L.drop (k + 1) := by
    conv => lhs; rw [← List.take_append_drop k L]
    rw [List.drop_eq_getElem_cons hk, e]
  rw [h1]
  conv => rhs; rw [h2]
  refine ((List.perm_middle).cons old).trans ?_
  refine (List.Perm.swap s old _).trans ?_
  exact ((List.perm_middle).symm.cons s)
section
variable {S S' : Nat → Prop} {r N at_ : Nat}
theorem pregap_ins (hg : GapOk S r N) (h0 : S 0) (hle : ∀ s, S s → s ≤ N) (hr : 1 ≤ r) (hat : at_ ≤ N) (hS : ∀ p, S' p ↔ ∃ s, S s ∧ p = sh at_ s) : PreGap S' r (N + 1) at_ := by
  have mk : ∀ s, S s → S' (sh at_ s) := fun s hs => (hS _).2 ⟨s, hs, rfl⟩
  have hz : S' 0 ∨ (at_ = 0 ∧ S' 1) := by
    by_cases c : at_ = 0
    · right
      have := mk 0 h0
      unfold sh at this
      rw [if_neg (by omega)] at this
      exact ⟨c, this⟩
    · left
      have := mk 0 h0
      unfold sh at this
      rw [if_pos (by omega)] at this
      exact this
  refine ⟨fun p hp => ?_, fun p hp hc hN => ?_, fun p hp hN => ?_⟩
  · obtain ⟨s, hs, rfl⟩ := (hS p).1 hp
    have := hle s hs
    unfold sh
    split <;> omega
  · by_cases hp' : S' p
    · obtain ⟨s, hs, rfl⟩ := (hS p).1 hp'
      unfold sh at hc hN ⊢
      by_cases c : s < at_
      · rw [if_pos c] at hc hN ⊢
        obtain ⟨u, hu, h1, h2⟩ := hg s hs (by omega)
        have := mk u hu
        unfold sh at this
        rw [if_pos (by omega)] at this
        exact ⟨u, this, h1, h2⟩
      · rw [if_neg c] at hc hN ⊢
        obtain ⟨u, hu, h1, h2⟩ := hg s hs (by omega)
        have := mk u hu
        unfold sh at this
        rw [if_neg (by omega)] at this
        exact ⟨u + 1, this, by omega, by omega⟩
    · have e : p = 0 := hp.resolve_left hp'
      subst e
      rcases hz with h | ⟨_, h⟩
      · exact absurd h hp'
      · exact ⟨1, h, by omega, by omega⟩
  · by_cases hp' : S' p
    · obtain ⟨s, hs, rfl⟩ := (hS p).1 hp'
      unfold sh at hN ⊢
      by_cases c : s < at_
      · rw [if_pos c] at hN ⊢
        obtain ⟨u, hu, h1, h2⟩ := hg s hs (by omega)
        have := mk u hu
        unfold sh at this
        by_cases c2 : u < at_
        · rw [if_pos c2] at this
          exact ⟨u, this, h1, by omega⟩
        · rw [if_neg c2] at this
          exact ⟨u + 1, this, by omega, by omega⟩
      · rw [if_neg c] at hN ⊢
        obtain ⟨u, hu, h1, h2⟩ := hg s hs (by omega)
        have := mk u hu
        unfold sh at this
        rw [if_neg (by omega)] at this
        exact ⟨u + 1, this, by omega, by omega⟩
    · have e : p = 0 := hp.resolve_left hp'
      subst e
      rcases hz with h | ⟨_, h⟩
      · exact absurd h hp'
      · exact ⟨1, h, by omega, by omega⟩
end
end Go.Proofs.YthkkcelfgcholaaGreat
namespace Go.Proofs.YthkkcelfgcholaaGreat
open Go.RowKit Go.Shelf
set_option linter.unusedVariables false
set_option linter.unusedSimpArgs false
/-- gl is a Live of the text t, at this rate, whose blocks have their colours. -/
def LiveE (w : World) (B : Nat) (own : Nat → Nat) (gl : Nat) (t : List UInt8) (rate : Nat) : Prop :=
  ∃ gk gp mv T rs pr, TxM w B own gl gk gp rate mv (symL t) T t.length rs pr ∧ Smp pr 0 ∧ GapOk (Smp pr) rate t.length
theorem LiveE.vis {w w' : World} {B : Nat} {own : Nat → Nat} {gl : Nat} {t : List UInt8} {rate : Nat} (h : LiveE w B own gl t rate) (k : Vis w w') : LiveE w' B own gl t rate := by
  obtain ⟨gk, gp, mv, T, rs, pr, h1, h2⟩ := h
  exact ⟨gk, gp, mv, T, rs, pr, h1.vis k, h2⟩
theorem LiveE.bnd {w : World} {B : Nat} {own : Nat → Nat} {gl : Nat} {t : List UInt8} {rate : Nat} (h : LiveE w B own gl t rate) : ∀ b, own b ≠ 0 → B ≤ b ∧ b < w.heap.size := by
  obtain ⟨gk, gp, mv, T, rs, pr, h1, h2⟩ := h
  exact h1.live.bnd
theorem TxM.len {w : World} {B : Nat} {own : Nat → Nat} {gl gk gp rate : Nat} {mv : Int} {t : List UInt8} {T : List Nat} {N : Nat} {rs : List Nat} {pr : List (Nat × Nat)} (h : TxM w B own gl gk gp rate mv (symL t) T N rs pr) (hN : t.length = N) : (lastL (symL t) rs).length = N + 1 ∧ T.length = N + 1 ∧ rs.length = N + 1 := by
  have h1 := h.suf.len
  rw [symL_len, hN] at h1
  have h2 : (lastL (symL t) rs).length = N + 1 := by rw [lastL_len, h1]
  exact ⟨h2, by rw [h.tal.length_eq, h2], h1⟩
/-- The row ahead. -/
theorem back_row {S R : List Nat} {N at_ : Nat} (h : IsSuf S R) (he : EndOk S N) (h0 : 0 < at_) (ha : at_ ≤ N) : narL (lastL S R) (S.getD (at_ - 1) 0) (ro R at_) = ro R (at_ - 1) ∧ (lastL S R)[ro R at_]? = some (S.getD (at_ - 1) 0) := by
  have hl := h.len
  have hS := he.len
  have m1 : at_ ∈ R := h.mem (by omega)
  have m2 : at_ - 1 ∈ R := h.mem (by omega)
  have l1 : ro R at_ < R.length := List.idxOf_lt_length_iff.2 m1
  have l2 : ro R (at_ - 1) < R.length := List.idxOf_lt_length_iff.2 m2
  have e1 : R[ro R at_] = at_ - 1 + 1 := by rw [List.getElem_idxOf]; omega
  have e2 : R[ro R (at_ - 1)] = at_ - 1 := List.getElem_idxOf _
  refine ⟨lf h he l1 l2 e1 e2, ?_⟩
  have := lastL_at he l1 e1 (by omega)
  rw [List.getElem?_eq_getElem (by rw [lastL_len]; exact l1), this]
def InsE (w : World) (B : Nat) (own : Nat → Nat) (gl : Nat) (t : List UInt8) (rate : Nat) (e : Ending) (w' : World) : Prop := e = .returned (.int .i64 0) ∧ ∃ own', LiveE w' B own' gl t rate ∧ LF B w w' own own'
set_option maxRecDepth 100000 in
set_option maxHeartbeats 4000000 in
theorem LInsert_any (w : World) (B : Nat) (own : Nat → Nat) (gl : Nat) (t : List UInt8) (rate at_ : Nat) (b : UInt8) (h : LiveE w B own gl t rate) (hn : t.length ≤ 126) (hat : at_ ≤ t.length) (hr1 : 1 ≤ rate) (hr2 : rate ≤ 64) :
    Calls Tryz.prog 7 #[.pointer (some ⟨gl, 0, none⟩), .int .i64 (at_ : Int), .int .u8 (b.toNat : Int)] w (InsE w B own gl (insN t at_ b) rate) := by
  obtain ⟨gk, gp, mv, T, rs, pr, hx, hs0, hgap⟩ := h
  obtain ⟨N, hN⟩ : ∃ N, t.length = N := ⟨_, rfl⟩
  have hN' := hN
  rw [hN] at hx hgap hn hat
  obtain ⟨hLl, hTl, hrl⟩ := hx.len hN
  have hend := symL_end t
  rw [hN] at hend
  obtain ⟨s, hs⟩ : ∃ s, b.toNat + 1 = s := ⟨_, rfl⟩
  have hs257 : s < 257 := by have := b.toNat_lt; omega
  have hsp : 0 < s := by omega
  obtain ⟨S, hS⟩ : ∃ S, symL t = S := ⟨_, rfl⟩
  have hS2 : symL (insN t at_ b) = insN S at_ s := by rw [symL_ins t b (by omega), hS, hs]
  have hSl := hend.len
  have hS257 : ∀ x ∈ S, x < 257 := by rw [← hS]; exact symL_lt t
  rw [hS] at hend hLl hSl
  obtain ⟨k, hk⟩ : ∃ k, ro rs at_ = k := ⟨_, rfl⟩
  have hsuf := hx.suf
  rw [hS] at hsuf
  have hmem : ∀ p, p ≤ N → p ∈ rs := fun p hp => hsuf.mem (by omega)
  have hrk : rs[k]? = some at_ := by rw [← hk]; exact ro_get (hmem at_ hat)
  have hkN : k < N + 1 := by rw [← hrl]; exact (List.getElem?_eq_some_iff.1 hrk).1
  obtain ⟨hrowle, hnear⟩ := near_ins hsuf hend (s := s) hat hsp
  have hnd : rs.Nodup := hsuf.nodup
  have hperm : rs.Perm (List.range (N + 1)) := by have := hsuf.perm; rwa [hSl] at this
  obtain ⟨row, hrow⟩ : ∃ row, narL (lastL S rs) s (ro rs at_) = row := ⟨_, rfl⟩
  rw [hrow] at hrowle hnear
  have hL2 := lastL_ins hnd hperm hend (s := s) (row := row) hat hrowle
  obtain ⟨ri1, ri2, ri3⟩ := ro_ins hnd (at_ := at_) (row := row) hrowle
  obtain ⟨R1, hR1⟩ : ∃ R1, insN (rs.map (sh at_)) row at_ = R1 := ⟨_, rfl⟩
  rw [hR1] at hnear hL2 ri1 ri2 ri3
  rw [hk] at hrow hL2
  obtain ⟨L, hL⟩ : ∃ L, lastL S rs = L := ⟨_, rfl⟩
  rw [hL] at hrow hL2 hLl
  obtain ⟨old, hold⟩ : ∃ old, prevL S at_ = old := ⟨_, rfl⟩
  rw [hold] at hL2
  have hLk : L[k]? = some old := by
    rw [← hL, ← hold]
    unfold lastL
    rw [List.getElem?_map, hrk]
    rfl
  have hL257 : ∀ x ∈ L, x < 257 := by rw [← hL]; exact lastL_lt hS257
  have hold257 : old < 257 := hL257 old (List.mem_of_getElem? hLk)
  rw [hrl] at hrowle
  have hlive := hx.live
  rw [hS, hL] at hlive
  have htal := hx.tal
  rw [hS, hL] at htal
  have hset257 : ∀ x ∈ L.set k s, x < 257 := fun x hxx => by
    rcases List.mem_or_eq_of_mem_set hxx with h1 | h1
    · exact hL257 x h1
    · omega
  have hsetk : (L.set k s)[k]? = some s := by rw [List.getElem?_set_self (by omega)]
  have hnar : narT (L.set k s) T s k = row := by
    rw [← hrow]
    unfold narT narL
    rw [htal.countP_eq, List.take_set_of_le (Nat.le_refl _)]
  have htal2 : (T ++ [s]).Perm (lastL (insN S at_ s) R1) := by
    rw [hL2]
    refine (List.perm_append_comm).trans ?_
    refine ((htal.cons s).trans (set_perm hLk).symm).trans ?_
    exact (insN_perm _ _ _).symm
  have hpr2 : ∀ x ∈ (pr.map fun x => (inR x.1 row, x.2)).map (fun x => (x.1, inR x.2 at_)), R1[x.1]? = some x.2 := fun x hxx => by
    rw [List.map_map] at hxx
    obtain ⟨y, hy, rfl⟩ := List.mem_map.1 hxx
    have h1 := hx.right y hy
    have h2 := List.mem_of_getElem? h1
    have h3 := ri2 y.2 h2
    have h4 : sh at_ y.2 = inR y.2 at_ := by unfold sh inR; split <;> split <;> omega
    rw [ro_of hnd h1] at h3
    show R1[inR y.1 row]? = some (inR y.2 at_)
    rw [← h3, ← h4]
    refine ro_get (hnear.mem.2 ?_)
    have := hperm.mem_iff.1 h2
    rw [List.mem_range] at this
    unfold sh
    split <;> omega
  have hplc : ∀ p, Smp ((pr.map fun x => (inR x.1 row, x.2)).map (fun x => (x.1, inR x.2 at_))) p ↔ ∃ s, Smp pr s ∧ p = sh at_ s := fun p => by
    have h4 : ∀ q, sh at_ q = inR q at_ := fun q => by unfold sh inR; split <;> split <;> omega
    unfold Smp
    rw [List.map_map]
    constructor
    · rintro ⟨x, hxx, rfl⟩
      obtain ⟨y, hy, rfl⟩ := List.mem_map.1 hxx
      exact ⟨y.2, ⟨y, hy, rfl⟩, (h4 _).symm⟩
    · rintro ⟨_, ⟨y, hy, rfl⟩, rfl⟩
      exact ⟨_, List.mem_map.2 ⟨y, hy, rfl⟩, (h4 _).symm⟩
  have hple : ∀ s, Smp pr s → s ≤ N := fun s ⟨x, hxx, e⟩ => by
    have := (hlive.perm.2.2 x hxx).2
    omega
  have hpg := fun (S' : Nat → Prop) (hS' : ∀ p, S' p ↔ ∃ s, Smp pr s ∧ p = sh at_ s) => pregap_ins hgap hs0 hple hr1 hat hS'
  have hprne : pr ≠ [] := fun e => by
    obtain ⟨x, hxx, _⟩ := hs0
    rw [e] at hxx
    cases hxx
  -- the row ahead
  obtain ⟨ah, hah⟩ : ∃ ah : Int, (if at_ = 0 then -1 else ((ro rs (at_ - 1) : Nat) : Int)) = ah := ⟨_, rfl⟩
  have hahead : ∀ w5, VB B w w5 ∨ True → LiveM w5 B own gl gk gp rate 0 (N + 1) (N + 1) L T pr → Calls Tryz.prog 23 #[.pointer (some ⟨gl, 0, none⟩), .int .i64 (at_ : Int), .int .i64 (k : Int)] w5 fun e w' => e = .returned (.int .i64 ah) ∧ VB B w5 w' := fun w5 _ h5 => by
    by_cases c : at_ = 0
    · rw [if_pos c] at hah
      subst c hah
      refine (LAhead0_any k w5 gl).mono ?_
      rintro e w' ⟨rfl, rfl⟩
      exact ⟨rfl, VisK.refl _ _⟩
    · rw [if_neg c] at hah
      obtain ⟨b1, b2⟩ := back_row hsuf hend (by omega) hat
      rw [hL, hk] at b1 b2
      have := LAhead_any at_ k (S.getD (at_ - 1) 0) h5 (by omega) b2 hL257 (by omega) (by omega)
      rw [narT_perm htal, b1, hah] at this
      exact this
  have haOf : inI ah (row : Int) = aOf R1 at_ := by
    rw [← hah]
    unfold aOf
    by_cases c : at_ = 0
    · rw [if_pos c, if_pos c, inI_neg]
    · rw [if_neg c, if_neg c, inI_nat]
      have h3 := ri2 (at_ - 1) (hmem _ (by omega))
      rw [show sh at_ (at_ - 1) = at_ - 1 by unfold sh; rw [if_pos (by omega)]] at h3
      rw [h3]
  have hahb : -1000000 ≤ ah ∧ ah ≤ 1000000 := by
    rw [← hah]
    by_cases c : at_ = 0
    · rw [if_pos c]; omega
    · rw [if_neg c]
      have l2 : ro rs (at_ - 1) < rs.length := List.idxOf_lt_length_iff.2 (hmem (at_ - 1) (by omega))
      omega
  have H := Lib.hid hx
  have Hlive := Lib.hid hlive
  have Htal := Lib.hid htal
  have HN := Lib.hid hN'
  have HS := Lib.hid hS
  have HS2 := Lib.hid hS2
  have HLl := Lib.hid hLl
  have HTl := Lib.hid hTl
  have HL257 := Lib.hid hL257
  have HLk := Lib.hid hLk
  have Hrk := Lib.hid hrk
  have Hset257 := Lib.hid hset257
  have Hsetk := Lib.hid hsetk
  have Hnar := Lib.hid hnar
  have HL2 := Lib.hid hL2
  have Htal2 := Lib.hid htal2
  have Hpr2 := Lib.hid hpr2
  have Hplc := Lib.hid hplc
  have Hpg := Lib.hid hpg
  have Hnear := Lib.hid hnear
  have Hri1 := Lib.hid ri1
  have HaOf := Lib.hid haOf
  have Hahead := Lib.hid hahead
  have Hprne := Lib.hid hprne
  have Hs := Lib.hid hs
  have HS257 := Lib.hid hS257
  have HL := Lib.hid hL
  have hatI : (at_ : Int) ≤ (N : Int) := by omega
  have hlen0 := LiveLen_any B gl L N w (hlive.g htal).lvw hLl (by omega)
  have hblk0 := hlive.blk
  have hrt := hx.right
  have hsf := hx.suf
  have Hrt := Lib.hid hrt
  have Hsf := Lib.hid hsf
  have Hblk0 := Lib.hid hblk0
  clear hrt hsf hblk0
  unfold InsE
  clear hx hlive htal hN hN' hS hS2 hLl hTl hL257 hLk hrk hset257 hsetk hnar hL2 htal2 hpr2 hplc hpg hnear ri1 ri2 ri3 haOf hahead hprne hs hS257 hgap hs0 hsuf hmem hend hperm hnd hrow hR1 hold hrl hSl hple hk hah hL
  go_enter Tryz.func7, Tryz.ntmps7
  go_wp2_with fail
  refine hlen0.mono ?_
  clear hlen0
  rintro e w1 ⟨rfl, rfl⟩
  go_wp2_with fail
  refine (Asks_ok gl _ _ _ mv (at_ : Int) (N : Int) w Hblk0.out (by omega) hatI).mono ?_
  rintro e w1 ⟨rfl, rfl⟩
  obtain ⟨hl1, hf1⟩ := Hlive.out.setMv 0
  have Hl1 := Lib.hid hl1
  have Hf1 := Lib.hid hf1
  clear hl1 hf1 Hblk0 Hlive H
  generalize w.setCell ⟨gl, 3, none⟩ (.int .i64 0) = w1 at Hl1 Hf1 ⊢
  go_wp2_with fail
  refine (SymOf_any b w1).mono ?_
  rintro e w2 ⟨rfl, hb2⟩
  rw [Hs.out]
  have hv2 : VB B w1 w2 := VisK.of_below hb2
  have hl2 := Hl1.out.vis hv2.1
  have Hf2 := Lib.hid (Hf1.out.trans (LF.of_vb (own := own) hv2))
  have Hl2 := Lib.hid hl2
  clear hb2 hv2 hl2
  have hrowc : Calls Tryz.prog 21 #[.pointer (some ⟨gl, 0, none⟩), .int .i64 (at_ : Int)] w2 fun e w' => e = .returned (.int .i64 (k : Int)) ∧ VB B w2 w' := by
    have hg := Hl2.out.g Htal.out
    have := LiveRowG_any B gl gk gp rate t rs pr k at_ w2 (by rw [HN.out, HS.out]; rw [HL.out]; exact hg) Hrt.out Hsf.out (by rw [HN.out]; omega) Hrk.out
    exact this
  go_wp2_with fail
  refine hrowc.mono ?_
  clear hrowc
  rintro e w3 ⟨rfl, hv3⟩
  have Hl3 := Lib.hid (Hl2.out.vis hv3.1)
  have Hf3 := Lib.hid (Hf2.out.trans (LF.of_vb (own := own) hv3))
  clear hv3 Hl2 Hf2 Hl1 Hf1
  obtain ⟨gv, gt, hgw, hwv⟩ := Hl3.out.gw
  have q0 := Hl3.out.blk.cell 0
  have q1 := hgw.cell 0
  have hget := WaveGet_any B gv L k old w3 hwv (by rw [HLl.out]; exact hkN) (by have h9 := HLk.out; rw [List.getElem?_eq_getElem (by rw [HLl.out]; exact hkN)] at h9; injection h9) HL257.out (by rw [HLl.out]; omega)
  clear hgw hwv
  go_wp2_with fail
  refine hget.mono ?_
  clear hget
  rintro e w4 ⟨rfl, hv4⟩
  have Hl4 := Lib.hid (Hl3.out.vis hv4.1)
  have Hf4 := Lib.hid (Hf3.out.trans (LF.of_vb (own := own) hv4))
  clear hv4 q0 q1 Hl3 Hf3
  have hahc := Hahead.out w4 (.inr trivial) Hl4.out
  clear Hahead
  go_wp2_with fail
  refine hahc.mono ?_
  clear hahc
  rintro e w5 ⟨rfl, hv5⟩
  have Hl5 := Lib.hid (Hl4.out.vis hv5.1)
  have Hf5 := Lib.hid (Hf4.out.trans (LF.of_vb (own := own) hv5))
  clear hv5 Hl4 Hf4
  have q0 := Hl5.out.blk.cell 0
  have hch := WalkChange_any B gk own L T k old s w5 Hl5.out.walk HLk.out hs257 HL257.out (by rw [HLl.out]; omega)
  go_wp2_with fail
  refine hch.mono ?_
  clear hch
  rintro e w6 ⟨rfl, own1, hE6, hG6⟩
  obtain ⟨hl6, hf6⟩ := Hl5.out.walkOp hE6 hG6
  have Hl6 := Lib.hid hl6
  have Hf6 := Lib.hid (Hf5.out.trans hf6)
  clear hl6 hf6 hE6 hG6 q0 Hl5 Hf5
  have hto := LTo_any k s Hl6.out Hsetk.out Hset257.out (by rw [List.length_set, HLl.out]; omega) (by rw [HTl.out]; omega)
  rw [Hnar.out] at hto
  go_wp2_with fail
  refine hto.mono ?_
  clear hto
  rintro e w7 ⟨rfl, hv7⟩
  have Hl7 := Lib.hid (Hl6.out.vis hv7.1)
  have Hf7 := Lib.hid (Hf6.out.trans (LF.of_vb (own := own1) hv7))
  clear hv7 Hl6 Hf6
  have q0 := Hl7.out.blk.cell 0
  have hput := WalkPut_any B gk own1 (L.set k s) T row old w7 Hl7.out.walk hold257 (by rw [List.length_set, HLl.out]; exact hrowle) Hset257.out (by rw [List.length_set, HLl.out]; omega)
  go_wp2_with fail
  refine hput.mono ?_
  clear hput
  rintro e w8 ⟨rfl, own2, hE8, hG8⟩
  obtain ⟨hl8, hf8⟩ := Hl7.out.walkOp hE8 hG8
  have Hl8 := Lib.hid hl8
  have Hf8 := Lib.hid (Hf7.out.trans hf8)
  clear hl8 hf8 hE8 hG8 q0 Hl7 Hf7
  have q0 := Hl8.out.blk.cell 0
  have hcnt := WalkCountIn_any B gk own2 _ T s w8 Hl8.out.walk hs257 (by rw [HTl.out]; omega)
  go_wp2_with fail
  refine hcnt.mono ?_
  clear hcnt
  rintro e w9 ⟨rfl, hE9, hG9⟩
  obtain ⟨hl9, hf9⟩ := Hl8.out.walkOp hE9 hG9
  have Hl9 := Lib.hid hl9
  have Hf9 := Lib.hid (Hf8.out.trans hf9)
  clear hl9 hf9 hE9 hG9 q0 Hl8 Hf8
  have q1 : w9.cell? ⟨gl, 1, none⟩ = some (.pointer (some ⟨gp, 0, none⟩)) := (Hl9.out.blk.cell 1).trans rfl
  have hri := PermRowIn_any (fun b => own2 b = 1) gp (N + 1) (N + 1) row pr w9 Hl9.out.perm hrowle (by omega) (by omega)
  go_wp2_with fail
  refine hri.mono ?_
  clear hri
  rintro e wA ⟨rfl, hPA, hkA⟩
  obtain ⟨hlA, hfA⟩ := Hl9.out.permOp (hPA.mono fun b _ f => .inl f) hkA
  obtain ⟨own3, ho3⟩ : ∃ o, recol own2 w9.heap.size wA.heap.size 1 = o := ⟨_, rfl⟩
  rw [ho3] at hlA hfA
  have HlA := Lib.hid hlA
  have HfA := Lib.hid (Hf9.out.trans hfA)
  clear hlA hfA hPA hkA q1 Hl9 Hf9 ho3
  have q1 : wA.cell? ⟨gl, 1, none⟩ = some (.pointer (some ⟨gp, 0, none⟩)) := (HlA.out.blk.cell 1).trans rfl
  have hpi := PermPosIn_any (fun b => own3 b = 1) gp (N + 1 + 1) (N + 1) at_ _ wA HlA.out.perm (by omega) (by omega) (by omega)
  go_wp2_with fail
  refine hpi.mono ?_
  clear hpi
  rintro e wB ⟨rfl, hPB, hkB⟩
  obtain ⟨hlB, hfB⟩ := HlA.out.permOp (hPB.mono fun b _ f => .inl f) hkB
  obtain ⟨own4, ho4⟩ : ∃ o, recol own3 wA.heap.size wB.heap.size 1 = o := ⟨_, rfl⟩
  rw [ho4] at hlB hfB
  have HlB := Lib.hid hlB
  have HfB := Lib.hid (HfA.out.trans hfB)
  clear hlB hfB hPB hkB q1 HlA HfA ho4
  have hin := In_any2 ah (row : Int) wB hahb
  rw [HaOf.out] at hin
  go_wp2_with fail
  refine hin.mono ?_
  clear hin
  rintro e wC ⟨rfl, rfl⟩
  have hreo := Reorder_any w wB B own own4 gl gk gp rate 0 (insN S at_ s) (T ++ [s]) (N + 1) at_ R1 ((pr.map fun x => (inR x.1 row, x.2)).map (fun x => (x.1, inR x.2 at_))) _ ⟨Hnear.out, by rw [HL2.out]; exact HlB.out, Htal2.out, Hpr2.out, fun p => Iff.rfl, fun _ e => Hprne.out (by simpa using e), HfB.out⟩ (by omega) (by omega) (insN_lt HS257.out hs257)
  rw [Hri1.out] at hreo
  unfold ReoPost at hreo
  go_wp2_with fail
  refine hreo.mono ?_
  clear hreo
  rintro e wD ⟨rfl, own5, mv5, R5, pr5, hI⟩
  have htl : (insN t at_ b).length = N + 1 := by rw [insN_len _ _ (by rw [HN.out]; exact hat), HN.out]
  have htx : TxM wD B own5 gl gk gp rate mv5 (symL (insN t at_ b)) (T ++ [s]) (N + 1) R5 pr5 := by
    rw [HS2.out]
    exact ⟨hI.near.sorted, hI.live, hI.tal, hI.right⟩
  have hfill := Fill_any wD B own5 gl gk gp rate mv5 (insN t at_ b) (T ++ [s]) (N + 1) at_ R5 pr5 htx htl (by omega) (by omega) hr1 hr2 (Hpg.out (Smp pr5) fun p => (hI.plc p).trans (Hplc.out p))
  unfold FillPost at hfill
  have HlfD := Lib.hid hI.lf
  have Htl := Lib.hid htl
  clear htx htl hI
  go_wp2_with fail
  refine hfill.mono ?_
  clear hfill
  rintro e wE ⟨rfl, own6, pr6, htx6, hs6, hg6, hf6⟩
  have Htx6 := Lib.hid htx6
  have Hs6 := Lib.hid hs6
  have Hg6 := Lib.hid hg6
  have Hf6 := Lib.hid (HlfD.out.trans hf6)
  clear htx6 hs6 hg6 hf6 HlfD
  go_wp2_with fail
  go_ret
  exact ⟨rfl, own6, ⟨gk, gp, mv5, T ++ [s], R5, pr6, by rw [Htl.out]; exact Htx6.out, Hs6.out, by rw [Htl.out]; exact Hg6.out⟩, Hf6.out⟩
end Go.Proofs.YthkkcelfgcholaaGreat
namespace Go.Proofs.YthkkcelfgcholaaGreat
open Go.RowKit Go.Shelf
set_option linter.unusedVariables false
set_option linter.unusedSimpArgs false
theorem WaveS.low {w : World} {B B' : Nat} {own : Nat → Nat} {gv : Nat} {S : Nat → Value} {Ls : Nat → List Nat} {n v : Int} (h : WaveS w B own gv S Ls n v) (hB : B' ≤ B) : WaveS w B' own gv S Ls n v := by
  refine ⟨h.blk, ⟨Nat.le_trans hB h.base.1, h.base.2⟩, fun lv hl => ?_, fun b hb => ⟨Nat.le_trans hB (h.bnd b hb).1, (h.bnd b hb).2⟩⟩
  obtain ⟨G, g1, g2, g3⟩ := h.rows lv hl
  exact ⟨G, own_mono g1 hB, g2, g3⟩
theorem WalkE.low {w : World} {B B' : Nat} {own : Nat → Nat} {gk : Nat} {L T : List Nat} (h : WalkE w B own gk L T) (hB : B' ≤ B) : WalkE w B' own gk L T := by
  obtain ⟨gv, gt, h1, h2, ⟨S, v, h3⟩, h4, h5⟩ := h
  exact ⟨gv, gt, h1, h2, ⟨S, v, h3.low hB⟩, h4, h5⟩
/-- Two blocks more are the walk's. -/
def ownK (own : Nat → Nat) (gt gk b : Nat) : Nat := if b = gt then 2 else if b = gk then 2 else own b
set_option maxRecDepth 100000 in
theorem WalkOfE_any (A : Option Addr) (m c B : Nat) (L : List Nat) (w : World) (hr : Rd w B 1 A m (L.map sv)) (hB : B ≤ w.heap.size) (hm : m ≤ 128) (hL : ∀ s ∈ L, s < 257) :
    Calls Tryz.prog 38 #[.slice A m c] w fun e w' => ∃ gk own, e = .returned (.pointer (some ⟨gk, 0, none⟩)) ∧ w.heap.size ≤ gk ∧ WalkE w' w.heap.size own gk L L ∧ Below w.heap.size w w' := by
  have Hr := Lib.hid hr
  have HL := Lib.hid hL
  clear hr hL
  go_enter Tryz.func38, Tryz.ntmps38
  go_wp2_with fail
  refine (WaveNewE_any A m c B L _ Hr.out hB hm HL.out).mono ?_
  rintro e w1 ⟨gv, own, rfl, hwv, hb1⟩
  have Hwv := Lib.hid hwv
  have Hb1 := Lib.hid hb1
  clear hwv hb1
  go_wp2_with fail
  refine (TallyNew_any A m c B L w1 (Hr.out.below (Hb1.out.mono hB)) (by have := Hb1.out.size; omega) (by omega) HL.out).mono ?_
  rintro e w2 ⟨gt, rfl, hgt, htl, hb2⟩
  have hwv2 := Hwv.out.vis (Vis.of_below hb2)
  have hb3 := Hb1.out.trans (hb2.mono Hb1.out.size)
  have Hwv2 := Lib.hid hwv2
  have Htl := Lib.hid htl
  have Hb3 := Lib.hid hb3
  have Hsz2 := Lib.hid hb2.size
  clear hwv2 htl hb3 hb2
  go_wp2_with fail
  go_ret
  have hw3 := Hwv2.out.vis (w' := w2.alloc (.cells #[.pointer (some ⟨gv, 0, none⟩), .pointer (some ⟨gt, 0, none⟩)] 56)) ((Vis.refl _).alloc _)
  have hbn := Hwv.out.bnd
  have htl2 := Htl.out.lt
  have hb1s := Hb1.out.size
  have hs2 := Hsz2.out
  have hpaint := hw3.paint (own' := ownK own gt w2.heap.size) (fun b hb h2 => by
    have := (hbn b (by omega)).2
    unfold ownK
    rw [if_neg (by omega), if_neg (by omega)]) (fun b hne => by
    unfold ownK at hne
    by_cases c1 : b = gt
    · subst c1
      exact ⟨by omega, by simp; omega⟩
    · rw [if_neg c1] at hne
      by_cases c2 : b = w2.heap.size
      · subst c2
        exact ⟨by omega, by simp⟩
      · rw [if_neg c2] at hne
        have := hbn b hne
        exact ⟨this.1, by simp; omega⟩)
  refine ⟨_, _, rfl, Hb3.out.size, ⟨gv, gt, Bk.new _ _ _, ?_, hpaint, Htl.out.alloc _, ?_⟩, Hb3.out.alloc Hb3.out.size _⟩
  · unfold ownK
    rw [if_neg (by omega), if_pos rfl]
  · unfold ownK
    rw [if_pos rfl]
set_option maxRecDepth 100000 in
theorem WalkNewE_any (A : Option Addr) (m c B : Nat) (t : List UInt8) (w : World) (hr : Rd w B 1 A m (t.map bv)) (hB : B ≤ w.heap.size) (hm : m ≤ 127) :
    Calls Tryz.prog 14 #[.slice A m c] w fun e w' => ∃ gk rs, IsSuf (symL t) rs ∧ e = .returned (.pointer (some ⟨gk, 0, none⟩)) ∧ w.heap.size ≤ gk ∧ (∃ own, WalkE w' w.heap.size own gk (lastL (symL t) rs) (lastL (symL t) rs)) ∧ Below w.heap.size w w' := by
  have Hr := Lib.hid hr
  clear hr
  go_enter Tryz.func14, Tryz.ntmps14
  go_wp2_with fail
  refine (SortedLast_any A m c B t _ Hr.out hB (by omega)).mono ?_
  rintro e w1 ⟨rs, A1, c1, hsuf, rfl, hm1, hb1⟩
  have Hsuf := Lib.hid hsuf
  have Hm1 := Lib.hid hm1.rd
  have Hb1 := Lib.hid hb1
  clear hsuf hm1 hb1
  go_wp2_with fail
  refine (WalkOfE_any A1 (m + 1) c1 _ _ w1 Hm1.out (Nat.le_refl _) (by omega) (lastL_lt (symL_lt t))).mono ?_
  rintro e w2 ⟨gk, own, rfl, hgk, hwk, hb2⟩
  have hb3 := Hb1.out.trans (hb2.mono Hb1.out.size)
  have hz := Hb1.out.size
  have Hwk := Lib.hid hwk
  clear hwk
  go_wp2_with fail
  go_ret
  exact ⟨gk, rs, Hsuf.out, rfl, by omega, ⟨own, Hwk.out.low hz⟩, hb3⟩
theorem LiveE.low {w : World} {B B' : Nat} {own : Nat → Nat} {gl : Nat} {t : List UInt8} {rate : Nat} (h : LiveE w B own gl t rate) (hB : B' ≤ B) : LiveE w B' own gl t rate := by
  obtain ⟨gk, gp, mv, T, rs, pr, ⟨h1, h2, h3, h4⟩, h5⟩ := h
  exact ⟨gk, gp, mv, T, rs, pr, ⟨h1, ⟨h2.blk, h2.col, h2.walk.low hB, h2.perm⟩, h3, h4⟩, h5⟩
theorem LiveE.tp {w : World} {B : Nat} {own : Nat → Nat} {gl : Nat} {t : List UInt8} {rate : Nat} (h : LiveE w B own gl t rate) (hn : t.length ≤ 127) : TpAt w B gl t rate := by
  obtain ⟨gk, gp, mv, T, rs, pr, ⟨h1, h2, h3, h4⟩, h5, h6⟩ := h
  exact ⟨rs, gk, gp, pr, h1, h2.g h3, h4, h5, hn⟩
open Classical in
/-- The colours of a new text: its pairs' blocks, the Live, its walk. -/
noncomputable def ownL (own : Nat → Nat) (gp ga : Nat) (vl vo vt : Value) (gl b : Nat) : Nat := if PF gp ga vl vo vt b then 1 else if b = gl then 3 else own b
theorem PermAt.low {w : World} {B gp ga : Nat} {vl vo vt vf : Value} {R P : Nat} {ks : List Nat} {C : List (Nat × Nat)} {tk : List Bool} {fr : List Nat} (h : PermAt w B gp ga vl vo vt vf R P ks C tk fr) : PermAt w 0 gp ga vl vo vt vf R P ks C tk fr :=
  ⟨h.blk, own_mono h.lrow (Nat.zero_le _), own_mono h.orow (Nat.zero_le _), h.ar, own_mono h.trow (Nat.zero_le _), own_mono h.frow (Nat.zero_le _), h.apart, h.lt, ⟨Nat.zero_le _, Nat.zero_le _⟩⟩
theorem range_rows (C : List (Nat × Nat)) : (List.range C.length).map (fun k => (rowK C k, posK C k)) = C := (range_pairs C).symm
/-- A new text's samples leave no gap. -/
theorem samp_smp {rs : List Nat} {rate n p : Nat} (h : ∃ i, rs[i]? = some p ∧ i < n) (hp : p % rate = 0) : Smp (sampC rs rate n) p := by
  obtain ⟨i, h1, h2⟩ := h
  exact ⟨(i, p), (sampM _ _ _ _ _).2 ⟨h2, by rw [List.getD_eq_getElem?_getD, h1]; rfl, hp⟩, rfl⟩
theorem samp_gap {t : List UInt8} {rs : List Nat} {rate : Nat} (hs : IsSuf (symL t) rs) (hr : 1 ≤ rate) : GapOk (Smp (sampC rs rate (t.length + 1))) rate t.length := fun s ⟨x, hx, e⟩ hN => by
  obtain ⟨a, p⟩ := x
  have h1 := (sampM _ _ _ _ _).1 hx
  have e' : p = s := e
  subst e'
  refine ⟨p + rate, samp_smp ?_ (by rw [Nat.add_mod_right]; exact h1.2.2), by omega, Nat.le_refl _⟩
  obtain ⟨j, hj, ej⟩ := hs.row (p := p + rate) (by rw [symL_len]; omega)
  refine ⟨j, by rw [List.getElem?_eq_getElem hj, ej], ?_⟩
  have := hs.len
  rw [symL_len] at this
  omega
theorem live_made {w wr : World} {Bw w2s B1 : Nat} {own : Nat → Nat} {gl gk gp ga rate N : Nat} {vl vo vt : Value} {t : List UInt8} {rs : List Nat} {tk : List Bool} (hN : t.length = N) (hsuf : IsSuf (symL t) rs) (hr : 1 ≤ rate) (hn : N ≤ 127) (hwk : WalkE wr Bw own gk (lastL (symL t) rs) (lastL (symL t) rs)) (hob : ∀ b, own b ≠ 0 → b < w2s) (hgl : gl = w2s) (hB1 : w2s < B1) (hblk : Bk wr gl 43 #[.pointer (some ⟨gk, 0, none⟩), .pointer (some ⟨gp, 0, none⟩), .int .i64 (rate : Int), .int .i64 0])
    (hp : PermAt wr B1 gp ga vl vo vt (.slice none 0 0) (N + 1) (N + 1) (List.range (sampC rs rate (N + 1)).length) (sampC rs rate (N + 1)) tk []) (htl : tk.length = (sampC rs rate (N + 1)).length) (htk : ∀ b ∈ tk, b = true) (hBw : Bw ≤ w2s) : ∃ own', LiveE wr Bw own' gl t rate := by
  subst hN
  have hfoot : ∀ b, PF gp ga vl vo vt b → B1 ≤ b ∧ b < wr.heap.size := fun b hb => by
    refine ⟨hp.foot hb, ?_⟩
    rcases hb with rfl | rfl | hb | hb | hb
    · exact hp.blk.lt
    · exact hp.ar.lt
    · exact (hp.lrow.lt _ hb).2
    · exact (hp.orow.lt _ hb).2
    · exact (hp.trow.lt _ hb).2
  have ho1 : ∀ b, PF gp ga vl vo vt b → ownL own gp ga vl vo vt gl b = 1 := fun b hb => by unfold ownL; rw [if_pos hb]
  have hogl : ownL own gp ga vl vo vt gl gl = 3 := by
    unfold ownL
    rw [if_neg (fun h => by have := (hfoot _ h).1; omega), if_pos rfl]
  have hoth : ∀ b, b < w2s → ownL own gp ga vl vo vt gl b = own b := fun b hb => by
    unfold ownL
    rw [if_neg (fun h => by have := (hfoot _ h).1; omega), if_neg (by omega)]
  have hrl : rs.length = t.length + 1 := by rw [hsuf.len, symL_len]
  refine ⟨ownL own gp ga vl vo vt gl, gk, gp, 0, _, rs, sampC rs rate (t.length + 1), ⟨hsuf, ⟨hblk, hogl, hwk.paint (fun b _ h2 => hoth b (hob b (by omega))) (fun b hne => ?_), ⟨⟨ga, vl, vo, vt, .slice none 0 0, List.range (sampC rs rate (t.length + 1)).length, sampC rs rate (t.length + 1), tk, [], ?_, (range_rows _).symm⟩, sampC_sorted _ _ _, fun x hx => ?_⟩⟩, List.Perm.refl _, samp_right (by omega)⟩, ?_, samp_gap hsuf hr⟩
  · unfold ownL at hne
    by_cases c1 : PF gp ga vl vo vt b
    · have := hfoot b c1
      exact ⟨by omega, this.2⟩
    · rw [if_neg c1] at hne
      by_cases c2 : b = gl
      · subst c2
        exact ⟨by omega, hblk.lt⟩
      · rw [if_neg c2] at hne
        exact hwk.bnd b hne
  · have htg : ∀ k, k < tk.length → tk[k]? = some true := fun k hk => by
      rw [List.getElem?_eq_getElem hk]
      congr 1
      exact htk _ (List.getElem_mem hk)
    refine ⟨hp.low, ho1 _ (.inl rfl), ho1 _ (.inr (.inl rfl)), fun b hb => ho1 _ (.inr (.inr (.inl hb))), fun b hb => ho1 _ (.inr (.inr (.inr (.inl hb)))), fun b hb => ho1 _ (.inr (.inr (.inr (.inr hb)))), fun b hb => (by cases hb), List.nodup_range, htl, fun k => ?_, List.nodup_nil, fun k => ?_, by have := sampC_le rs rate (t.length + 1); omega⟩
    · rw [List.mem_range, ← htl]
      constructor
      · intro h
        exact (List.getElem?_eq_some_iff.1 h).1
      · exact htg k
    · constructor
      · intro h
        cases h
      · intro h
        have h1 := htg k (List.getElem?_eq_some_iff.1 h).1
        rw [h1] at h
        cases h
  · have h1 := sampC_mem hx
    have h2 := samp_right (rs := rs) (rate := rate) (n := t.length + 1) (by omega) x hx
    have h3 := hsuf.lt (List.mem_of_getElem? h2)
    rw [symL_len] at h3
    exact ⟨h1.1, h3⟩
  · obtain ⟨x, hx, e⟩ := samp_zero (rate := rate) hsuf
    exact ⟨x, hx, e⟩
set_option maxRecDepth 100000 in
set_option maxHeartbeats 4000000 in
theorem LiveNewE_any (rate : Nat) (A0 : Option Addr) (m0 c0 B : Nat) (ss : List Sl) (t : List UInt8) (N : Nat) (hT : catS ss = t) (hN : t.length = N) (w : World) (hr0 : Rd w B 1 A0 m0 (ss.map slV)) (hss : ∀ s ∈ ss, Rd w B 1 s.A s.n (s.l.map bv)) (hB : B ≤ w.heap.size) (hm : m0 ≤ 1000000) (hn : N ≤ 127) (hr1 : 1 ≤ rate) (hr2 : rate ≤ 64) :
    Calls Tryz.prog 6 #[.int .i64 (rate : Int), .slice A0 m0 c0] w fun e w' => ∃ gl own, e = .returned (.tuple #[.pointer (some ⟨gl, 0, none⟩), .int .i64 0]) ∧ w.heap.size ≤ gl ∧ LiveE w' w.heap.size own gl t rate ∧ Below w.heap.size w w' := by
  have hT2 := hN
  have hcat := Concat_any A0 m0 c0 B ss t N hT hN w hr0 hss hB (by omega) (by omega)
  have hrI1 : ¬ ((rate : Int) < 1) := by omega
  have hrI2 : ¬ ((rate : Int) > 64) := by omega
  clear hr0 hss
  go_enter Tryz.func6, Tryz.ntmps6
  go_wp2_with fail
  refine hcat.mono ?_
  clear hcat
  rintro e w1 ⟨A1, c1, rfl, hm1, hb1⟩
  have hbb1 := hb1
  have hR1 := hm1.rd
  have HR1 := Lib.hid hR1
  have Hb1 := Lib.hid hb1
  clear hm1 hb1 hbb1 hR1
  go_wp2_with fail
  refine (WalkNewE_any A1 N c1 w1.heap.size t w1 HR1.out (Nat.le_refl _) hn).mono ?_
  rintro e w2 ⟨gk, rs, hsuf, rfl, hgk, hwk, hb2⟩
  have hR2 := HR1.out.below hb2
  have hb12 := Hb1.out.trans (hb2.mono Hb1.out.size)
  have Hsuf := Lib.hid hsuf
  obtain ⟨ownW, hwk⟩ := hwk
  have hob := hwk.bnd
  have Hob := Lib.hid hob
  clear hob
  have Hwk := Lib.hid (hwk.low Hb1.out.size)
  have HR2 := Lib.hid (hR2.mono hb2.size)
  have Hb2 := Lib.hid hb12
  clear hsuf hwk hR2 hb12 hb2 HR1 Hb1 hgk
  go_wp2_with fail
  obtain ⟨n, hn1⟩ : ∃ n, N + 1 = n := ⟨_, rfl⟩
  have hnI : (N : Int) + 1 = (n : Int) := by omega
  rw [hnI]
  have hlb := Bk.new w2 43 #[.pointer (some ⟨gk, 0, none⟩), .pointer none, .int .i64 (rate : Int), .int .i64 0]
  have hbA : Below w2.heap.size w2 (w2.alloc (.cells #[.pointer (some ⟨gk, 0, none⟩), .pointer none, .int .i64 (rate : Int), .int .i64 0] 43)) := (Below.refl _ _).alloc (Nat.le_refl _) _
  obtain ⟨gl, hgl⟩ : ∃ g, w2.heap.size = g := ⟨_, rfl⟩
  rw [hgl] at hlb
  rw [hgl]
  have Hgl := Lib.hid hgl
  generalize w2.alloc (.cells #[.pointer (some ⟨gk, 0, none⟩), .pointer none, .int .i64 (rate : Int), .int .i64 0] 43) = w3 at hlb hbA ⊢
  have Hlb := Lib.hid hlb
  have HbA := Lib.hid hbA
  have HN1 := Lib.hid hn1
  clear hlb hbA hn1 hgl
  refine (PermNew_any n w3 (by omega)).mono ?_
  rintro e w4 ⟨gp, ga, rfl, hpm, hb4⟩
  have hlb4 := Hlb.out.below hb4 Hlb.out.lt
  have d1 : w4.cell? ⟨gl, 1, none⟩ = some (.pointer none) := (hlb4.cell 1).trans rfl
  have f1 := hlb4.frozen 1
  have Hlb4 := Lib.hid hlb4
  have Hpm := Lib.hid hpm
  have Hb4 := Lib.hid hb4
  clear hlb4 hpm hb4
  go_wp2_with fail
  have hk45 := (Keep.refl (fun b => b = gl) w4).setCell (p := ⟨gl, 1, none⟩) (.inl rfl) (.pointer (some ⟨gp, 0, none⟩))
  have hlb5 := Hlb4.out.set 1 (.pointer (some ⟨gp, 0, none⟩))
  have hpm5 := Hpm.out.keep hk45 (fun b t cs f hb => by
    subst f
    have := (bk_inj hb Hlb4.out).1
    subst this
    decide)
  have hb25 : Below w2.heap.size w2 (w4.setCell ⟨gl, 1, none⟩ (.pointer (some ⟨gp, 0, none⟩))) := (HbA.out.trans (Hb4.out.mono HbA.out.size)).setCell (by rw [Hgl.out]; exact Nat.le_refl _) _
  have hgl2 := Hgl.out
  have HB1 := Lib.hid (show w2.heap.size < w3.heap.size by have := Hlb.out.lt; omega)
  have hB1 : w2.heap.size ≤ w3.heap.size := HbA.out.size
  clear d1 f1
  generalize w4.setCell ⟨gl, 1, none⟩ (.pointer (some ⟨gp, 0, none⟩)) = w5 at hlb5 hpm5 hb25 ⊢
  have hrows := SortedRows_any A1 N c1 w2.heap.size t w5 (HR2.out.below hb25) hb25.size (by omega)
  rw [HN1.out] at hrows
  have Hlb5 := Lib.hid hlb5
  have Hpm5 := Lib.hid hpm5
  have Hb25 := Lib.hid hb25
  clear hk45 hlb5 hpm5 hb25
  refine hrows.mono ?_
  clear hrows
  rintro e w6 ⟨rs', A3, c3, hsuf', rfl, hm6, hb6⟩
  obtain rfl : rs = rs' := Hsuf.out.unique hsuf'
  have hlen : rs.length = n := by rw [Hsuf.out.len, symL_len, hN, HN1.out]
  have hinv : LvInv w2 w3.heap.size w5.heap.size gl gk gp ga n rate A3 c3 rs 0 (.slice none 0 0) (.slice none 0 0) (.slice none 0 0) [] w6 :=
    ⟨Hpm5.out.below hb6, rfl, fun a _ hb => (by cases hb), hm6.own, Hlb5.out.below hb6 Hlb5.out.lt, Hb25.out.trans (hb6.mono Hb25.out.size)⟩
  have Hlen := Lib.hid hlen
  have Hinv := Lib.hid hinv
  clear hinv hm6 hb6 hsuf' hlen Hlb5 Hpm5 Hb25
  go_wp2_with fail
  go_loopw [8, 9, 36] (fun _ _ i wr => ∃ k : Nat, k ≤ n ∧ i = .int .i64 k ∧ ∃ vl vo vt tk, LvInv w2 w3.heap.size w5.heap.size gl gk gp ga n rate A3 c3 rs k vl vo vt tk wr ∧ ∀ b ∈ tk, b = true) (fun _ _ i _ => n - (intOf i).toNat)
  case atStart => exact ⟨0, by omega, rfl, _, _, _, _, Hinv.out, fun b hb => by cases hb⟩
  case round =>
    clear Hinv
    obtain ⟨k, hk, rfl, vl, vo, vt, tk, hinv, htk⟩ := hrel
    have Htk := Lib.hid htk
    clear htk
    by_cases hlt : k < n
    · have hkl : k < rs.length := by rw [Hlen.out]; exact hlt
      obtain ⟨p, hp⟩ : ∃ p, rs[k]? = some p := ⟨_, List.getElem?_eq_getElem hkl⟩
      have hpn : p < n := by have := Hsuf.out.lt (List.mem_of_getElem? hp); rw [symL_len, hN, HN1.out] at this; exact this
      have hgd : rs.getD k 0 = p := by rw [List.getD_eq_getElem?_getD, hp]; rfl
      have hrd := Rd.of_own hinv.row
      obtain ⟨b, off, u, hA3, hbl, hu, hc⟩ := hrd.get hlt
      rw [List.getElem?_map, hp] at hu
      injection hu with hu
      subst hu hA3
      unfold sv at hc
      have cg0 := hinv.blk.cell 1
      have hmt : ((p : Int)).tmod (rate : Int) = ((p % rate : Nat) : Int) := by rw [Int.tmod_eq_emod_of_nonneg (by omega)]; simp
      have hme : ((p : Int)) % (rate : Int) = ((p % rate : Nat) : Int) := by simp
      obtain ⟨q, hq⟩ : ∃ q, p % rate = q := ⟨_, rfl⟩
      rw [hq] at hmt hme
      have hsc := sampC_succ rs rate k
      rw [hgd, hq] at hsc
      have Hgd := Lib.hid hgd
      have Hp := Lib.hid hp
      have Hq := Lib.hid hq
      have Hinv := Lib.hid hinv
      have Hrl := Lib.hid hbl
      clear hgd hp hq hinv hrd hkl hbl
      by_cases hq0 : q = 0
      · subst hq0
        rw [if_pos rfl] at hsc
        have Hsc := Lib.hid hsc
        clear hsc
        go_wp2_with fail
        have hadd := PermAdd_any w3.heap.size gp ga vl vo vt n n (List.range (sampC rs rate k).length) (sampC rs rate k) tk k p wr Hinv.out.perm (rowK_sorted (sampC_sorted rs rate k)) (fun j hj => (sampC_mem (rowK_mem (by simpa using hj))).1) (fun j hj e => by
          have h1 := sampC_mem (rowK_mem (C := sampC rs rate k) (by simpa using hj))
          have h2 : posK (sampC rs rate k) j = rs.getD (rowK (sampC rs rate k) j) 0 := h1.2
          have h3 : rowK (sampC rs rate k) j < k := h1.1
          have hkl : k < rs.length := by rw [Hlen.out]; exact hlt
          have h4 : rs[rowK (sampC rs rate k) j]? = rs[k]? := by
            rw [Hp.out, ← e, h2, List.getD_eq_getElem?_getD, List.getElem?_eq_getElem (show rowK (sampC rs rate k) j < rs.length by omega)]
            rfl
          have := (List.getElem?_inj (show rowK (sampC rs rate k) j < rs.length by omega) Hsuf.out.nodup).1 h4
          omega) hlt hpn Hinv.out.len (by
            have : (sampC rs rate k).length ≤ k := by unfold sampC; rw [List.length_map]; exact Nat.le_trans (List.length_filter_le _ _) (by simp)
            omega) (by
            have : (sampC rs rate k).length ≤ k := by unfold sampC; rw [List.length_map]; exact Nat.le_trans (List.length_filter_le _ _) (by simp)
            simp
            omega) (by have := Hinv.out.perm.blk.lt; have := Hinv.out.perm.lo.1; omega)
        refine hadd.mono ?_
        clear hadd
        rintro e w7 ⟨rfl, hk7, vl', vo', vt', hpm7, hf1, hf2, hf3⟩
        go_wp2_with fail
        go_roundw
        case rel =>
          have hinv := Hinv.out
          refine ⟨k + 1, by omega, by go_num, vl', vo', vt', tk ++ [true], ⟨?_, ?_, ?_, ?_, ?_, ?_⟩, fun b hb => by rcases List.mem_append.1 hb with h9 | h9; exact Htk.out b h9; exact List.mem_singleton.1 h9⟩
          · rw [Hsc.out]
            simpa [List.range_succ] using hpm7
          · rw [Hsc.out]
            simp [hinv.len]
          · exact hinv.apt.next2 hf1 (fun a ha => by injection ha with ha; subst ha; exact Hrl.out)
          · refine own_same hinv.row fun b' cs hb' hbk => hk7.bk hbk (fun f => ?_)
            rcases f with f | f | f | f | f
            · subst f; exact Bk.ne hbk hinv.perm.blk (by decide) rfl
            · subst f; exact Bk.ne hbk hinv.perm.ar (by decide) rfl
            · exact own_bk_ne hinv.perm.lrow hbk (by decide) f.symm
            · have hb2 : b = b' := by simpa [Value.ownBlock] using hb'
              subst hb2
              exact hinv.apt _ rfl f
            · exact own_bk_ne hinv.perm.trow hbk (by decide) f.symm
          · refine hk7.bk hinv.blk (fun f => ?_)
            have := hinv.perm.foot f
            have := Hlb.out.lt
            omega
          · exact hinv.below.trans (hk7.to_below hinv.below.size (fun b' hb' f => by have := hinv.perm.foot f; omega))
        case measure => simp [intOf]; omega
      · rw [if_neg hq0] at hsc
        have Hsc := Lib.hid hsc
        have hqb : ((q : Int) == 0) = false := by simp; omega
        clear hsc
        go_wp2_with fail
        go_roundw
        case rel =>
          have hinv := Hinv.out
          exact ⟨k + 1, by omega, by go_num, vl, vo, vt, tk, ⟨by rw [Hsc.out]; exact hinv.perm, by rw [Hsc.out]; exact hinv.len, hinv.apt, hinv.row, hinv.blk, hinv.below⟩, Htk.out⟩
        case measure => simp [intOf]; omega
    · obtain rfl : n = k := by omega
      have Hinv := Lib.hid hinv
      clear hinv
      go_wp2_with fail
      go_ret2
      have hinv := Hinv.out
      have hp := hinv.perm
      have hl := hinv.len
      rw [← HN1.out] at hp hl
      obtain ⟨own', hE⟩ := live_made (w := w) (w2s := w2.heap.size) hT2 Hsuf.out hr1 hn (Hwk.out.vis (Vis.of_below hinv.below)) (fun b hb => (Hob.out b hb).2) Hgl.out.symm HB1.out hinv.blk hp hl Htk.out Hb2.out.size
      exact ⟨gl, own', rfl, by have := Hb2.out.size; have := Hgl.out; omega, hE, Hb2.out.trans (hinv.below.mono Hb2.out.size)⟩
end Go.Proofs.YthkkcelfgcholaaGreat
