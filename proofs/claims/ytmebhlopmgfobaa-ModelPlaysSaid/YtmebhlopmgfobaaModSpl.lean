/- The walk of the plain text's 'splice'. Conditions: sizes of at most 2^40. -/
import Derived.Test.YtmebhlopmgfobaaModHas
namespace Go.Proofs.Ytmebhlopmgfobaa
open Go.RowKit
set_option linter.unusedVariables false
set_option linter.unusedSimpArgs false
/-- Block gp is a plain text whose bytes lie in memory made since B. -/
def plV (gp B N : Nat) (T : List UInt8) : Value → World → Prop := fun _ w => ∃ A c, Bk w gp 47 #[.slice A N c] ∧ Made w B 5 1 A N c (T.map bv)
theorem plV_stb (gp B N : Nat) (T : List UInt8) : Stb (plV gp B N T) := fun _ _ _ ⟨A, c, h1, h2⟩ k => ⟨A, c, Bk.below h1 k h1.lt, h2.below k⟩
theorem Rd.made3 {w : World} {g : Nat} {e : TypeId} {cs : Array Value} (h : Bk w g e cs) {n : Nat} (hn : cs.size = n := by rfl) : Rd w w.heap.size 1 (some ⟨g, 0, none⟩) n cs.toList := by
  refine ⟨by simp [hn], fun _ => ⟨g, 0, rfl, h.lt, fun i u hu => ?_⟩⟩
  rw [Nat.zero_add, h.cell i]
  rw [← hu]
  simp
theorem Rd.keepF {F : Nat → Prop} {w w' : World} {B sz n : Nat} {A : Option Addr} {xs : List Value} (h : Rd w B sz A n xs) (k : Keep F w w') (hB : B ≤ w.heap.size) (hf : 0 < n → ∀ a, A = some a → ¬ F a.block) : Rd w' w'.heap.size sz A n xs :=
  ⟨h.1, fun hn => by
    obtain ⟨b, off, e, hb, hc⟩ := h.2 hn
    exact ⟨b, off, e, by have := k.size; omega, fun j u hu => (k.cell (p := ⟨b, off + j, none⟩) (by simp only; omega) (by exact hf hn ⟨b, off, none⟩ e)).trans (hc j u hu)⟩⟩
set_option maxRecDepth 100000 in
set_option maxHeartbeats 4000000 in
theorem splice_any (gp : Nat) (A AD : Option Addr) (n c nd cd p k N B : Nat) (T D T2 : List UInt8) (w : World) (hb : Bk w gp 47 #[.slice A n c]) (hr : Rd w w.heap.size 1 A n (T.map bv)) (hne : 0 < n → ∀ a, A = some a → a.block ≠ gp)
    (hnc : n ≤ c) (hd : Rd w B 1 AD nd (D.map bv)) (hB : B ≤ w.heap.size) (hdne : 0 < nd → ∀ a, AD = some a → a.block ≠ gp) (q : Nat) (hq : p + k = q) (hpk : q ≤ n) (h2 : T.take p ++ (D ++ T.drop q) = T2) (hN : T2.length = N) (hn : n ≤ 1099511627776) (hN2 : N ≤ 1099511627776) :
    Calls Try.prog 17 #[.pointer (some ⟨gp, 0, none⟩), .int .i64 (p : Int), .int .i64 (k : Int), .slice AD nd cd] w fun e w' => (e = .returned (.tuple #[])) ∧ Keep (fun b => b = gp) w w' ∧ ∃ A' c', Bk w' gp 47 #[.slice A' N c'] ∧ Made w' w.heap.size 5 1 A' N c' (T2.map bv) := by
  have hgp := hb.lt
  have hcat : catS [⟨cutA A c 0 1, p, c, T.take p⟩, ⟨AD, nd, cd, D⟩, ⟨cutA A c q 1, n - q, c - q, T.drop q⟩] = T2 := by
    rw [← h2]
    simp [catS]
  have hss : ∀ w5, Keep (fun b => b = gp) w w5 → ∀ s ∈ ([⟨cutA A c 0 1, p, c, T.take p⟩, ⟨AD, nd, cd, D⟩, ⟨cutA A c q 1, n - q, c - q, T.drop q⟩] : List Sl), Rd w5 w5.heap.size 1 s.A s.n (s.l.map bv) := by
    intro w5 hk s hs
    have hr5 := Rd.keepF hr hk (Nat.le_refl _) hne
    have hd5 := Rd.keepF hd hk hB hdne
    have c1 := hr5.cut_hi0 (k := p) (cap := c) (by omega)
    have c2 := hr5.cut (k := q) (cap := c) hpk hnc
    rw [Nat.mul_one, ← List.map_take] at c1
    rw [Nat.mul_one, ← List.map_drop] at c2
    rcases List.mem_cons.1 hs with rfl | hs
    · exact c1
    rcases List.mem_cons.1 hs with rfl | hs
    · exact hd5
    rcases List.mem_cons.1 hs with rfl | hs
    · exact c2
    · cases hs
  have hcut1 := run_cut_hi (P := Try.prog) 22 5 1 Try.underlying22 size_u8 A n c p (by omega)
  have hcut2 := run_cut_lo (P := Try.prog) 22 5 1 Try.underlying22 size_u8 A n c q hpk
  have Hss := Lib.hid hss
  have Hcat := Lib.hid hcat
  have HN := Lib.hid hN
  clear hss hcat hN h2 hr hd hne hdne
  go_enter Try.func17, Try.ntmps17
  go_wp2
  refine wp_region_any (by kernel_rfl) ?_
  refine wpAny_keep [8, 9, 10, 11, 12, 13, 14, 15, 16, 17, 18, 19, 20, 21, 22, 23, 24, 25, 26, 27] (fun b => b = gp) 20 [4, 11, 20] (fun w1 => Bk w1 gp 47 #[.slice A n c]) (plV gp w.heap.size N T2) [is (.pointer (some ⟨gp, 0, none⟩)), is (.pointer (some ⟨gp, 0, none⟩)), is (.pointer (some ⟨gp, 0, none⟩)), is (.pointer (some ⟨gp, 0, none⟩)), is (.slice A n c), is (.int .i64 (p : Int)), is (.slice (cutA A c 0 1) p c), is (.slice AD nd cd), is (.pointer (some ⟨gp, 0, none⟩)), is (.pointer (some ⟨gp, 0, none⟩)), is (.pointer (some ⟨gp, 0, none⟩)), is (.slice A n c), is (.int .i64 (p : Int)), is (.int .i64 (k : Int)), is (.int .i64 (q : Int)), is (.slice (cutA A c q 1) (n - q) (c - q)), newBk (fun b => b = gp) 22 #[.slice (cutA A c 0 1) p c, .slice AD nd cd, .slice (cutA A c q 1) (n - q) (c - q)] fun g => .slice (some ⟨g, 0, none⟩) 3 3, madeV w.heap.size 5 1 N (T2.map bv), is (.pointer (some ⟨gp, 0, none⟩)), is (.pointer (some ⟨gp, 0, none⟩)), anyV] _ _ rfl (by kernel_rfl) (by kernel_rfl) (hb) (fun w1 w2 h _ hg => Bk.below h hg h.lt) (plV_stb _ _ _ _) (by repeat' (first | exact stbk_is _ _ | exact stbk_any _ | exact stbk_newBk _ _ _ _ | exact stbk_made (fun b hb => by subst hb; exact hgp) _ _ _ _ | (refine List.forall_mem_cons.2 ⟨?_, ?_⟩) | (intro p hp; cases hp))) ?_ ?_
  · refine steps_of ?_
    refine steps_cons ?_ ?_
    · refine step_on3 rfl rfl ?_
      intro ev w5 hS hU hc hf hold hval a K ha hK
      replace hS : Keep (fun b => b = gp) w w5 := ⟨hS.os, hS.tape, hS.output, hS.size, hS.block⟩
      clear hU
      have e0 : ev (.tmp 0) = .pointer (some ⟨gp, 0, none⟩) := hold 0 (by kernel_rfl)
      go_simp
      exact hK _ _ (kstep_grow (Below.refl _ _)) rfl
    refine steps_cons ?_ ?_
    · refine step_on3 rfl rfl ?_
      intro ev w5 hS hU hc hf hold hval a K ha hK
      replace hS : Keep (fun b => b = gp) w w5 := ⟨hS.os, hS.tape, hS.output, hS.size, hS.block⟩
      clear hU
      have e0 : ev (.tmp 0) = .pointer (some ⟨gp, 0, none⟩) := hold 0 (by kernel_rfl)
      go_simp
      exact hK _ _ (kstep_grow (Below.refl _ _)) rfl
    refine steps_cons ?_ ?_
    · refine step_on3 rfl rfl ?_
      intro ev w5 hS hU hc hf hold hval a K ha hK
      replace hS : Keep (fun b => b = gp) w w5 := ⟨hS.os, hS.tape, hS.output, hS.size, hS.block⟩
      clear hU
      have e9 : ev (.tmp 9) = .pointer (some ⟨gp, 0, none⟩) := hval 1 9 (by kernel_rfl) rfl
      go_simp
      exact hK _ _ (kstep_grow (Below.refl _ _)) rfl
    refine steps_cons ?_ ?_
    · refine step_on3 rfl rfl ?_
      intro ev w5 hS hU hc hf hold hval a K ha hK
      replace hS : Keep (fun b => b = gp) w w5 := ⟨hS.os, hS.tape, hS.output, hS.size, hS.block⟩
      clear hU
      have e10 : ev (.tmp 10) = .pointer (some ⟨gp, 0, none⟩) := hval 2 10 (by kernel_rfl) rfl
      go_simp
      exact hK _ _ (kstep_grow (Below.refl _ _)) rfl
    refine steps_cons ?_ ?_
    · refine step_on3 rfl rfl ?_
      intro ev w5 hS hU hc hf hold hval a K ha hK
      replace hS : Keep (fun b => b = gp) w w5 := ⟨hS.os, hS.tape, hS.output, hS.size, hS.block⟩
      have hpre := hU rfl
      clear hU
      have e11 : ev (.tmp 11) = .pointer (some ⟨gp, 0, none⟩) := hval 3 11 (by kernel_rfl) rfl
      have c12 : w5.cell? ⟨gp, 0, none⟩ = some (.slice A n c) := (hpre.cell 0).trans rfl
      go_simp
      exact hK _ _ (kstep_grow (Below.refl _ _)) rfl
    refine steps_cons ?_ ?_
    · refine step_on3 rfl rfl ?_
      intro ev w5 hS hU hc hf hold hval a K ha hK
      replace hS : Keep (fun b => b = gp) w w5 := ⟨hS.os, hS.tape, hS.output, hS.size, hS.block⟩
      clear hU
      have e1 : ev (.tmp 1) = .int .i64 (p : Int) := hold 1 (by kernel_rfl)
      go_simp
      exact hK _ _ (kstep_grow (Below.refl _ _)) rfl
    refine steps_cons ?_ ?_
    · refine step_on3 rfl rfl ?_
      intro ev w5 hS hU hc hf hold hval a K ha hK
      replace hS : Keep (fun b => b = gp) w w5 := ⟨hS.os, hS.tape, hS.output, hS.size, hS.block⟩
      clear hU
      have e12 : ev (.tmp 12) = .slice A n c := hval 4 12 (by kernel_rfl) rfl
      have e13 : ev (.tmp 13) = .int .i64 (p : Int) := hval 5 13 (by kernel_rfl) rfl
      go_simp
      exact hK _ _ (kstep_grow (Below.refl _ _)) rfl
    refine steps_cons ?_ ?_
    · refine step_on3 rfl rfl ?_
      intro ev w5 hS hU hc hf hold hval a K ha hK
      replace hS : Keep (fun b => b = gp) w w5 := ⟨hS.os, hS.tape, hS.output, hS.size, hS.block⟩
      clear hU
      have e3 : ev (.tmp 3) = .slice AD nd cd := hold 3 (by kernel_rfl)
      go_simp
      exact hK _ _ (kstep_grow (Below.refl _ _)) rfl
    refine steps_cons ?_ ?_
    · refine step_on3 rfl rfl ?_
      intro ev w5 hS hU hc hf hold hval a K ha hK
      replace hS : Keep (fun b => b = gp) w w5 := ⟨hS.os, hS.tape, hS.output, hS.size, hS.block⟩
      clear hU
      have e0 : ev (.tmp 0) = .pointer (some ⟨gp, 0, none⟩) := hold 0 (by kernel_rfl)
      go_simp
      exact hK _ _ (kstep_grow (Below.refl _ _)) rfl
    refine steps_cons ?_ ?_
    · refine step_on3 rfl rfl ?_
      intro ev w5 hS hU hc hf hold hval a K ha hK
      replace hS : Keep (fun b => b = gp) w w5 := ⟨hS.os, hS.tape, hS.output, hS.size, hS.block⟩
      clear hU
      have e16 : ev (.tmp 16) = .pointer (some ⟨gp, 0, none⟩) := hval 8 16 (by kernel_rfl) rfl
      go_simp
      exact hK _ _ (kstep_grow (Below.refl _ _)) rfl
    refine steps_cons ?_ ?_
    · refine step_on3 rfl rfl ?_
      intro ev w5 hS hU hc hf hold hval a K ha hK
      replace hS : Keep (fun b => b = gp) w w5 := ⟨hS.os, hS.tape, hS.output, hS.size, hS.block⟩
      clear hU
      have e17 : ev (.tmp 17) = .pointer (some ⟨gp, 0, none⟩) := hval 9 17 (by kernel_rfl) rfl
      go_simp
      exact hK _ _ (kstep_grow (Below.refl _ _)) rfl
    refine steps_cons ?_ ?_
    · refine step_on3 rfl rfl ?_
      intro ev w5 hS hU hc hf hold hval a K ha hK
      replace hS : Keep (fun b => b = gp) w w5 := ⟨hS.os, hS.tape, hS.output, hS.size, hS.block⟩
      have hpre := hU rfl
      clear hU
      have e18 : ev (.tmp 18) = .pointer (some ⟨gp, 0, none⟩) := hval 10 18 (by kernel_rfl) rfl
      have c19 : w5.cell? ⟨gp, 0, none⟩ = some (.slice A n c) := (hpre.cell 0).trans rfl
      go_simp
      exact hK _ _ (kstep_grow (Below.refl _ _)) rfl
    refine steps_cons ?_ ?_
    · refine step_on3 rfl rfl ?_
      intro ev w5 hS hU hc hf hold hval a K ha hK
      replace hS : Keep (fun b => b = gp) w w5 := ⟨hS.os, hS.tape, hS.output, hS.size, hS.block⟩
      clear hU
      have e1 : ev (.tmp 1) = .int .i64 (p : Int) := hold 1 (by kernel_rfl)
      go_simp
      exact hK _ _ (kstep_grow (Below.refl _ _)) rfl
    refine steps_cons ?_ ?_
    · refine step_on3 rfl rfl ?_
      intro ev w5 hS hU hc hf hold hval a K ha hK
      replace hS : Keep (fun b => b = gp) w w5 := ⟨hS.os, hS.tape, hS.output, hS.size, hS.block⟩
      clear hU
      have e2 : ev (.tmp 2) = .int .i64 (k : Int) := hold 2 (by kernel_rfl)
      go_simp
      exact hK _ _ (kstep_grow (Below.refl _ _)) rfl
    refine steps_cons ?_ ?_
    · refine step_on3 rfl rfl ?_
      intro ev w5 hS hU hc hf hold hval a K ha hK
      replace hS : Keep (fun b => b = gp) w w5 := ⟨hS.os, hS.tape, hS.output, hS.size, hS.block⟩
      clear hU
      have e20 : ev (.tmp 20) = .int .i64 (p : Int) := hval 12 20 (by kernel_rfl) rfl
      have e21 : ev (.tmp 21) = .int .i64 (k : Int) := hval 13 21 (by kernel_rfl) rfl
      go_simp
      exact hK _ _ (kstep_grow (Below.refl _ _)) (i64_eq (by rw [IntKind.wrap_i64]; omega))
    refine steps_cons ?_ ?_
    · refine step_on3 rfl rfl ?_
      intro ev w5 hS hU hc hf hold hval a K ha hK
      replace hS : Keep (fun b => b = gp) w w5 := ⟨hS.os, hS.tape, hS.output, hS.size, hS.block⟩
      clear hU
      have e19 : ev (.tmp 19) = .slice A n c := hval 11 19 (by kernel_rfl) rfl
      have e22 : ev (.tmp 22) = .int .i64 (q : Int) := hval 14 22 (by kernel_rfl) rfl
      go_simp
      exact hK _ _ (kstep_grow (Below.refl _ _)) rfl
    refine steps_cons ?_ ?_
    · refine step_on3 rfl rfl ?_
      intro ev w5 hS hU hc hf hold hval a K ha hK
      replace hS : Keep (fun b => b = gp) w w5 := ⟨hS.os, hS.tape, hS.output, hS.size, hS.block⟩
      clear hU
      have e14 : ev (.tmp 14) = .slice (cutA A c 0 1) p c := hval 6 14 (by kernel_rfl) rfl
      have e15 : ev (.tmp 15) = .slice AD nd cd := hval 7 15 (by kernel_rfl) rfl
      have e23 : ev (.tmp 23) = .slice (cutA A c q 1) (n - q) (c - q) := hval 15 23 (by kernel_rfl) rfl
      go_simp
      exact hK _ _ (kstep_grow ((Below.refl _ _).alloc (Nat.le_refl _) _)) ⟨_, rfl, Bk.new _ _ _, fun h => by have := hS.size; have h0 : w5.heap.size = gp := h; omega⟩
    refine steps_cons ?_ ?_
    · refine step_on3 rfl rfl ?_
      intro ev w5 hS hU hc hf hold hval a K ha hK
      replace hS : Keep (fun b => b = gp) w w5 := ⟨hS.os, hS.tape, hS.output, hS.size, hS.block⟩
      clear hU
      have p24 : (newBk (fun b => b = gp) 22 #[.slice (cutA A c 0 1) p c, .slice AD nd cd, .slice (cutA A c q 1) (n - q) (c - q)] fun g => .slice (some ⟨g, 0, none⟩) 3 3) (ev (.tmp 24)) w5 := hval 16 24 (by kernel_rfl) rfl
      obtain ⟨g9, e24, hb9, hn9⟩ := p24
      have hr9 := Rd.made3 (n := 3) hb9
      have hS9 := hS
      go_simp
      refine (Concat_any _ _ _ w5.heap.size [⟨cutA A c 0 1, p, c, T.take p⟩, ⟨AD, nd, cd, D⟩, ⟨cutA A c q 1, n - q, c - q, T.drop q⟩] T2 N Hcat.out HN.out w5 hr9 (Hss.out w5 hS) (Nat.le_refl _) (by omega) (by omega)).mono ?_
      rintro e w8 ⟨A9, c9, rfl, hm9, hb9⟩
      exact hK _ _ (kstep_grow hb9) ⟨A9, c9, rfl, hm9.mono hS.size⟩
    refine steps_cons ?_ ?_
    · refine step_on3 rfl rfl ?_
      intro ev w5 hS hU hc hf hold hval a K ha hK
      replace hS : Keep (fun b => b = gp) w w5 := ⟨hS.os, hS.tape, hS.output, hS.size, hS.block⟩
      clear hU
      have e8 : ev (.tmp 8) = .pointer (some ⟨gp, 0, none⟩) := hval 0 8 (by kernel_rfl) rfl
      go_simp
      exact hK _ _ (kstep_grow (Below.refl _ _)) rfl
    refine steps_cons ?_ ?_
    · refine step_on3 rfl rfl ?_
      intro ev w5 hS hU hc hf hold hval a K ha hK
      replace hS : Keep (fun b => b = gp) w w5 := ⟨hS.os, hS.tape, hS.output, hS.size, hS.block⟩
      clear hU
      have e26 : ev (.tmp 26) = .pointer (some ⟨gp, 0, none⟩) := hval 18 26 (by kernel_rfl) rfl
      go_simp
      exact hK _ _ (kstep_grow (Below.refl _ _)) rfl
    refine steps_cons ?_ ?_
    · refine step_on3 rfl rfl ?_
      intro ev w5 hS hU hc hf hold hval a K ha hK
      replace hS : Keep (fun b => b = gp) w w5 := ⟨hS.os, hS.tape, hS.output, hS.size, hS.block⟩
      have hpre := hU rfl
      clear hU
      have e27 : ev (.tmp 27) = .pointer (some ⟨gp, 0, none⟩) := hval 19 27 (by kernel_rfl) rfl
      have p25 : (madeV w.heap.size 5 1 N (T2.map bv)) (ev (.tmp 25)) w5 := hval 17 25 (by kernel_rfl) rfl
      obtain ⟨A9, c9, e25, hm9⟩ := p25
      have c20 : w5.cell? ⟨gp, 0, none⟩ = some (.slice A n c) := (hpre.cell 0).trans rfl
      have f20 := hpre.frozen 0
      go_simp
      refine hK (.bool true) _ (kstep_keep (Keep.setCell (F := fun b => b = gp) (Keep.refl _ _) (p := ⟨gp, 0, none⟩) (.inl rfl) _)) ⟨A9, c9, ?_, ?_⟩
      · exact hpre.set 0 _
      · exact hm9.keepF (Keep.setCell (F := fun b => b = gp) (Keep.refl _ _) (p := ⟨gp, 0, none⟩) (.inl rfl) _) (fun b hb => by subst hb; exact hgp)
    exact steps_nil
  · intro ev w6 hS hval hall
    replace hS : Keep (fun b => b = gp) w w6 := ⟨hS.os, hS.tape, hS.output, hS.size, hS.block⟩
    obtain ⟨vJ, pJ⟩ : ∃ v, (plV gp w.heap.size N T2) v w6 := hall 20 (by decide)
    simp only [putsOf, List.foldl_cons, List.foldl_nil, Act.put, List.setIfInBounds_toArray, List.set_cons_zero, List.set_cons_succ]
    clear hval hall
    obtain ⟨A9, c9, hb9, hm9⟩ := pJ
    go_wp2
    exact bodyPost_end (results_none rfl _ _ _) rfl ⟨rfl, hS, A9, c9, hb9, hm9⟩
end Go.Proofs.Ytmebhlopmgfobaa
