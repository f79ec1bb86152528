/- Texts as find's functions see them: New, Rows, Count; lists of parts. Conditions: a text of at most 127 bytes. The walk of the reference's Same of two lists (scrimshawref6). Conditions: none. The walk of law14's told. Conditions: none. Plain laws: how often letters and patterns stand in a text. No conditions. Places of a pattern: they rise, the pattern stands at each, there are as many as are counted (plain Lean). No conditions. -/
import Derived.Test.YtmgiljicjjcjlaaGreatPkL
import Derived.Lib.SlBytesConst
import Derived.Test.YtmgiljicjjcjlaaGreatPkD
import Derived.BigQuiet
namespace Go.Proofs.YtmgiljicjjcjlaaGreat
open Go.RowKit
set_option linter.unusedVariables false
set_option linter.unusedSimpArgs false
/-- gl is a Live of the text t. -/
def TxtAt (w : World) (B gl : Nat) (t : List UInt8) : Prop := ∃ rs, IsSuf (symL t) rs ∧ LvW w B gl (lastL (symL t) rs) ∧ t.length ≤ 127
theorem TxtAt.vis {w w' : World} {B gl : Nat} {t : List UInt8} (h : TxtAt w B gl t) (k : Vis w w') : TxtAt w' B gl t := by
  obtain ⟨rs, h1, h2, h3⟩ := h
  exact ⟨rs, h1, h2.vis k, h3⟩
theorem TxtAt.mono {w : World} {B B' gl : Nat} {t : List UInt8} (h : TxtAt w B gl t) (hB : B' ≤ B) : TxtAt w B' gl t := by
  obtain ⟨rs, h1, ⟨gk, r1, r2, r3, h2, h4⟩, h3⟩ := h
  exact ⟨rs, h1, ⟨gk, r1, r2, r3, h2, h4.mono hB⟩, h3⟩
theorem TxtAt.le {w : World} {B gl : Nat} {t : List UInt8} (h : TxtAt w B gl t) : t.length ≤ 127 := by
  obtain ⟨rs, h1, h2, h3⟩ := h
  exact h3
theorem TxtNew_any (rate : Nat) (A0 : Option Addr) (m0 c0 B : Nat) (ss : List Sl) (t : List UInt8) (hT : catS ss = t) (w : World) (hr0 : Rd w B 1 A0 m0 (ss.map slV)) (hss : ∀ s ∈ ss, Rd w B 1 s.A s.n (s.l.map bv)) (hB : B ≤ w.heap.size) (hm : m0 ≤ 1000000) (hn : t.length ≤ 127) (hr1 : 1 ≤ rate) (hr2 : rate ≤ 64) :
    Calls Tryz.prog 7 #[.int .i64 (rate : Int), .slice A0 m0 c0] w fun e w' => ∃ gl, e = .returned (.tuple #[.pointer (some ⟨gl, 0, none⟩), .int .i64 0]) ∧ w.heap.size ≤ gl ∧ TxtAt w' w.heap.size gl t ∧ Below w.heap.size w w' :=
  (LiveNew_any rate A0 m0 c0 B ss t t.length hT rfl w hr0 hss hB hm hn hr1 hr2).mono fun e w' ⟨gl, gk, gp, ga, vl, vo, vt, B', tk, rs, h1, h2, h3, h4, _, h6⟩ => ⟨gl, h2, h3, ⟨rs, h1, h4.lvw, hn⟩, h6⟩
theorem lastL_length {t : List UInt8} {rs : List Nat} (h : IsSuf (symL t) rs) : (lastL (symL t) rs).length = t.length + 1 := by rw [lastL_len, h.len, symL_len]
theorem TxtRows_any (Bw gl : Nat) (t : List UInt8) (A0 : Option Addr) (m0 c0 B : Nat) (ss : List Sl) (p : List UInt8) (hT : catS ss = p) (w : World) (h : TxtAt w Bw gl t) (hr0 : Rd w B 1 A0 m0 (ss.map slV)) (hss : ∀ s ∈ ss, Rd w B 1 s.A s.n (s.l.map bv)) (hB : B ≤ w.heap.size) (hm : m0 ≤ 1000000) (hp : p.length ≤ 1000000) :
    Calls Tryz.prog 18 #[.pointer (some ⟨gl, 0, none⟩), .slice A0 m0 c0] w fun e w' => e = .returned (.tuple #[.int .i64 ((Nq (symL t) false (symB p) : Nat) : Int), .int .i64 ((Nq (symL t) true (symB p) : Nat) : Int)]) ∧ VB Bw w w' := by
  obtain ⟨rs, h1, h2, h3⟩ := h
  have := FindRows_any Bw gl _ t.length A0 m0 c0 B ss p p.length hT rfl w h2 (lastL_length h1) (by omega) (lastL_lt (symL_lt t)) hr0 hss hB hm hp
  rw [rowsN_Nq h1 (symL_end t)] at this
  exact this
theorem TxtCount_any (Bw gl : Nat) (t : List UInt8) (A0 : Option Addr) (m0 c0 B : Nat) (ss : List Sl) (p : List UInt8) (hT : catS ss = p) (w : World) (h : TxtAt w Bw gl t) (hr0 : Rd w B 1 A0 m0 (ss.map slV)) (hss : ∀ s ∈ ss, Rd w B 1 s.A s.n (s.l.map bv)) (hB : B ≤ w.heap.size) (hm : m0 ≤ 1000000) (hp : p.length ≤ 1000000) :
    Calls Tryz.prog 12 #[.pointer (some ⟨gl, 0, none⟩), .slice A0 m0 c0] w fun e w' => e = .returned (.int .i64 ((occ (symL t) (symB p) : Nat) : Int)) ∧ VB Bw w w' := by
  obtain ⟨rs, h1, h2, h3⟩ := h
  have := FindCount_any Bw gl _ t.length A0 m0 c0 B ss p p.length hT rfl w h2 (lastL_length h1) (by omega) (lastL_lt (symL_lt t)) hr0 hss hB hm hp
  rw [count_occ h1] at this
  exact this
theorem rd_mark (w : World) (e : TypeId) (cs : Array Value) (fr : Nat × Nat) (n : Nat) (hs : cs.size = n) : Rd (w.alloc (.cells cs e fr)) (w.heap.size + 1) 1 (some ⟨w.heap.size, 0, none⟩) n cs.toList := by
  refine ⟨by simp [hs], fun _ => ⟨_, 0, rfl, by omega, fun j u hu => ?_⟩⟩
  rw [Nat.zero_add, cell_of_row (w.alloc (.cells cs e fr)) w.heap.size j cs e fr (heap_alloc_new w _)]
  simpa using hu
theorem str_const (w : World) (C : Array Value) (n c : Nat) : (convert 23 23 (.slice (some ⟨w.heap.size, 0, none⟩) n c)).run Tryz.prog (w.alloc (.cells C 5)) = .ok (.slice (some ⟨w.heap.size, 0, none⟩) n c) (w.alloc (.cells C 5 (C.size, C.size + 1))) :=
  Lib.run_convert_bytes_const (P := Tryz.prog) w 23 5 C n c Tryz.underlying23 Tryz.underlying5
theorem str_const1 (w : World) (o : Obj) (C : Array Value) (n c : Nat) : (convert 23 23 (.slice (some ⟨w.heap.size + 1, 0, none⟩) n c)).run Tryz.prog ((w.alloc o).alloc (.cells C 5)) = .ok (.slice (some ⟨w.heap.size + 1, 0, none⟩) n c) ((w.alloc o).alloc (.cells C 5 (C.size, C.size + 1))) := by
  have := str_const (w.alloc o) C n c
  rw [World.size_alloc] at this
  exact this
/-- A slice of one literal of bytes, as an argument. -/
theorem parts_one (W : World) (cs : Array Value) (fr : Nat × Nat) (bs : List UInt8) (n : Nat) (hcs : cs.toList = bs.map bv) (hn : bs.length = n) :
    Rd ((W.alloc (.cells cs 5 fr)).alloc (.cells #[.slice (some ⟨W.heap.size, 0, none⟩) n n] 23)) (W.heap.size + 2) 1 (some ⟨W.heap.size + 1, 0, none⟩) 1 ([(⟨some ⟨W.heap.size, 0, none⟩, n, n, bs⟩ : Sl)].map slV) ∧
    (∀ s ∈ [(⟨some ⟨W.heap.size, 0, none⟩, n, n, bs⟩ : Sl)], Rd ((W.alloc (.cells cs 5 fr)).alloc (.cells #[.slice (some ⟨W.heap.size, 0, none⟩) n n] 23)) (W.heap.size + 2) 1 s.A s.n (s.l.map bv)) := by
  constructor
  · have := Rd.new_ (W.alloc (.cells cs 5 fr)) 23 1 #[.slice (some ⟨W.heap.size, 0, none⟩) n n] rfl
    rw [World.size_alloc] at this
    exact this
  · intro s hs
    simp at hs
    subst hs
    have h1 := rd_mark W 5 cs fr n (by rw [← Array.length_toList, hcs]; simp [hn])
    rw [hcs] at h1
    exact (h1.alloc (by simp) _).mono (by omega)
theorem parts_two (W : World) (cs ds : Array Value) (fr fr' : Nat × Nat) (bs bs' : List UInt8) (n m : Nat) (hcs : cs.toList = bs.map bv) (hn : bs.length = n) (hds : ds.toList = bs'.map bv) (hm : bs'.length = m) :
    Rd (((W.alloc (.cells cs 5 fr)).alloc (.cells ds 5 fr')).alloc (.cells #[.slice (some ⟨W.heap.size, 0, none⟩) n n, .slice (some ⟨W.heap.size + 1, 0, none⟩) m m] 23)) (W.heap.size + 3) 1 (some ⟨W.heap.size + 2, 0, none⟩) 2 ([(⟨some ⟨W.heap.size, 0, none⟩, n, n, bs⟩ : Sl), ⟨some ⟨W.heap.size + 1, 0, none⟩, m, m, bs'⟩].map slV) ∧
    (∀ s ∈ [(⟨some ⟨W.heap.size, 0, none⟩, n, n, bs⟩ : Sl), ⟨some ⟨W.heap.size + 1, 0, none⟩, m, m, bs'⟩], Rd (((W.alloc (.cells cs 5 fr)).alloc (.cells ds 5 fr')).alloc (.cells #[.slice (some ⟨W.heap.size, 0, none⟩) n n, .slice (some ⟨W.heap.size + 1, 0, none⟩) m m] 23)) (W.heap.size + 3) 1 s.A s.n (s.l.map bv)) := by
  constructor
  · have := Rd.made ((W.alloc (.cells cs 5 fr)).alloc (.cells ds 5 fr')) 23 1 2 #[.slice (some ⟨W.heap.size, 0, none⟩) n n, .slice (some ⟨W.heap.size + 1, 0, none⟩) m m] rfl
    simp only [World.size_alloc] at this
    exact this
  · intro s hs
    simp at hs
    rcases hs with rfl | rfl
    · have h1 := rd_mark W 5 cs fr n (by rw [← Array.length_toList, hcs]; simp [hn])
      rw [hcs] at h1
      exact ((h1.alloc (by simp) (.cells ds 5 fr')).alloc (by simp) _).mono (by omega)
    · have h1 := rd_mark (W.alloc (.cells cs 5 fr)) 5 ds fr' m (by rw [← Array.length_toList, hds]; simp [hm])
      rw [hds, World.size_alloc] at h1
      exact (h1.alloc (by simp) _).mono (by omega)
end Go.Proofs.YtmgiljicjjcjlaaGreat
namespace Go.Proofs.YtmgiljicjjcjlaaGreat
open Go.RowKit
set_option linter.unusedVariables false
set_option linter.unusedSimpArgs false
theorem nv_inj {a b : Nat} (h : a ≠ b) : ((a : Int) == (b : Int)) = false := by rw [beq_eq_false_iff_ne]; omega
theorem take_ext {L1 L2 : List Nat} {k n : Nat} (h1 : L1.length = n) (h2 : L2.length = n) (h : L1.take k = L2.take k) (hk : n ≤ k) : L1 = L2 := by
  rw [List.take_of_length_le (by omega), List.take_of_length_le (by omega)] at h
  exact h
set_option maxRecDepth 100000 in
set_option maxHeartbeats 1000000 in
theorem refSame_any (A1 A2 : Option Addr) (n1 c1 n2 c2 B1 B2 : Nat) (L1 L2 : List Nat) (w : World) (h1 : Rd w B1 1 A1 n1 (L1.map sv)) (h2 : Rd w B2 1 A2 n2 (L2.map sv)) (hn : n1 ≤ 1099511627776) (hn2 : n2 ≤ 1099511627776) :
    Calls Tryz.prog 10 #[.slice A1 n1 c1, .slice A2 n2 c2] w fun e w' => e = .returned (.bool (decide (L1 = L2))) ∧ Below w.heap.size w w' := by
  have l1 : L1.length = n1 := by simpa using h1.1
  have l2 : L2.length = n2 := by simpa using h2.1
  have H1 := Lib.hid h1
  have H2 := Lib.hid h2
  have HL1 := Lib.hid l1
  have HL2 := Lib.hid l2
  clear h1 h2 l1 l2
  by_cases hne : n1 = n2
  · subst hne
    go_enter Tryz.func10, Tryz.ntmps10
    go_wp2
    go_loopw [5] (fun i wr => ∃ k : Nat, k ≤ n1 ∧ i = .int .i64 k ∧ L1.take k = L2.take k ∧ ∃ m, wr = w.drewN m) (fun i _ => n1 - (intOf i).toNat)
    case atStart => exact ⟨0, Nat.zero_le _, rfl, rfl, 0, rfl⟩
    case round =>
      obtain ⟨k, hk, rfl, hpre, mm, rfl⟩ := hrel
      by_cases hlt : k < n1
      · obtain ⟨x, hx⟩ : ∃ x, L1[k]? = some x := ⟨L1[k]'(by have := HL1.out; omega), List.getElem?_eq_getElem (by have := HL1.out; omega)⟩
        obtain ⟨y, hy⟩ : ∃ y, L2[k]? = some y := ⟨L2[k]'(by have := HL2.out; omega), List.getElem?_eq_getElem (by have := HL2.out; omega)⟩
        obtain ⟨b1, o1, u1, rfl, hb1, hu1, d1⟩ := H1.out.get hlt
        obtain ⟨b2, o2, u2, rfl, hb2, hu2, d2⟩ := H2.out.get hlt
        rw [List.getElem?_map, hx] at hu1
        rw [List.getElem?_map, hy] at hu2
        simp only [Option.map_some, Option.some.injEq] at hu1 hu2
        subst hu1
        subst hu2
        unfold sv at d1 d2
        have Hpre := Lib.hid hpre
        have Hx := Lib.hid hx
        have Hy := Lib.hid hy
        clear hpre hx hy
        by_cases hxy : x = y
        · subst hxy
          go_wp2
          go_quiet (fail)
          go_wp2
          go_roundw
          case rel =>
            refine ⟨k + 1, by omega, by go_num, ?_, _, rfl⟩
            rw [List.take_add_one, List.take_add_one, Hpre.out, Hx.out, Hy.out]
          case measure => simp [intOf]; omega
        · have t := nv_inj hxy
          have hfin : L1 ≠ L2 := fun h => hxy (by
            have a := Hx.out
            rw [h, Hy.out] at a
            injection a with a
            exact a.symm)
          have Hfin := Lib.hid hfin
          clear hfin
          go_wp2
          go_quiet (fail)
          go_wp2
          go_ret
          exact ⟨ret_bool (by rw [decide_eq_false Hfin.out]), below_drewN (below_drewN (Below.refl _ _) _) _⟩
      · have hge : n1 ≤ k := by omega
        have hfin := Lib.hid (take_ext HL1.out HL2.out hpre hge)
        clear hpre
        go_wp2
        go_ret
        exact ⟨ret_bool (by rw [decide_eq_true hfin.out]), below_drewN (Below.refl _ _) _⟩
  · have hfin : L1 ≠ L2 := fun h => hne (by rw [← HL1.out, ← HL2.out, h])
    have Hfin := Lib.hid hfin
    have t := nv_inj hne
    clear hfin
    go_enter Tryz.func10, Tryz.ntmps10
    go_wp2
    go_ret
    exact ⟨ret_bool (by rw [decide_eq_false Hfin.out]), Below.refl _ _⟩
end Go.Proofs.YtmgiljicjjcjlaaGreat
namespace Go.Proofs.YtmgiljicjjcjlaaGreat
open Go.RowKit
set_option linter.unusedVariables false
set_option linter.unusedSimpArgs false
theorem TpAt.mono {w : World} {B B' gl : Nat} {t : List UInt8} {rate : Nat} (h : TpAt w B gl t rate) (hB : B' ≤ B) : TpAt w B' gl t rate := by
  obtain ⟨rs, gk, gp, ga, vl, vo, vt, B0, tk, h1, h2, h3⟩ := h
  exact ⟨rs, gk, gp, ga, vl, vo, vt, B0, tk, h1, ⟨h2.blk, h2.walk.mono hB, h2.perm⟩, h3⟩
theorem told14_places : placesT [97, 97, 97] [97, 97] = [0, 1] ∧ placesT [97, 97, 97] [] = [0, 1, 2, 3] ∧ firstPl (placesT [97, 97, 97] [98]) = -1 ∧ firstPl (placesT [97, 97, 97] [97, 97]) = 0 := by decide
set_option maxRecDepth 100000 in
set_option maxHeartbeats 4000000 in
theorem Told14_any (w : World) : Calls Tryz.prog 9 #[] w fun e w' => e = .returned (.bool true) ∧ Below w.heap.size w w' := by
  obtain ⟨t1, t2, t3, t4⟩ := told14_places
  have T1 := Lib.hid t1
  have T2 := Lib.hid t2
  have T3 := Lib.hid t3
  have T4 := Lib.hid t4
  clear t1 t2 t3 t4
  have kc := str_const
  have kc1 := str_const1
  go_enter Tryz.func9, Tryz.ntmps9
  go_wp2_with fail
  have hp := parts_one w #[.int .u8 97, .int .u8 97, .int .u8 97] (3, 4) [97, 97, 97] 3 rfl rfl
  refine (TpNew_any 2 _ 1 1 (w.heap.size + 2) [(⟨some ⟨w.heap.size, 0, none⟩, 3, 3, [97, 97, 97]⟩ : Sl)] [97, 97, 97] rfl _ hp.1 hp.2 (by simp) (by omega) (by simp) (by omega) (by omega)).mono ?_
  rintro e w1 ⟨gl, rfl, _, ht, hb⟩
  have hv : Below w.heap.size w w1 := (((Below.refl w.heap.size w).alloc (Nat.le_refl _) _).alloc (by simp) _).trans (hb.mono (by simp; omega))
  have Ht := Lib.hid (TpAt.mono ht (B' := w.heap.size) (by simp; omega))
  have Hv := Lib.hid hv
  clear ht hv hb hp
  go_wp2_with fail
  have hp2 := parts_one w1 #[.int .u8 97, .int .u8 97] (2, 3) [97, 97] 2 rfl rfl
  have hv2 : Below w1.heap.size w1 ((w1.alloc (.cells #[.int .u8 97, .int .u8 97] 5 (2, 3))).alloc (.cells #[.slice (some ⟨w1.heap.size, 0, none⟩) 2 2] 23)) := ((Below.refl _ _).alloc (Nat.le_refl _) _).alloc (by simp) _
  refine (All_any w.heap.size gl 2 [97, 97, 97] _ 1 1 (w1.heap.size + 2) [(⟨some ⟨w1.heap.size, 0, none⟩, 2, 2, [97, 97]⟩ : Sl)] [97, 97] rfl _ (Ht.out.vis (Vis.of_below hv2)) hp2.1 hp2.2 (by simp) (by omega) (by simp)).mono ?_
  rintro e w2 ⟨A2, c2, rfl, hm2, hu2⟩
  rw [T1.out] at hm2 ⊢
  have hx2 : VB w.heap.size w1 w2 := (VisK.of_below hv2).trans hu2
  replace Ht := Lib.hid (Ht.out.vis hx2.1)
  replace Hv := Lib.hid (Hv.out.trans (VB.to_below hx2 Hv.out.size))
  have Hm2 := Lib.hid hm2
  clear hx2 hu2 hv2 hp2 hm2
  go_wp2_with fail
  have hb2 : Below w2.heap.size w2 (w2.alloc (.cells #[.int .i64 0, .int .i64 1] 3)) := (Below.refl _ _).alloc (Nat.le_refl _) _
  refine (refSame_any A2 _ 2 c2 2 2 _ _ [0, 1] [0, 1] _ (Hm2.out.rd.below hb2) (Rd.made w2 3 1 2 #[.int .i64 0, .int .i64 1] rfl) (by omega) (by omega)).mono ?_
  rintro e w3 ⟨rfl, hb3⟩
  have hx3 : Below w2.heap.size w2 w3 := hb2.trans (hb3.mono hb2.size)
  replace Ht := Lib.hid (Ht.out.vis (Vis.of_below hx3))
  replace Hv := Lib.hid (Hv.out.trans (hx3.mono Hv.out.size))
  clear hx3 hb3 hb2 Hm2
  have hd1 : decide (([0, 1] : List Nat) = [0, 1]) = true := by decide
  rw [hd1]
  go_wp2_with fail
  refine (All_any w.heap.size gl 2 [97, 97, 97] none 0 0 0 [] [] rfl w3 Ht.out (Rd.nil _ _ _ _) (fun s hs => by cases hs) (Nat.zero_le _) (by omega) (by simp)).mono ?_
  rintro e w4 ⟨A4, c4, rfl, hm4, hu4⟩
  rw [T2.out] at hm4 ⊢
  replace Ht := Lib.hid (Ht.out.vis hu4.1)
  replace Hv := Lib.hid (Hv.out.trans (VB.to_below hu4 Hv.out.size))
  have Hm4 := Lib.hid hm4
  clear hu4 hm4
  go_wp2_with fail
  have hb4 : Below w4.heap.size w4 (w4.alloc (.cells #[.int .i64 0, .int .i64 1, .int .i64 2, .int .i64 3] 3)) := (Below.refl _ _).alloc (Nat.le_refl _) _
  refine (refSame_any A4 _ 4 c4 4 4 _ _ [0, 1, 2, 3] [0, 1, 2, 3] _ (Hm4.out.rd.below hb4) (Rd.made w4 3 1 4 #[.int .i64 0, .int .i64 1, .int .i64 2, .int .i64 3] rfl) (by omega) (by omega)).mono ?_
  rintro e w5 ⟨rfl, hb5⟩
  have hx5 : Below w4.heap.size w4 w5 := hb4.trans (hb5.mono hb4.size)
  replace Ht := Lib.hid (Ht.out.vis (Vis.of_below hx5))
  replace Hv := Lib.hid (Hv.out.trans (hx5.mono Hv.out.size))
  clear hx5 hb5 hb4 Hm4 hd1
  have hd2 : decide (([0, 1, 2, 3] : List Nat) = [0, 1, 2, 3]) = true := by decide
  rw [hd2]
  go_wp2_with fail
  have hp6 := parts_one w5 #[.int .u8 97, .int .u8 97] (2, 3) [97, 97] 2 rfl rfl
  have hv6 : Below w5.heap.size w5 ((w5.alloc (.cells #[.int .u8 97, .int .u8 97] 5 (2, 3))).alloc (.cells #[.slice (some ⟨w5.heap.size, 0, none⟩) 2 2] 23)) := ((Below.refl _ _).alloc (Nat.le_refl _) _).alloc (by simp) _
  refine (First_any w.heap.size gl 2 [97, 97, 97] _ 1 1 (w5.heap.size + 2) [(⟨some ⟨w5.heap.size, 0, none⟩, 2, 2, [97, 97]⟩ : Sl)] [97, 97] rfl _ (Ht.out.vis (Vis.of_below hv6)) hp6.1 hp6.2 (by simp) (by omega) (by simp)).mono ?_
  rintro e w6 ⟨rfl, hu6⟩
  rw [T4.out]
  have hx6 : VB w.heap.size w5 w6 := (VisK.of_below hv6).trans hu6
  replace Ht := Lib.hid (Ht.out.vis hx6.1)
  replace Hv := Lib.hid (Hv.out.trans (VB.to_below hx6 Hv.out.size))
  clear hx6 hu6 hv6 hp6 hd2
  go_wp2_with fail
  have hp7 := parts_one w6 #[.int .u8 98] (1, 2) [98] 1 rfl rfl
  have hv7 : Below w6.heap.size w6 ((w6.alloc (.cells #[.int .u8 98] 5 (1, 2))).alloc (.cells #[.slice (some ⟨w6.heap.size, 0, none⟩) 1 1] 23)) := ((Below.refl _ _).alloc (Nat.le_refl _) _).alloc (by simp) _
  refine (First_any w.heap.size gl 2 [97, 97, 97] _ 1 1 (w6.heap.size + 2) [(⟨some ⟨w6.heap.size, 0, none⟩, 1, 1, [98]⟩ : Sl)] [98] rfl _ (Ht.out.vis (Vis.of_below hv7)) hp7.1 hp7.2 (by simp) (by omega) (by simp)).mono ?_
  rintro e w7 ⟨rfl, hu7⟩
  rw [T3.out]
  have hx7 : VB w.heap.size w6 w7 := (VisK.of_below hv7).trans hu7
  replace Hv := Lib.hid (Hv.out.trans (VB.to_below hx7 Hv.out.size))
  clear hx7 hu7 hv7 hp7 Ht
  go_wp2_with fail
  refine (AllNil_any none 0 0 w7).mono ?_
  rintro e w8 ⟨rfl, hb8⟩
  replace Hv := Lib.hid (Hv.out.trans (hb8.mono Hv.out.size))
  clear hb8
  go_wp2_with fail
  refine (FirstNil_any none 0 0 w8).mono ?_
  rintro e w9 ⟨rfl, hb9⟩
  replace Hv := Lib.hid (Hv.out.trans (hb9.mono Hv.out.size))
  clear hb9
  go_wp2_with fail
  go_ret
  exact ⟨rfl, Hv.out⟩
end Go.Proofs.YtmgiljicjjcjlaaGreat
namespace Go.Proofs.YtmgiljicjjcjlaaGreat
open Go.RowKit
set_option linter.unusedVariables false
set_option linter.unusedSimpArgs false
theorem preQ_iff (l : List Nat) (q : List Nat) : ∀ p, preQ l q p = true ↔ ∀ (i s : Nat), q[i]? = some s → aN l (p + i) = (s : Int) := by
  induction q with
  | nil => intro p; exact ⟨fun _ i s h => by simp at h, fun _ => rfl⟩
  | cons x q ih =>
    intro p
    rw [preQ_cons, Bool.and_eq_true, decide_eq_true_eq, ih]
    constructor
    · rintro ⟨h1, h2⟩ i s h
      rcases i with _ | i
      · simp at h
        subst h
        exact h1
      · have := h2 i s (by simpa using h)
        rwa [show p + (i + 1) = p + 1 + i by omega]
    · intro h
      refine ⟨h 0 x (by simp), fun i s hi => ?_⟩
      have := h (i + 1) s (by simpa using hi)
      rwa [show p + 1 + i = p + (i + 1) by omega]
theorem range_getD (l : List Nat) : (List.range l.length).map (fun p => l.getD p 0) = l := by
  apply List.ext_getElem
  · simp
  · intro i h1 h2
    simp [List.getD_eq_getElem?_getD, h2]
theorem occ_one (l : List Nat) (s : Nat) : occ l [s] = l.count s := by
  unfold occ
  conv => rhs; rw [← range_getD l]
  rw [List.count_eq_countP, List.countP_map]
  refine List.countP_congr fun p hp => ?_
  have hp' : p < l.length := by simpa using hp
  rw [preQ_cons, aN_getD hp']
  simp only [preQ, Bool.and_true, Function.comp, decide_eq_true_eq, beq_iff_eq]
  omega
/-- The sum of the counts of the first k letters. -/
def sumO (t : List UInt8) : Nat → Nat
  | 0 => 0
  | k + 1 => sumO t k + occ (symL t) [k + 1]
theorem sumO_eq (t : List UInt8) (k : Nat) : sumO t k = t.countP fun c => decide (c.toNat < k) := by
  induction k with
  | zero =>
    show 0 = _
    rw [eq_comm, List.countP_eq_zero]
    intro c _
    simp
  | succ k ih =>
    show sumO t k + occ (symL t) [k + 1] = _
    rw [ih, occ_one, symL, List.count_append]
    have h0 : [0].count (k + 1) = 0 := by simp
    rw [h0, Nat.add_zero, symB, List.count_eq_countP, List.countP_map, ← countP_or]
    · refine List.countP_congr fun c _ => ?_
      simp only [Function.comp, Bool.or_eq_true, decide_eq_true_eq, beq_iff_eq]
      omega
    · intro c _
      simp only [Function.comp, decide_eq_true_eq, beq_iff_eq]
      omega
theorem sumO_all (t : List UInt8) : sumO t 256 = t.length := by
  rw [sumO_eq, List.countP_eq_length.2]
  intro c _
  have := c.toNat_lt
  simpa using this
theorem sumO_le (t : List UInt8) (k : Nat) : sumO t k ≤ t.length := by
  rw [sumO_eq]
  exact List.countP_le_length
theorem aN_symL (t : List UInt8) {p : Nat} {c : UInt8} (h : t[p]? = some c) : aN (symL t) p = ((c.toNat + 1 : Nat) : Int) := by
  have hp := (List.getElem?_eq_some_iff.1 h).1
  refine aN_some ?_
  unfold symL symB
  rw [List.getElem?_append_left (by simpa using hp), List.getElem?_map, h]
  rfl
/-- A pattern stands at p, in bytes. -/
theorem preQ_bytes (t q : List UInt8) (p : Nat) : preQ (symL t) (symB q) p = true ↔ ∀ (i : Nat) (c : UInt8), q[i]? = some c → t[p + i]? = some c := by
  rw [preQ_iff]
  constructor
  · intro h i c hc
    have := h i (c.toNat + 1) (by unfold symB; rw [List.getElem?_map, hc]; rfl)
    cases ht : t[p + i]? with
    | none =>
      exfalso
      have hge := List.getElem?_eq_none_iff.1 ht
      rcases Nat.eq_or_lt_of_le hge with e | e
      · have : aN (symL t) (p + i) = 0 := by
          rw [aN_some (x := 0)]
          · rfl
          · unfold symL symB
            rw [List.getElem?_append_right (by simp; omega)]
            simp [e]
        omega
      · have : aN (symL t) (p + i) = -1 := aN_ge (by rw [symL_len]; omega)
        omega
    | some d =>
      rw [aN_symL t ht] at this
      have e : d.toNat = c.toNat := by omega
      rw [UInt8.toNat_inj.1 e]
  · intro h i s hs
    unfold symB at hs
    rw [List.getElem?_map] at hs
    obtain ⟨c, hc, rfl⟩ := Option.map_eq_some_iff.1 hs
    exact aN_symL t (h i c hc)
theorem occ_pos {t q : List UInt8} {p : Nat} (hp : p ≤ t.length) (h : ∀ (i : Nat) (c : UInt8), q[i]? = some c → t[p + i]? = some c) : 1 ≤ occ (symL t) (symB q) := by
  unfold occ
  exact List.countP_pos_iff.2 ⟨p, by simp [symL_len]; omega, (preQ_bytes t q p).2 h⟩
theorem occ_le (l q : List Nat) : occ l q ≤ l.length := by
  unfold occ
  have := List.countP_le_length (p := preQ l q) (l := List.range l.length)
  simpa using this
theorem rd_bk {w : World} {g : Nat} {e : TypeId} {cs : Array Value} (h : Bk w g e cs) (n : Nat) (hn : cs.size = n) : Rd w w.heap.size 1 (some ⟨g, 0, none⟩) n cs.toList := by
  refine ⟨by simp [hn], fun _ => ⟨g, 0, rfl, h.lt, fun j u hu => ?_⟩⟩
  rw [Nat.zero_add, h.cell]
  simpa using hu
end Go.Proofs.YtmgiljicjjcjlaaGreat
namespace Go.Proofs.YtmgiljicjjcjlaaGreat
open Go.RowKit
set_option linter.unusedVariables false
set_option linter.unusedSimpArgs false
theorem placesT_le (t q : List UInt8) : (placesT t q).length ≤ t.length + 1 := by
  have := List.length_filter_le (preQ (symL t) (symB q)) (List.range (t.length + 1))
  rw [List.length_range] at this
  exact this
theorem places_len (t q : List UInt8) : (placesT t q).length = occ (symL t) (symB q) := by
  unfold placesT occ
  rw [List.countP_eq_length_filter, symL_len]
theorem places_rise (t q : List UInt8) : (placesT t q).Pairwise (· < ·) := List.Pairwise.filter _ List.pairwise_lt_range
theorem places_at {t q : List UInt8} {i : Nat} (h : i ∈ placesT t q) : i + q.length ≤ t.length ∧ (t.drop i).take q.length = q := by
  unfold placesT at h
  rw [List.mem_filter, List.mem_range, preQ_bytes] at h
  obtain ⟨h1, h2⟩ := h
  have hle : i + q.length ≤ t.length := by
    by_cases h0 : q.length = 0
    · omega
    · obtain ⟨m, hm⟩ : ∃ m, q.length = m + 1 := ⟨q.length - 1, by omega⟩
      have hc : q[m]? = some (q[m]'(by omega)) := List.getElem?_eq_getElem (by omega)
      have := h2 m _ hc
      have := (List.getElem?_eq_some_iff.1 this).1
      omega
  refine ⟨hle, List.ext_getElem? fun j => ?_⟩
  rw [List.getElem?_take]
  split
  · next hj =>
    rw [List.getElem?_drop]
    have hc : q[j]? = some (q[j]'hj) := List.getElem?_eq_getElem hj
    rw [h2 j _ hc, hc]
  · rw [List.getElem?_eq_none_iff.2 (by omega)]
theorem places_mem {t : List UInt8} {k m : Nat} (h : k + m ≤ t.length) : k ∈ placesT t ((t.drop k).take m) := by
  unfold placesT
  rw [List.mem_filter, List.mem_range, preQ_bytes]
  refine ⟨by omega, fun i c hc => ?_⟩
  rw [List.getElem?_take] at hc
  split at hc
  · rw [List.getElem?_drop] at hc; exact hc
  · cases hc
theorem rise_at {L : List Nat} (h : L.Pairwise (· < ·)) {j a b : Nat} (ha : L[j]? = some a) (hb : L[j + 1]? = some b) : a < b := by
  obtain ⟨ja, ea⟩ := List.getElem?_eq_some_iff.1 ha
  obtain ⟨jb, eb⟩ := List.getElem?_eq_some_iff.1 hb
  rw [← ea, ← eb]
  exact List.pairwise_iff_getElem.1 h j (j + 1) ja jb (by omega)
/-- Is k among the first j? -/
def inT (L : List Nat) (k j : Nat) : Bool := decide (k ∈ L.take j)
theorem inT_zero (L : List Nat) (k : Nat) : inT L k 0 = false := by simp [inT]
theorem inT_succ {L : List Nat} {k j a : Nat} (h : L[j]? = some a) : inT L k (j + 1) = (inT L k j || ((a : Int) == (k : Int))) := by
  have e : ((a : Int) == (k : Int)) = decide (k = a) := by
    by_cases hk : k = a
    · subst hk; simp
    · rw [decide_eq_false hk]; exact beq_eq_false_iff_ne.2 (by omega)
  rw [e]
  unfold inT
  rw [List.take_add_one, h]
  by_cases h1 : k ∈ L.take j
  · simp [h1]
  · simp [h1]
theorem inT_all {L : List Nat} {k n : Nat} (hn : L.length = n) (h : k ∈ L) : inT L k n = true := by
  unfold inT
  rw [List.take_of_length_le (by omega)]
  exact decide_eq_true h
theorem firstPl_at {L : List Nat} {a : Nat} (h : L[0]? = some a) : L.head? = some a := by rw [List.head?_eq_getElem?]; exact h
end Go.Proofs.YtmgiljicjjcjlaaGreat
