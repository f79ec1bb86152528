/- The walks of slices.Grow (of nil) and slices.Concat. Conditions: sizes of at most 2^40. The walks of perm.New (no pairs), live.New and live's Len. Conditions: at most 127 bytes, a rate from 1 to 64. As 'Loose10' (one writer, the last operation waits for all the others), where the other operations may look into trees and waves (Vis). No conditions. A text's walk (LvW), live's Len. Conditions: a text of at most 127 bytes. Plain laws: the backward search over a transform counts where a pattern stands. No conditions. -/
import Derived.Test.YthkkcelfgcholaaGreatPkH
import Derived.Lib.AppendZeros
import Derived.Lib.LazyBuf
import Derived.Test.YthkkcelfgcholaaGreatPkE
import Derived.Test.YthkkcelfgcholaaGreatPkF
namespace Go.Proofs.YthkkcelfgcholaaGreat
open Go.RowKit
set_option linter.unusedVariables false
set_option linter.unusedSimpArgs false
theorem u8_info : (Tryz.prog.info? 5).map (fun i => (i.zero, i.size, i.bytes)) = some (some (.int .u8 0), 1, 1) := by kernel_rfl
set_option maxRecDepth 100000 in
set_option maxHeartbeats 1000000 in
theorem Grow_nil (n : Nat) (w : World) (hn : n ≤ 1099511627776) :
    Calls Tryz.prog 37 #[.slice none 0 0, .int .i64 (n : Int)] w fun e w' => ∃ v, e = .returned v ∧ w'.ownsRow w.heap.size 5 1 v 0 [] ∧ Below w.heap.size w w' := by
  obtain ⟨i0, hi0, hz0, hz1, hz2⟩ := info_parts u8_info
  rcases Nat.eq_zero_or_pos n with h0 | h0
  · subst h0
    go_enter Tryz.func37, Tryz.ntmps37
    go_wp2
    go_ret
    exact ⟨_, rfl, World.ownsRow_nil _ _ _ _, Below.refl _ _⟩
  · have hrun := Lib.run_append_nil_zeros (P := Tryz.prog) w 23 3 23 5 i0 (.int .u8 0) .i64 .i64 Tryz.underlying23 Tryz.underlying3 hi0 hz0 n h0 (by omega) (by omega) (by rw [hz2]; omega)
    have hge := grownCap_ge w n 0 5
    have hle := grownCap_le_maxLen w n 0 5 (by unfold maxLen; omega)
    generalize grownCap w n 0 5 = cp at *
    have hsz : (Builtin.zeroCells (Value.int .u8 0).cells n ++ Builtin.zeroCells (Value.int .u8 0).cells (cp - n)).size = cp * 1 := by
      simp [Builtin.zeroCells, Value.cells]
      omega
    have Hsz := Lib.hid hsz
    have Hrun := Lib.hid hrun
    clear hsz hrun
    have hdec : ¬ ((n : Int) < 0) := by omega
    go_enter Tryz.func37, Tryz.ntmps37
    go_wp2_with (at_builtin; refine Lib.wpList_append_run _ rfl (.tmp 20) (.tmp 21) _ _ rfl _ _ rfl rfl _ _ Hrun.out ?_)
    go_ret
    exact ⟨_, rfl, World.ownsRow_made _ _ _ (Nat.le_refl _) hle Hsz.out, (Below.refl _ _).drew.alloc (Nat.le_refl _) _⟩
/-- A slice of bytes: where it lies, and its bytes. -/
structure Sl where
  A : Option Addr
  n : Nat
  c : Nat
  l : List UInt8
def slV (s : Sl) : Value := .slice s.A s.n s.c
def catS (ss : List Sl) : List UInt8 := ss.flatMap (·.l)
theorem catS_snoc (ss : List Sl) (k : Nat) (s : Sl) (h : ss[k]? = some s) : catS (ss.take (k + 1)) = catS (ss.take k) ++ s.l := by
  rw [List.take_add_one, h]
  simp [catS]
theorem catS_take_le (ss : List Sl) (k : Nat) : (catS (ss.take k)).length ≤ (catS ss).length := by
  have : catS ss = catS (ss.take k) ++ catS (ss.drop k) := by
    unfold catS
    rw [← List.flatMap_append, List.take_append_drop]
  rw [this, List.length_append]
  omega
set_option maxRecDepth 100000 in
set_option maxHeartbeats 1000000 in
theorem Concat_any (A0 : Option Addr) (m0 c0 B : Nat) (ss : List Sl) (T : List UInt8) (N : Nat) (hT : catS ss = T) (hN : T.length = N) (w : World) (hr0 : Rd w B 1 A0 m0 (ss.map slV)) (hss : ∀ s ∈ ss, Rd w B 1 s.A s.n (s.l.map bv)) (hB : B ≤ w.heap.size) (hm : m0 ≤ 1099511627776) (hn : N ≤ 1099511627776) :
    Calls Tryz.prog 13 #[.slice A0 m0 c0] w fun e w' => ∃ A' c', e = .returned (.slice A' N c') ∧ Made w' w.heap.size 5 1 A' N c' (T.map bv) ∧ Below w.heap.size w w' := by
  obtain ⟨i0, hi0, hz0, hz1, hz2⟩ := info_parts u8_info
  have hlen : ss.length = m0 := by simpa using hr0.1
  have hpart : ∀ k, (catS (ss.take k)).length ≤ 1099511627776 := fun k => by have := catS_take_le ss k; rw [hT] at this; omega
  have hrow : ∀ k s, ss[k]? = some s → s.l.length = s.n ∧ (catS (ss.take (k + 1))).length = (catS (ss.take k)).length + s.n := fun k s hs => by
    have h1 := (hss s (List.mem_of_getElem? hs)).1
    have h2 : s.l.length = s.n := by simpa using h1
    rw [catS_snoc ss k s hs, List.length_append, h2]
    exact ⟨rfl, rfl⟩
  have Hlen := Lib.hid hlen
  have Hpart := Lib.hid hpart
  have Hrow := Lib.hid hrow
  have Hr0 := Lib.hid (hr0.mono hB)
  have Hss := Lib.hid (fun s hs => (hss s hs).mono hB)
  have HT := Lib.hid hT
  have HN := Lib.hid hN
  clear hlen hpart hrow hr0 hss hT hN
  go_enter Tryz.func13, Tryz.ntmps13
  go_wp2
  go_loopw [3, 11] (fun v i wr => ∃ k : Nat, k ≤ m0 ∧ i = .int .i64 k ∧ v = .int .i64 ((catS (ss.take k)).length : Int) ∧ w = wr) (fun _ i _ => m0 - (intOf i).toNat)
  case atStart => exact ⟨0, Nat.zero_le _, rfl, by simp [catS], rfl⟩
  case round =>
    obtain ⟨k, hk, rfl, rfl, rfl⟩ := hrel
    by_cases hlt : k < m0
    · obtain ⟨s, hs⟩ : ∃ s, ss[k]? = some s := ⟨ss[k]'(by have := Hlen.out; omega), List.getElem?_eq_getElem (by have := Hlen.out; omega)⟩
      obtain ⟨b, off, u, rfl, hbl, hu, hc⟩ := Hr0.out.get hlt
      rw [List.getElem?_map, hs] at hu
      simp at hu
      subst hu
      unfold slV at hc
      obtain ⟨h1, h2⟩ := Hrow.out k s hs
      have h3 := Hpart.out (k + 1)
      generalize hq : (catS (ss.take k)).length = q at *
      have Hnext := Lib.hid h2
      rw [h2] at h3
      clear h1 h2 hs hq
      have hneg : ¬ ((q : Int) + (s.n : Int) < 0) := by omega
      go_wp2
      go_roundw
      case rel => exact ⟨k + 1, by omega, by go_num, by rw [Hnext.out]; go_num, trivial⟩
      case measure => simp [intOf]; omega
    · have hkm : k = m0 := by omega
      have hge : m0 ≤ k := by omega
      have htk : ss.take k = ss := List.take_of_length_le (by have := Hlen.out; omega)
      rw [htk, HT.out, HN.out]
      clear hkm htk
      go_wp2_with fail
      refine (Grow_nil N _ hn).mono ?_
      rintro e w1 ⟨v1, rfl, hown1, hb1⟩
      go_wp2_with fail
      go_loopw [6, 27] (fun v i wr => ∃ k : Nat, k ≤ m0 ∧ i = .int .i64 k ∧ wr.ownsRow w.heap.size 5 1 v (catS (ss.take k)).length ((catS (ss.take k)).map bv) ∧ Below w.heap.size w wr) (fun _ i _ => m0 - (intOf i).toNat)
      case atStart => exact ⟨0, Nat.zero_le _, rfl, hown1, hb1⟩
      case round =>
        obtain ⟨k, hk, rfl, hown, hb⟩ := hrel
        have hsz := hb.size
        by_cases hlt : k < m0
        · obtain ⟨s, hs⟩ : ∃ s, ss[k]? = some s := ⟨ss[k]'(by have := Hlen.out; omega), List.getElem?_eq_getElem (by have := Hlen.out; omega)⟩
          obtain ⟨b, off, u, rfl, hbl, hu, hc⟩ := (Hr0.out.below hb).get hlt
          rw [List.getElem?_map, hs] at hu
          simp at hu
          subst hu
          unfold slV at hc
          have hrs := Lib.hid ((Hss.out s (List.mem_of_getElem? hs)).below hb)
          obtain ⟨h1, h2⟩ := Hrow.out k s hs
          have h3 := Hpart.out (k + 1)
          have hsn := Lib.hid (catS_snoc ss k s hs)
          have Hnext := Lib.hid h2
          generalize hq : (catS (ss.take k)).length = q at *
          rw [h2] at h3
          have Hown := Lib.hid hown
          clear h1 h2 hs hown
          go_wp2_with (at_builtin; refine wpList_append_rd _ rfl (.tmp 31) (.tmp 32) _ rfl w.heap.size 5 i0 (.int .u8 0) 1 1 Tryz.underlying23 hi0 hz0 hz1 hz2 rfl (by decide) _ q _ rfl Hown.out w.heap.size s.A s.n s.c _ rfl hrs.out (oneCell_bv _) (by unfold maxLen; omega) (by omega) hsz ?_; intro v5 w5 hown5 hg5 hat5)
          have hB5 := below_grown hb Hown.out hg5 hsz
          go_roundw
          case rel =>
            refine ⟨k + 1, by omega, by go_num, ?_, hB5⟩
            rw [Hnext.out, hsn.out, List.map_append]
            exact hown5
          case measure => simp [intOf]; omega
        · have hkm : k = m0 := by omega
          have hge : m0 ≤ k := by omega
          have htk : ss.take k = ss := List.take_of_length_le (by have := Hlen.out; omega)
          rw [htk, HT.out, HN.out] at hown
          obtain ⟨A', c', rfl, hm'⟩ := made_of_own hown
          clear hkm htk hown
          go_wp2
          go_ret
          exact ⟨A', c', rfl, hm', hb⟩
end Go.Proofs.YthkkcelfgcholaaGreat
namespace Go.Proofs.YthkkcelfgcholaaGreat
open Go.RowKit
set_option linter.unusedVariables false
set_option linter.unusedSimpArgs false
set_option maxRecDepth 100000 in
theorem PermNew_any (n : Nat) (w : World) (hn : n ≤ 2147483648) :
    Calls Tryz.prog 15 #[.int .i64 (n : Int), .slice none 0 0] w fun e w' => ∃ gp ga, e = .returned (.tuple #[.pointer (some ⟨gp, 0, none⟩), .int .i64 0]) ∧ PermAt w' w.heap.size gp ga (.slice none 0 0) (.slice none 0 0) (.slice none 0 0) (.slice none 0 0) n n [] [] [] [] ∧ Below w.heap.size w w' := by
  have h1 : ¬ ((n : Int) < 0) := by omega
  have h2 : ¬ ((n : Int) > 2147483648) := by omega
  go_enter Tryz.func15, Tryz.ntmps15
  go_wp2_with fail
  refine (ArenaNew_any _).mono ?_
  rintro e w1 ⟨rfl, hbk, hb⟩
  have Hbk := Lib.hid hbk
  have Hb := Lib.hid hb
  have hz := hbk.lt
  clear hbk hb
  go_wp2_with fail
  refine wp_loop_rounds 1 ?_
  rw [rounds_succ]
  go_wp2_with fail
  go_ret2
  have hs := Hb.out.size
  exact ⟨_, _, rfl, ⟨Bk.new _ _ _, World.ownsRow_nil _ _ _ _, World.ownsRow_nil _ _ _ _, Hbk.out.alloc _, World.ownsRow_nil _ _ _ _, World.ownsRow_nil _ _ _ _, .inl rfl, fun k hk => (by cases hk), ⟨hs, Nat.le_refl _⟩⟩, Hb.out.alloc hs _⟩
/-- The pairs that are sampled among the first k rows. -/
def sampC (rs : List Nat) (rate k : Nat) : List (Nat × Nat) := ((List.range k).filter fun i => rs.getD i 0 % rate == 0).map fun i => (i, rs.getD i 0)
theorem sampC_succ (rs : List Nat) (rate k : Nat) : sampC rs rate (k + 1) = if rs.getD k 0 % rate = 0 then sampC rs rate k ++ [(k, rs.getD k 0)] else sampC rs rate k := by
  unfold sampC
  rw [List.range_succ, List.filter_append, List.map_append]
  by_cases h : rs.getD k 0 % rate = 0
  · rw [if_pos h]
    simp only [List.filter_cons, h, beq_self_eq_true, if_true, List.filter_nil, List.map_cons, List.map_nil]
  · rw [if_neg h]
    have : (rs.getD k 0 % rate == 0) = false := by simpa using h
    simp only [List.filter_cons, this, Bool.false_eq_true, if_false, List.filter_nil, List.map_nil, List.append_nil]
theorem sampC_mem {rs : List Nat} {rate k : Nat} {x : Nat × Nat} (h : x ∈ sampC rs rate k) : x.1 < k ∧ x.2 = rs.getD x.1 0 := by
  unfold sampC at h
  obtain ⟨i, hi, rfl⟩ := List.mem_map.1 h
  have := (List.mem_filter.1 hi).1
  exact ⟨by simpa using this, rfl⟩
theorem sampC_sorted (rs : List Nat) (rate k : Nat) : (sampC rs rate k).Pairwise (fun a b => a.1 < b.1) := by
  unfold sampC
  rw [List.pairwise_map]
  exact List.Pairwise.filter _ List.pairwise_lt_range
theorem rowK_mem {C : List (Nat × Nat)} {k : Nat} (h : k < C.length) : (rowK C k, posK C k) ∈ C := by
  unfold rowK posK
  rw [List.getD_eq_getElem?_getD, List.getElem?_eq_getElem h]
  exact List.getElem_mem h
theorem rowK_sorted {C : List (Nat × Nat)} (h : C.Pairwise (fun a b => a.1 < b.1)) : (List.range C.length).Pairwise (fun a b => rowK C a < rowK C b) := by
  rw [List.pairwise_iff_getElem]
  intro i j hi hj hij
  have hi' : i < C.length := by simpa using hi
  have hj' : j < C.length := by simpa using hj
  have := List.pairwise_iff_getElem.1 h i j hi' hj' hij
  simp only [List.getElem_range]
  unfold rowK
  rw [List.getD_eq_getElem?_getD, List.getD_eq_getElem?_getD, List.getElem?_eq_getElem hi', List.getElem?_eq_getElem hj']
  exact this
theorem Apt.next2 {v v' : Value} {A : Option Addr} {N : Nat} (h : Apt v A) (ho : v'.ownBlock = v.ownBlock ∨ ∃ g, v'.ownBlock = some g ∧ N ≤ g) (hA : ∀ a, A = some a → a.block < N) : Apt v' A := by
  intro a ha hb
  rcases ho with e | ⟨g, e, hg⟩
  · exact h a ha (e.symm.trans hb)
  · rw [e] at hb
    injection hb with hb
    have := hA a ha
    omega
theorem PermAt.foot {w : World} {B gp ga : Nat} {vl vo vt vf : Value} {R P : Nat} {ks : List Nat} {C : List (Nat × Nat)} {tk : List Bool} {fr : List Nat} (h : PermAt w B gp ga vl vo vt vf R P ks C tk fr) {b : Nat} (hb : PF gp ga vl vo vt b) : B ≤ b := by
  rcases hb with rfl | rfl | hb | hb | hb
  · exact h.lo.1
  · exact h.lo.2
  · exact (h.lrow.lt _ hb).1
  · exact (h.orow.lt _ hb).1
  · exact (h.trow.lt _ hb).1
theorem PermAt.keep {F : Nat → Prop} {w w' : World} {B gp ga : Nat} {vl vo vt vf : Value} {R P : Nat} {ks : List Nat} {C : List (Nat × Nat)} {tk : List Bool} {fr : List Nat} (h : PermAt w B gp ga vl vo vt vf R P ks C tk fr) (k : Keep F w w')
    (hf : ∀ b t cs, F b → Bk w b t cs → t ∉ [69, 71, 3, 108, 4]) : PermAt w' B gp ga vl vo vt vf R P ks C tk fr :=
  ⟨k.bk h.blk (fun f => hf _ _ _ f h.blk (by decide)), own_keepT h.lrow k (fun b cs f hb => hf _ _ _ f hb (by decide)), own_keepT h.orow k (fun b cs f hb => hf _ _ _ f hb (by decide)), k.bk h.ar (fun f => hf _ _ _ f h.ar (by decide)), own_keepT h.trow k (fun b cs f hb => hf _ _ _ f hb (by decide)), own_keepT h.frow k (fun b cs f hb => hf _ _ _ f hb (by decide)), h.apart, h.lt, h.lo⟩
/-- What holds behind k rows. -/
structure LvInv (w2 : World) (B1 B3 gl gk gp ga n rate : Nat) (A3 : Option Addr) (c3 : Nat) (rs : List Nat) (k : Nat) (vl vo vt : Value) (tk : List Bool) (wr : World) : Prop where
  perm : PermAt wr B1 gp ga vl vo vt (.slice none 0 0) n n (List.range (sampC rs rate k).length) (sampC rs rate k) tk []
  len : tk.length = (sampC rs rate k).length
  apt : Apt vo A3
  row : wr.ownsRow B3 3 1 (.slice A3 n c3) n (rs.map sv)
  blk : Bk wr gl 43 #[.pointer (some ⟨gk, 0, none⟩), .pointer (some ⟨gp, 0, none⟩), .int .i64 (rate : Int), .int .i64 0]
  below : Below w2.heap.size w2 wr
/-- gl is a text's Live as New makes it: its walk of L, its pairs. -/
structure LiveAt (w : World) (Bw gl gk gp ga : Nat) (vl vo vt : Value) (B n rate : Nat) (L : List Nat) (C : List (Nat × Nat)) (tk : List Bool) : Prop where
  blk : Bk w gl 43 #[.pointer (some ⟨gk, 0, none⟩), .pointer (some ⟨gp, 0, none⟩), .int .i64 (rate : Int), .int .i64 0]
  walk : WalkAt w Bw gk L
  perm : PermAt w B gp ga vl vo vt (.slice none 0 0) n n (List.range C.length) C tk []
set_option maxRecDepth 100000 in
set_option maxHeartbeats 4000000 in
theorem LiveNew_any (rate : Nat) (A0 : Option Addr) (m0 c0 B : Nat) (ss : List Sl) (t : List UInt8) (N : Nat) (hT : catS ss = t) (hN : t.length = N) (w : World) (hr0 : Rd w B 1 A0 m0 (ss.map slV)) (hss : ∀ s ∈ ss, Rd w B 1 s.A s.n (s.l.map bv)) (hB : B ≤ w.heap.size) (hm : m0 ≤ 1000000) (hn : N ≤ 127) (hr1 : 1 ≤ rate) (hr2 : rate ≤ 64) :
    Calls Tryz.prog 6 #[.int .i64 (rate : Int), .slice A0 m0 c0] w fun e w' => ∃ gl gk gp ga vl vo vt B' tk rs, IsSuf (symL t) rs ∧ e = .returned (.tuple #[.pointer (some ⟨gl, 0, none⟩), .int .i64 0]) ∧ w.heap.size ≤ gl ∧ LiveAt w' w.heap.size gl gk gp ga vl vo vt B' (N + 1) rate (lastL (symL t) rs) (sampC rs rate (N + 1)) tk ∧ tk.length = (sampC rs rate (N + 1)).length ∧ Below w.heap.size w w' := by
  have hcat := Concat_any A0 m0 c0 B ss t N hT hN w hr0 hss hB (by omega) (by omega)
  have hrI1 : ¬ ((rate : Int) < 1) := by omega
  have hrI2 : ¬ ((rate : Int) > 64) := by omega
  clear hr0 hss
  go_enter Tryz.func6, Tryz.ntmps6
  go_wp2_with fail
  refine hcat.mono ?_
  clear hcat
  rintro e w1 ⟨A1, c1, rfl, hm1, hb1⟩
  have hbb1 := hb1
  have hR1 := hm1.rd
  have HR1 := Lib.hid hR1
  have Hb1 := Lib.hid hb1
  clear hm1 hb1 hbb1 hR1
  go_wp2_with fail
  refine (WalkNew_any A1 N c1 w1.heap.size t w1 HR1.out (Nat.le_refl _) hn).mono ?_
  rintro e w2 ⟨gk, rs, hsuf, rfl, hgk, hwk, hb2⟩
  have hR2 := HR1.out.below hb2
  have hb12 := Hb1.out.trans (hb2.mono Hb1.out.size)
  have Hsuf := Lib.hid hsuf
  have Hwk := Lib.hid (hwk.mono Hb1.out.size)
  have HR2 := Lib.hid (hR2.mono hb2.size)
  have Hb2 := Lib.hid hb12
  clear hsuf hwk hR2 hb12 hb2 HR1 Hb1 hgk
  go_wp2_with fail
  obtain ⟨n, hn1⟩ : ∃ n, N + 1 = n := ⟨_, rfl⟩
  have hnI : (N : Int) + 1 = (n : Int) := by omega
  rw [hnI]
  have hlb := Bk.new w2 43 #[.pointer (some ⟨gk, 0, none⟩), .pointer none, .int .i64 (rate : Int), .int .i64 0]
  have hbA : Below w2.heap.size w2 (w2.alloc (.cells #[.pointer (some ⟨gk, 0, none⟩), .pointer none, .int .i64 (rate : Int), .int .i64 0] 43)) := (Below.refl _ _).alloc (Nat.le_refl _) _
  obtain ⟨gl, hgl⟩ : ∃ g, w2.heap.size = g := ⟨_, rfl⟩
  rw [hgl] at hlb
  rw [hgl]
  have Hgl := Lib.hid hgl
  generalize w2.alloc (.cells #[.pointer (some ⟨gk, 0, none⟩), .pointer none, .int .i64 (rate : Int), .int .i64 0] 43) = w3 at hlb hbA ⊢
  have Hlb := Lib.hid hlb
  have HbA := Lib.hid hbA
  have HN1 := Lib.hid hn1
  clear hlb hbA hn1 hgl
  refine (PermNew_any n w3 (by omega)).mono ?_
  rintro e w4 ⟨gp, ga, rfl, hpm, hb4⟩
  have hlb4 := Hlb.out.below hb4 Hlb.out.lt
  have d1 : w4.cell? ⟨gl, 1, none⟩ = some (.pointer none) := (hlb4.cell 1).trans rfl
  have f1 := hlb4.frozen 1
  have Hlb4 := Lib.hid hlb4
  have Hpm := Lib.hid hpm
  have Hb4 := Lib.hid hb4
  clear hlb4 hpm hb4
  go_wp2_with fail
  have hk45 := (Keep.refl (fun b => b = gl) w4).setCell (p := ⟨gl, 1, none⟩) (.inl rfl) (.pointer (some ⟨gp, 0, none⟩))
  have hlb5 := Hlb4.out.set 1 (.pointer (some ⟨gp, 0, none⟩))
  have hpm5 := Hpm.out.keep hk45 (fun b t cs f hb => by
    subst f
    have := (bk_inj hb Hlb4.out).1
    subst this
    decide)
  have hb25 : Below w2.heap.size w2 (w4.setCell ⟨gl, 1, none⟩ (.pointer (some ⟨gp, 0, none⟩))) := (HbA.out.trans (Hb4.out.mono HbA.out.size)).setCell (by rw [Hgl.out]; exact Nat.le_refl _) _
  have hgl2 := Hgl.out
  have hB1 : w2.heap.size ≤ w3.heap.size := HbA.out.size
  clear d1 f1
  generalize w4.setCell ⟨gl, 1, none⟩ (.pointer (some ⟨gp, 0, none⟩)) = w5 at hlb5 hpm5 hb25 ⊢
  have hrows := SortedRows_any A1 N c1 w2.heap.size t w5 (HR2.out.below hb25) hb25.size (by omega)
  rw [HN1.out] at hrows
  have Hlb5 := Lib.hid hlb5
  have Hpm5 := Lib.hid hpm5
  have Hb25 := Lib.hid hb25
  clear hk45 hlb5 hpm5 hb25
  refine hrows.mono ?_
  clear hrows
  rintro e w6 ⟨rs', A3, c3, hsuf', rfl, hm6, hb6⟩
  obtain rfl : rs = rs' := Hsuf.out.unique hsuf'
  have hlen : rs.length = n := by rw [Hsuf.out.len, symL_len, hN, HN1.out]
  have hinv : LvInv w2 w3.heap.size w5.heap.size gl gk gp ga n rate A3 c3 rs 0 (.slice none 0 0) (.slice none 0 0) (.slice none 0 0) [] w6 :=
    ⟨Hpm5.out.below hb6, rfl, fun a _ hb => (by cases hb), hm6.own, Hlb5.out.below hb6 Hlb5.out.lt, Hb25.out.trans (hb6.mono Hb25.out.size)⟩
  have Hlen := Lib.hid hlen
  have Hinv := Lib.hid hinv
  clear hinv hm6 hb6 hsuf' hlen Hlb5 Hpm5 Hb25
  go_wp2_with fail
  go_loopw [8, 9, 36] (fun _ _ i wr => ∃ k : Nat, k ≤ n ∧ i = .int .i64 k ∧ ∃ vl vo vt tk, LvInv w2 w3.heap.size w5.heap.size gl gk gp ga n rate A3 c3 rs k vl vo vt tk wr) (fun _ _ i _ => n - (intOf i).toNat)
  case atStart => exact ⟨0, by omega, rfl, _, _, _, _, Hinv.out⟩
  case round =>
    clear Hinv
    obtain ⟨k, hk, rfl, vl, vo, vt, tk, hinv⟩ := hrel
    by_cases hlt : k < n
    · have hkl : k < rs.length := by rw [Hlen.out]; exact hlt
      obtain ⟨p, hp⟩ : ∃ p, rs[k]? = some p := ⟨_, List.getElem?_eq_getElem hkl⟩
      have hpn : p < n := by have := Hsuf.out.lt (List.mem_of_getElem? hp); rw [symL_len, hN, HN1.out] at this; exact this
      have hgd : rs.getD k 0 = p := by rw [List.getD_eq_getElem?_getD, hp]; rfl
      have hrd := Rd.of_own hinv.row
      obtain ⟨b, off, u, hA3, hbl, hu, hc⟩ := hrd.get hlt
      rw [List.getElem?_map, hp] at hu
      injection hu with hu
      subst hu hA3
      unfold sv at hc
      have cg0 := hinv.blk.cell 1
      have hmt : ((p : Int)).tmod (rate : Int) = ((p % rate : Nat) : Int) := by rw [Int.tmod_eq_emod_of_nonneg (by omega)]; simp
      have hme : ((p : Int)) % (rate : Int) = ((p % rate : Nat) : Int) := by simp
      obtain ⟨q, hq⟩ : ∃ q, p % rate = q := ⟨_, rfl⟩
      rw [hq] at hmt hme
      have hsc := sampC_succ rs rate k
      rw [hgd, hq] at hsc
      have Hgd := Lib.hid hgd
      have Hp := Lib.hid hp
      have Hq := Lib.hid hq
      have Hinv := Lib.hid hinv
      have Hrl := Lib.hid hbl
      clear hgd hp hq hinv hrd hkl hbl
      by_cases hq0 : q = 0
      · subst hq0
        rw [if_pos rfl] at hsc
        have Hsc := Lib.hid hsc
        clear hsc
        go_wp2_with fail
        have hadd := PermAdd_any w3.heap.size gp ga vl vo vt n n (List.range (sampC rs rate k).length) (sampC rs rate k) tk k p wr Hinv.out.perm (rowK_sorted (sampC_sorted rs rate k)) (fun j hj => (sampC_mem (rowK_mem (by simpa using hj))).1) (fun j hj e => by
          have h1 := sampC_mem (rowK_mem (C := sampC rs rate k) (by simpa using hj))
          have h2 : posK (sampC rs rate k) j = rs.getD (rowK (sampC rs rate k) j) 0 := h1.2
          have h3 : rowK (sampC rs rate k) j < k := h1.1
          have hkl : k < rs.length := by rw [Hlen.out]; exact hlt
          have h4 : rs[rowK (sampC rs rate k) j]? = rs[k]? := by
            rw [Hp.out, ← e, h2, List.getD_eq_getElem?_getD, List.getElem?_eq_getElem (show rowK (sampC rs rate k) j < rs.length by omega)]
            rfl
          have := (List.getElem?_inj (show rowK (sampC rs rate k) j < rs.length by omega) Hsuf.out.nodup).1 h4
          omega) hlt hpn Hinv.out.len (by
            have : (sampC rs rate k).length ≤ k := by unfold sampC; rw [List.length_map]; exact Nat.le_trans (List.length_filter_le _ _) (by simp)
            omega) (by
            have : (sampC rs rate k).length ≤ k := by unfold sampC; rw [List.length_map]; exact Nat.le_trans (List.length_filter_le _ _) (by simp)
            simp
            omega) (by have := Hinv.out.perm.blk.lt; have := Hinv.out.perm.lo.1; omega)
        refine hadd.mono ?_
        clear hadd
        rintro e w7 ⟨rfl, hk7, vl', vo', vt', hpm7, hf1, hf2, hf3⟩
        go_wp2_with fail
        go_roundw
        case rel =>
          have hinv := Hinv.out
          refine ⟨k + 1, by omega, by go_num, vl', vo', vt', tk ++ [true], ?_, ?_, ?_, ?_, ?_, ?_⟩
          · rw [Hsc.out]
            simpa [List.range_succ] using hpm7
          · rw [Hsc.out]
            simp [hinv.len]
          · exact hinv.apt.next2 hf1 (fun a ha => by injection ha with ha; subst ha; exact Hrl.out)
          · refine own_same hinv.row fun b' cs hb' hbk => hk7.bk hbk (fun f => ?_)
            rcases f with f | f | f | f | f
            · subst f; exact Bk.ne hbk hinv.perm.blk (by decide) rfl
            · subst f; exact Bk.ne hbk hinv.perm.ar (by decide) rfl
            · exact own_bk_ne hinv.perm.lrow hbk (by decide) f.symm
            · have hb2 : b = b' := by simpa [Value.ownBlock] using hb'
              subst hb2
              exact hinv.apt _ rfl f
            · exact own_bk_ne hinv.perm.trow hbk (by decide) f.symm
          · refine hk7.bk hinv.blk (fun f => ?_)
            have := hinv.perm.foot f
            have := Hlb.out.lt
            omega
          · exact hinv.below.trans (hk7.to_below hinv.below.size (fun b' hb' f => by have := hinv.perm.foot f; omega))
        case measure => simp [intOf]; omega
      · rw [if_neg hq0] at hsc
        have Hsc := Lib.hid hsc
        have hqb : ((q : Int) == 0) = false := by simp; omega
        clear hsc
        go_wp2_with fail
        go_roundw
        case rel =>
          have hinv := Hinv.out
          exact ⟨k + 1, by omega, by go_num, vl, vo, vt, tk, by rw [Hsc.out]; exact hinv.perm, by rw [Hsc.out]; exact hinv.len, hinv.apt, hinv.row, hinv.blk, hinv.below⟩
        case measure => simp [intOf]; omega
    · obtain rfl : n = k := by omega
      have Hinv := Lib.hid hinv
      clear hinv
      go_wp2_with fail
      go_ret2
      have hinv := Hinv.out
      refine ⟨gl, gk, gp, ga, vl, vo, vt, w3.heap.size, tk, rs, Hsuf.out, rfl, ?_, ⟨hinv.blk, ?_, ?_⟩, ?_, ?_⟩
      · have := Hb2.out.size
        have := Hgl.out
        omega
      · exact Hwk.out.vis (Vis.of_below hinv.below)
      · rw [HN1.out]; exact hinv.perm
      · rw [HN1.out]; exact hinv.len
      · exact Hb2.out.trans (hinv.below.mono Hb2.out.size)
end Go.Proofs.YthkkcelfgcholaaGreat
namespace Go.Proofs.YthkkcelfgcholaaGreat
open Go.RowKit Go
set_option linter.unusedVariables false
section
variable {P : Program} {ops : Array Oper} {Q : Exit → Act → World → Prop} {md : Region.Mode}
theorem wpAny_tail3 (n : Nat) (ds : List Nat) (C : World → Prop) (S : Nat → World → World → Prop) (U : Nat → World → Prop) (V : Nat → Value → World → Prop) (a0 : Act)
    (W0 : World) (hds : (ops.toList.take n).filterMap (·.dst) = ds) (hn : n ≤ ops.size) (hlaid : laidB md ops a0.tmps.size = true) (htail : ((List.range ops.size).all fun k => decide (k < n) || (List.range n).all fun i => upB md ops ops.size k i) = true) (hC0 : C W0) (hU0 : ∀ i, U i W0) (hC : ∀ j w w', j < n → C w → S j w w' → C w')
    (hU : ∀ i j w w', j < n → i ≠ j → upB md ops ops.size j i = false → U i w → C w → S j w w' → U i w')
    (hstab : ∀ i j v w w', j < n → i ≠ j → aftB md ops i j = false → V i v w → C w → S j w w' → V i v w')
    (hstep : ∀ j o, j < n → ops[j]? = some o → StepOk3 P ops Q md C S U V a0 j o)
    (hend : ∀ (ev : Operand → Value) w f, C w → (∀ i d, i < n → ((ops[i]?).bind (·.dst)) = some d → V i (ev (.tmp d)) w) → (∀ i, i < n → ∃ v, V i v w) → wpAny P md ops Q (ops.size - n + f) (firstN n ops.size) (putsOf ev ds a0) w) :
    wpAny P md ops Q ops.size (Array.replicate ops.size false) a0 W0 := by
  refine wpAny_tail n C S U V a0 W0 hn hlaid htail hC0 hU0 hC hU hstab hstep fun a w f hS hsz hdf hold hval => ?_
  have h1 := hend a.eval w f hS (fun i d hi hd => by
    cases ho : ops[i]? with
    | none => rw [ho] at hd; cases hd
    | some o =>
      rw [ho] at hd
      obtain ⟨v, h1, h2⟩ := hval i o hi ho
      have := h1 d hd
      change V i (a.tmps.getD d undef) w
      rw [this]
      exact h2) (fun i hi => by
    obtain ⟨v, _, h2⟩ := hval i _ hi (Array.getElem?_eq_getElem (Nat.lt_of_lt_of_le hi hn))
    exact ⟨v, h2⟩)
  rw [← act_puts a a0 ds hsz hdf fun t ht => hold t fun k p hk hp hd => ht ?_] at h1
  · exact h1
  · rw [← hds]
    refine List.mem_filterMap.2 ⟨p, ?_, hd⟩
    have hk2 : (ops.toList.take n)[k]? = some p := by
      rw [List.getElem?_take, if_pos hk, Array.getElem?_toList]
      exact hp
    exact List.mem_of_getElem? hk2
end
/-- Where blocks of F are written besides. -/
def VFB (B : Nat) (F : Nat → Prop) (w w' : World) : Prop := VisF F w w' ∧ Keep (fun b => F b ∨ B ≤ b) w w'
section
variable {B : Nat} {F : Nat → Prop} {w w1 w' : World}
theorem VFB.of_vb (h : VB B w w') : VFB B F w w' := ⟨VisF.of_vis h.1, h.2.mono fun _ _ f => .inr f⟩
theorem VFB.trans (h : VFB B F w w1) (k : VFB B F w1 w') : VFB B F w w' := ⟨h.1.trans k.1, h.2.trans k.2⟩
theorem VFB.put (h : VFB B F w w1) {p : Addr} (hp : F p.block ∨ w.heap.size ≤ p.block) (u : Value) : VFB B F w (w1.setCell p u) := ⟨VisF.put h.1 hp u, h.2.setCell (hp.elim (fun f => .inl (.inl f)) .inr) u⟩
theorem VFB.wider {G : Nat → Prop} (h : VFB B F w w') (hf : ∀ b, F b → G b) : VFB B G w w' := ⟨⟨h.1.os, h.1.tape, h.1.output, h.1.size, fun b hb hn => h.1.block b hb (fun f => hn (hf b f))⟩, h.2.mono fun b _ f => f.elim (fun f => .inl (hf b f)) .inr⟩
theorem VFB.to_vb (h : VFB B F w w') (hf : ∀ b, b < w.heap.size → ¬ F b) : VB B w w' := ⟨h.1.to_vis hf, h.2.mono fun b hb f => f.elim (fun f => absurd f (hf b hb)) id⟩
end
def VStep (B : Nat) (F : Nat → Prop) (J j : Nat) (w w' : World) : Prop := (j = J → VFB B F w w') ∧ (j ≠ J → VB B w w')
theorem vstep_any {B : Nat} {F : Nat → Prop} {J j : Nat} {w w' : World} (h : VStep B F J j w w') : VFB B F w w' := by
  by_cases hj : j = J
  · exact h.1 hj
  · exact VFB.of_vb (h.2 hj)
theorem vstep_vis {B : Nat} {F : Nat → Prop} {J j : Nat} {w w' : World} (h : VB B w w') : VStep B F J j w w' := ⟨fun _ => VFB.of_vb h, fun _ => h⟩
theorem vstep_at {B : Nat} {F : Nat → Prop} {J : Nat} {w w' : World} (h : VFB B F w w') : VStep B F J J w w' := ⟨fun _ => h, fun e => absurd rfl e⟩
theorem wpAny_vis_tail {P : Program} {ops : Array Oper} {Q : Exit → Act → World → Prop} {md : Region.Mode} (B n : Nat) (ds : List Nat) (F : Nat → Prop) (J : Nat) (rd : List Nat) (pre : World → Prop) (pJ : Value → World → Prop) (l : List (Value → World → Prop)) (a0 : Act) (W0 : World)
    (hds : (ops.toList.take n).filterMap (·.dst) = ds) (hn : n ≤ ops.size) (hlaid : laidB md ops a0.tmps.size = true) (htail : ((List.range ops.size).all fun k => decide (k < n) || (List.range n).all fun i => upB md ops ops.size k i) = true)
    (hrd : (rd.all fun i => i == J || upB md ops ops.size J i) = true)
    (hp0 : pre W0) (hp : ∀ w w', pre w → VFB B F W0 w → VB B w w' → pre w') (hJ : StbS (VB B) pJ) (hst : ∀ p ∈ l, StbS (VFB B F) p)
    (hstep : ∀ j o, j < n → ops[j]? = some o → StepOk3 P ops Q md (VFB B F W0) (VStep B F J) (fun i w => rd.contains i = true → pre w) (VsJ J pJ l) a0 j o)
    (hend : ∀ (ev : Operand → Value) w f, VFB B F W0 w → (∀ i d, i < n → ((ops[i]?).bind (·.dst)) = some d → VsJ J pJ l i (ev (.tmp d)) w) → (∀ i, i < n → ∃ v, VsJ J pJ l i v w) → wpAny P md ops Q (ops.size - n + f) (firstN n ops.size) (putsOf ev ds a0) w) :
    wpAny P md ops Q ops.size (Array.replicate ops.size false) a0 W0 := by
  refine wpAny_tail3 n ds (VFB B F W0) (VStep B F J) (fun i w => rd.contains i = true → pre w) (VsJ J pJ l) a0 W0 hds hn hlaid htail (VFB.of_vb (VisK.refl _ _)) (fun _ _ => hp0) (fun j w w' _ h k => h.trans (vstep_any k)) (fun i j w w' _ hij hup hi hC k hir => ?_) (fun i j v w w' _ hij _ hv _ k => ?_) hstep hend
  · by_cases hj : j = J
    · exfalso
      subst hj
      have h2 := List.all_eq_true.1 hrd i (by simpa using hir)
      simp only [hup, Bool.or_false, beq_iff_eq] at h2
      exact hij h2
    · exact hp w w' (hi hir) hC (k.2 hj)
  · unfold VsJ at hv ⊢
    by_cases hi : i = J
    · rw [if_pos hi] at hv ⊢
      exact hJ v w w' hv (k.2 fun e => hij (hi.trans e.symm))
    · rw [if_neg hi] at hv ⊢
      exact stbs_all hst i v w w' hv (vstep_any k)
end Go.Proofs.YthkkcelfgcholaaGreat
namespace Go.Proofs.YthkkcelfgcholaaGreat
open Go.RowKit Go.Shelf
set_option linter.unusedVariables false
set_option linter.unusedSimpArgs false
theorem ShelfRow.same {w w' : World} {B : Nat} {v : Value} {L : List Nat} {lv m : Nat} (h : ShelfRow w B v L lv m) (k : ∀ b t cs, Bk w b t cs → Bk w' b t cs) : ShelfRow w' B v L lv m := by
  obtain ⟨G, h1, h2⟩ := h
  exact ⟨G, own_same h1 fun b cs _ hb => k _ _ _ hb, fun p hp => ⟨(h2 p hp).1, (h2 p hp).2.same fun b t cs _ hb => k _ _ _ hb⟩⟩
theorem WalkAt.same {w w' : World} {B gk : Nat} {L : List Nat} (h : WalkAt w B gk L) (k : ∀ b t cs, Bk w b t cs → Bk w' b t cs) : WalkAt w' B gk L := by
  obtain ⟨gv, gt, h1, ⟨h0, S, v, h2, h3⟩, h4⟩ := h
  exact ⟨gv, gt, k _ _ _ h1, ⟨h0, S, v, k _ _ _ h2, fun lv hl => (h3 lv hl).same k⟩, k _ _ _ h4⟩
/-- gl is a Live whose walk is of the transform L. -/
def LvW (w : World) (B gl : Nat) (L : List Nat) : Prop := ∃ gk r1 r2 r3, Bk w gl 43 #[.pointer (some ⟨gk, 0, none⟩), r1, r2, r3] ∧ WalkAt w B gk L
theorem LvW.vis {w w' : World} {B gl : Nat} {L : List Nat} (h : LvW w B gl L) (k : Vis w w') : LvW w' B gl L := by
  obtain ⟨gk, r1, r2, r3, h1, h2⟩ := h
  exact ⟨gk, r1, r2, r3, k.bk h1 (by decide) (by decide), h2.vis k⟩
theorem LvW.same {w w' : World} {B gl : Nat} {L : List Nat} (h : LvW w B gl L) (k : ∀ b t cs, Bk w b t cs → Bk w' b t cs) : LvW w' B gl L := by
  obtain ⟨gk, r1, r2, r3, h1, h2⟩ := h
  exact ⟨gk, r1, r2, r3, k _ _ _ h1, h2.same k⟩
theorem LvW.lt {w : World} {B gl : Nat} {L : List Nat} (h : LvW w B gl L) : gl < w.heap.size := by
  obtain ⟨gk, r1, r2, r3, h1, h2⟩ := h
  exact h1.lt
theorem ShelfRow.sameT {w w' : World} {B : Nat} {v : Value} {L : List Nat} {lv m : Nat} (h : ShelfRow w B v L lv m) (k : ∀ b t cs, t ≠ 3 → Bk w b t cs → Bk w' b t cs) : ShelfRow w' B v L lv m := by
  obtain ⟨G, h1, h2⟩ := h
  exact ⟨G, own_same h1 fun b cs _ hb => k _ _ _ (by decide) hb, fun p hp => ⟨(h2 p hp).1, (h2 p hp).2.same fun b t cs ht hb => k _ _ _ (by rintro rfl; revert ht; decide) hb⟩⟩
theorem LvW.sameT {w w' : World} {B gl : Nat} {L : List Nat} (h : LvW w B gl L) (k : ∀ b t cs, t ≠ 3 → Bk w b t cs → Bk w' b t cs) : LvW w' B gl L := by
  obtain ⟨gk, r1, r2, r3, h0, gv, gt, h1, ⟨hB, S, v, h2, h3⟩, h4⟩ := h
  exact ⟨gk, r1, r2, r3, k _ _ _ (by decide) h0, gv, gt, k _ _ _ (by decide) h1, ⟨hB, S, v, k _ _ _ (by decide) h2, fun lv hl => (h3 lv hl).sameT k⟩, k _ _ _ (by decide) h4⟩
/-- One cell of a number of the caller's own may be written, too. -/
theorem LvW.visI {w w' : World} {B gl g : Nat} {x y : Value} {L : List Nat} (h : LvW w B gl L) (k : VisF (fun b => b = g) w w') (hb : Bk w g 3 #[x]) (hb' : Bk w' g 3 #[y]) : LvW w' B gl L := by
  have hg : Bk (w'.setCell ⟨g, 0, none⟩ x) g 3 #[x] := hb'.set 0 x
  have hfar : ∀ b, b ≠ g → (w'.setCell ⟨g, 0, none⟩ x).heap[b]? = w'.heap[b]? := fun b hn => heap_setCell_other w' ⟨g, 0, none⟩ b x hn
  have hu : Vis w (w'.setCell ⟨g, 0, none⟩ x) := by
    refine ⟨k.os, k.tape, k.output, by simpa [World.setCell] using k.size, fun b hlt _ => ?_⟩
    by_cases e : b = g
    · subst e
      exact .inl (hg.trans hb.symm)
    · rcases k.block b hlt e with f | ⟨cs, v, f, f'⟩ | ⟨cs, v, f, f'⟩
      · exact .inl ((hfar b e).trans f)
      · exact .inr (.inl ⟨cs, v, f, (hfar b e).trans f'⟩)
      · exact .inr (.inr ⟨cs, v, f, (hfar b e).trans f'⟩)
  refine (h.vis hu).sameT fun b t cs ht hbk => ?_
  have e : b ≠ g := fun e => by
    subst e
    exact ht (bk_inj hbk hg).1
  exact (hfar b e).symm.trans hbk
theorem LiveAt.lvw {w : World} {Bw gl gk gp ga : Nat} {vl vo vt : Value} {B n rate : Nat} {L : List Nat} {C : List (Nat × Nat)} {tk : List Bool} (h : LiveAt w Bw gl gk gp ga vl vo vt B n rate L C tk) : LvW w Bw gl L := ⟨gk, _, _, _, h.blk, h.walk⟩
set_option maxRecDepth 100000 in
theorem LiveLen_any (B gl : Nat) (L : List Nat) (n : Nat) (w : World) (h : LvW w B gl L) (hn : L.length = n + 1) (hl : n ≤ 1000000) :
    Calls Tryz.prog 19 #[.pointer (some ⟨gl, 0, none⟩)] w fun e w' => e = .returned (.int .i64 (n : Int)) ∧ w = w' := by
  obtain ⟨gk, r1, r2, r3, h1, h2⟩ := h
  have c0 := h1.cell 0
  have e1 : IntKind.i64.wrap (((n + 1 : Nat) : Int) - 1) = (n : Int) := by rw [IntKind.wrap_i64]; omega
  clear h1
  go_enter Tryz.func19, Tryz.ntmps19
  go_wp2_with fail
  refine (WalkLen_any B gk L _ h2).mono ?_
  rintro e w' ⟨rfl, rfl⟩
  rw [hn]
  go_wp2_with fail
  go_ret
  exact ⟨ret_i64 (by omega), rfl⟩
theorem narL_mono (L : List Nat) (s : Nat) {a b : Nat} (h : a ≤ b) : narL L s a ≤ narL L s b := by
  unfold narL
  have := (List.take_sublist_take_left (l := L) h).count_le s
  omega
theorem narL_le (L : List Nat) (s k : Nat) : narL L s k ≤ L.length := by
  unfold narL
  have h1 := (List.take_sublist k L).count_le s
  have h2 : L.countP (fun x => decide (x < s)) + L.count s ≤ L.length := by
    induction L with
    | nil => simp
    | cons x l ih =>
      have := ih ((List.take_sublist k l).count_le s)
      rw [List.countP_cons, List.count_cons]
      by_cases h : x < s
      · have : ¬ x = s := by omega
        simp [h, this]
        omega
      · by_cases h' : x = s
        · simp [h, h']
          omega
        · simp [h, h']
          omega
  omega
end Go.Proofs.YthkkcelfgcholaaGreat
namespace Go.Proofs.YthkkcelfgcholaaGreat
set_option linter.unusedVariables false
set_option linter.unusedSimpArgs false
/-- The suffix from p on is less than the pattern, or (b) begins with it. -/
def Pq (l : List Nat) (b : Bool) : List Nat → Nat → Bool
  | [], _ => b
  | s :: q, p => decide (aN l p < (s : Int)) || (decide (aN l p = (s : Int)) && Pq l b q (p + 1))
/-- The suffix from p on begins with the pattern. -/
def preQ (l : List Nat) : List Nat → Nat → Bool
  | [], _ => true
  | s :: q, p => decide (aN l p = (s : Int)) && preQ l q (p + 1)
theorem Pq_cons (l : List Nat) (b : Bool) (s : Nat) (q : List Nat) (p : Nat) : Pq l b (s :: q) p = (decide (aN l p < (s : Int)) || (decide (aN l p = (s : Int)) && Pq l b q (p + 1))) := rfl
theorem preQ_cons (l : List Nat) (s : Nat) (q : List Nat) (p : Nat) : preQ l (s :: q) p = (decide (aN l p = (s : Int)) && preQ l q (p + 1)) := rfl
theorem sufLt_step (l : List Nat) (p q : Nat) : sufLt l p q ↔ aN l p < aN l q ∨ (aN l p = aN l q ∧ sufLt l (p + 1) (q + 1)) := by
  constructor
  · rintro ⟨w, k, hk, h1, h2⟩
    rcases k with _ | k
    · exact .inl h2
    · refine .inr ⟨h1 0 (by omega), w, k, by omega, fun m hm => ?_, ?_⟩
      · have := h1 (m + 1) (by omega)
        rwa [show p + (m + 1) = p + 1 + m by omega, show q + (m + 1) = q + 1 + m by omega] at this
      · rwa [show p + (k + 1) = p + 1 + k by omega, show q + (k + 1) = q + 1 + k by omega] at h2
  · rintro (h | ⟨h0, w, k, hk, h1, h2⟩)
    · exact ⟨1, 0, by omega, fun m hm => absurd hm (by omega), h⟩
    · refine ⟨w + 1, k + 1, by omega, fun m hm => ?_, ?_⟩
      · rcases m with _ | m
        · exact h0
        · have := h1 m (by omega)
          rwa [show p + (m + 1) = p + 1 + m by omega, show q + (m + 1) = q + 1 + m by omega]
      · rwa [show p + (k + 1) = p + 1 + k by omega, show q + (k + 1) = q + 1 + k by omega]
theorem Pq_down {l : List Nat} {b : Bool} (q : List Nat) : ∀ {p p' : Nat}, sufLt l p' p → Pq l b q p = true → Pq l b q p' = true := by
  induction q with
  | nil => intro p p' _ h; exact h
  | cons s q ih =>
    intro p p' hlt h
    unfold Pq at h ⊢
    simp only [Bool.or_eq_true, Bool.and_eq_true, decide_eq_true_eq] at h ⊢
    rcases (sufLt_step l p' p).1 hlt with h1 | ⟨h1, h2⟩
    · rcases h with h | ⟨h, _⟩
      · exact .inl (by omega)
      · exact .inl (by omega)
    · rcases h with h | ⟨h, h3⟩
      · exact .inl (by omega)
      · exact .inr ⟨by omega, ih h2 h3⟩
/-- A predicate that is downward closed holds of the first ones of a sorted list. -/
theorem take_down {R : Nat → Nat → Prop} {P : Nat → Bool} {rs : List Nat} (hs : rs.Pairwise R) (hd : ∀ x y, R x y → P y = true → P x = true) : rs.take (rs.countP P) = rs.filter P := by
  induction rs with
  | nil => rfl
  | cons x l ih =>
    obtain ⟨h1, h2⟩ := List.pairwise_cons.1 hs
    rw [List.countP_cons, List.filter_cons]
    by_cases hx : P x = true
    · simp only [hx, if_true]
      rw [List.take_succ_cons, ih h2]
    · have h0 : ∀ y ∈ l, ¬ P y = true := fun y hy hp => hx (hd x y (h1 y hy) hp)
      have hc : l.countP P = 0 := List.countP_eq_zero.2 h0
      have hf : l.filter P = [] := List.filter_eq_nil_iff.2 h0
      simp [hx, hc, hf]
/-- How many suffixes are less than the pattern (or begin with it). -/
def Nq (l : List Nat) (b : Bool) (q : List Nat) : Nat := (List.range l.length).countP (Pq l b q)
theorem IsSuf.count {l rs : List Nat} (h : IsSuf l rs) (P : Nat → Bool) : rs.countP P = (List.range l.length).countP P := h.perm.countP_eq P
theorem Nq_le (l : List Nat) (b : Bool) (q : List Nat) : Nq l b q ≤ l.length := by
  unfold Nq
  have := List.countP_le_length (p := Pq l b q) (l := List.range l.length)
  simpa using this
theorem take_count {l rs : List Nat} (h : IsSuf l rs) (b : Bool) (q : List Nat) (s : Nat) : ((lastL l rs).take (Nq l b q)).count s = (List.range l.length).countP (fun p => decide (prevL l p = s) && Pq l b q p) := by
  have e1 : Nq l b q = rs.countP (Pq l b q) := (h.count _).symm
  rw [e1, lastL, ← List.map_take, take_down h.sorted (fun x y hxy hy => Pq_down q hxy hy), ← h.count, List.count_eq_countP, List.countP_map, List.countP_filter]
  refine List.countP_congr fun p _ => ?_
  simp [Function.comp, and_comm]
theorem prevL_zero {l : List Nat} (h : 0 < l.length) : prevL l 0 = l.getD (l.length - 1) 0 := by
  unfold prevL
  rw [Nat.zero_add, Nat.mod_eq_of_lt (by omega)]
theorem prevL_succ {l : List Nat} {p : Nat} (h : p + 1 < l.length) : prevL l (p + 1) = l.getD p 0 := by
  unfold prevL
  rw [show p + 1 + l.length - 1 = p + l.length by omega, Nat.add_mod_right, Nat.mod_eq_of_lt (by omega)]
theorem aN_getD {l : List Nat} {p : Nat} (h : p < l.length) : aN l p = ((l.getD p 0 : Nat) : Int) := by
  rw [aN_lt h, List.getD_eq_getElem?_getD, List.getElem?_eq_getElem h]
  rfl
/-- Counting over the places ahead. -/
theorem count_prev {m : Nat} (f : Nat → Bool) (g : Nat → Bool) (h0 : f 0 = g m) (h1 : ∀ p, p < m → f (p + 1) = g p) : (List.range (m + 1)).countP f = (List.range (m + 1)).countP g := by
  rw [List.range_succ_eq_map, List.countP_cons, List.countP_map, ← List.range_succ_eq_map, List.range_succ, List.countP_append, List.countP_cons, List.countP_nil, Nat.zero_add, h0]
  congr 1
  refine List.countP_congr fun p hp => ?_
  have hp' : p < m := by simpa using hp
  simp [Function.comp, h1 p hp']
theorem countP_or {α : Type} (l : List α) (f g : α → Bool) (h : ∀ x ∈ l, ¬ (f x = true ∧ g x = true)) : l.countP (fun x => f x || g x) = l.countP f + l.countP g := by
  induction l with
  | nil => rfl
  | cons x l ih =>
    rw [List.countP_cons, List.countP_cons, List.countP_cons, ih (fun y hy => h y (by simp [hy]))]
    have := h x (by simp)
    cases hf : f x <;> cases hg : g x <;> simp_all <;> omega
/-- The text's end is the last symbol, and nowhere else. -/
structure EndOk (l : List Nat) (m : Nat) : Prop where
  len : l.length = m + 1
  last : l.getD m 0 = 0
  pos : ∀ p, p < m → 0 < l.getD p 0
theorem narL_Nq {l rs : List Nat} {m : Nat} (h : IsSuf l rs) (he : EndOk l m) (b : Bool) (q : List Nat) (s : Nat) (hs : 0 < s) : narL (lastL l rs) s (Nq l b q) = Nq l b (s :: q) := by
  have hlen := he.len
  unfold narL
  rw [take_count h]
  have e1 : (lastL l rs).countP (fun x => decide (x < s)) = (List.range (m + 1)).countP (fun p => decide (l.getD p 0 < s)) := by
    rw [lastL, List.countP_map, h.count, hlen]
    refine count_prev _ _ ?_ fun p hp => ?_
    · show decide (prevL l 0 < s) = _
      rw [prevL_zero (by omega), hlen, Nat.add_sub_cancel]
    · show decide (prevL l (p + 1) < s) = _
      rw [prevL_succ (by omega)]
  have e2 : (List.range l.length).countP (fun p => decide (prevL l p = s) && Pq l b q p) = (List.range (m + 1)).countP (fun p => decide (l.getD p 0 = s) && Pq l b q (p + 1)) := by
    rw [hlen]
    refine count_prev _ _ ?_ fun p hp => ?_
    · show (decide (prevL l 0 = s) && _) = (decide (l.getD m 0 = s) && _)
      rw [prevL_zero (by omega), hlen, Nat.add_sub_cancel, he.last]
      have : decide (0 = s) = false := by simp; omega
      rw [this]
      rfl
    · show (decide (prevL l (p + 1) = s) && _) = _
      rw [prevL_succ (by omega)]
  rw [e1, e2, ← countP_or]
  · unfold Nq
    rw [hlen]
    refine List.countP_congr fun p hp => ?_
    have hp' : p < m + 1 := by simpa using hp
    rw [Pq_cons, aN_getD (by omega)]
    have f1 : decide (((l.getD p 0 : Nat) : Int) < (s : Int)) = decide (l.getD p 0 < s) := by rw [decide_eq_decide]; omega
    have f2 : decide (((l.getD p 0 : Nat) : Int) = (s : Int)) = decide (l.getD p 0 = s) := by rw [decide_eq_decide]; omega
    rw [f1, f2]
  · intro p _
    simp only [Bool.and_eq_true, decide_eq_true_eq]
    rintro ⟨h1, h2, _⟩
    omega
theorem Nq_nil (l : List Nat) : Nq l false [] = 0 ∧ Nq l true [] = l.length := by
  constructor
  · unfold Nq
    exact List.countP_eq_zero.2 fun _ _ h => by simp [Pq] at h
  · unfold Nq
    have := (List.countP_eq_length (p := Pq l true []) (l := List.range l.length)).2 (fun _ _ => rfl)
    rw [this]
    simp
theorem symL_end (t : List UInt8) : EndOk (symL t) t.length := by
  refine ⟨symL_len t, ?_, fun p hp => ?_⟩
  · unfold symL symB
    rw [List.getD_eq_getElem?_getD, List.getElem?_append_right (by simp)]
    simp
  · unfold symL symB
    rw [List.getD_eq_getElem?_getD, List.getElem?_append_left (by simpa using hp), List.getElem?_map, List.getElem?_eq_getElem hp]
    simp
theorem Pq_or (l : List Nat) (q : List Nat) : ∀ p, Pq l true q p = (Pq l false q p || preQ l q p) ∧ ¬ (Pq l false q p = true ∧ preQ l q p = true) := by
  induction q with
  | nil => intro p; exact ⟨rfl, fun h => by simp [Pq] at h⟩
  | cons s q ih =>
    intro p
    obtain ⟨h1, h2⟩ := ih (p + 1)
    rw [Pq_cons, Pq_cons, preQ_cons, h1]
    by_cases h3 : aN l p < (s : Int)
    · have : ¬ aN l p = (s : Int) := by omega
      simp [h3, this]
    · by_cases h4 : aN l p = (s : Int)
      · have e3 : decide (aN l p < (s : Int)) = false := by simpa using h3
        have e4 : decide (aN l p = (s : Int)) = true := by simpa using h4
        rw [e3, e4, Bool.false_or, Bool.true_and, Bool.false_or, Bool.true_and, Bool.true_and]
        exact ⟨rfl, h2⟩
      · simp [h3, h4]
/-- How often a pattern stands. -/
def occ (l : List Nat) (q : List Nat) : Nat := (List.range l.length).countP (preQ l q)
theorem Nq_occ (l : List Nat) (q : List Nat) : Nq l true q = Nq l false q + occ l q := by
  unfold Nq occ
  rw [← countP_or _ _ _ fun p _ => (Pq_or l q p).2]
  exact List.countP_congr fun p _ => by rw [(Pq_or l q p).1]
end Go.Proofs.YthkkcelfgcholaaGreat
