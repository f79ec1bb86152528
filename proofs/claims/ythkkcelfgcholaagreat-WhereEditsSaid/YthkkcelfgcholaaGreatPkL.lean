/- The walk of the laws' Text: a text of at most so many bytes, of few letters or of all. Conditions: at most 1000 bytes are asked for. A text with its pairs (TpAt), live.New; arguments of literals. Conditions: a text of at most 127 bytes. Plain laws: the rows that a search finds, and how often a pattern stands. No conditions. -/
import Derived.Test.YthkkcelfgcholaaGreatPkI
import Derived.Test.YthkkcelfgcholaaGreatPkK
import Derived.Lib.SlBytesConst
import Derived.Test.YthkkcelfgcholaaGreatQFnFind
namespace Go.Proofs.YthkkcelfgcholaaGreat
open Go.RowKit
set_option linter.unusedVariables false
set_option linter.unusedSimpArgs false
theorem byte_ex (v : Int) (h0 : 0 ≤ v) (h1 : v ≤ 255) : ∃ c : UInt8, (c.toNat : Int) = v := ⟨UInt8.ofNat v.toNat, by
  rw [UInt8.toNat_ofNat']
  omega⟩
def fewOk (few : Bool) (T : List UInt8) : Prop := few = true → ∀ c ∈ T, 97 ≤ c.toNat ∧ c.toNat ≤ 99
/-- What Text hands back. -/
def TextPost (w : World) (most : Nat) (few : Bool) (e : Ending) (w' : World) : Prop := ∃ T A' c', T.length ≤ most ∧ fewOk few T ∧ e = .returned (.slice A' T.length c') ∧ Made w' w.heap.size 5 1 A' T.length c' (T.map bv) ∧ Below w.heap.size w w'
set_option maxRecDepth 100000 in
set_option maxHeartbeats 2000000 in
theorem Text_any (A : Option Addr) (n c B : Nat) (l : List Int) (most : Nat) (few : Bool) (w : World) (hr : Rd w B 1 A n (l.map iv)) (hB : B ≤ w.heap.size) (hn : n ≤ maxLen) (hm : most ≤ 1000) :
    Calls Tryz.prog 5 #[.slice A n c, .int .i64 (most : Int), .bool few] w (TextPost w most few) := by
  obtain ⟨i0, hi0, hz0, hz1, hz2⟩ := info_parts u8_info
  unfold maxLen at hn
  have Hr := Lib.hid (hr.mono hB)
  have hll : l.length = n := by simpa using hr.1
  have Hll := Lib.hid hll
  clear hr hll
  go_enter Tryz.func5, Tryz.ntmps5
  go_wp2_with fail
  go_loopw [7, 8] (fun v i wr => ∃ (k : Nat) (T : List UInt8), k ≤ n ∧ k ≤ most ∧ T.length = k ∧ fewOk few T ∧ i = .int .i64 k ∧ wr.ownsRow w.heap.size 5 1 v k (T.map bv) ∧ Below w.heap.size w wr) (fun _ i _ => n - (intOf i).toNat)
  case atStart => exact ⟨0, [], by omega, by omega, rfl, fun _ c hc => (by cases hc), rfl, World.ownsRow_nil _ _ _ _, Below.refl _ _⟩
  case round =>
    obtain ⟨k, T, hk, hkm, hT, hfew, rfl, hown, hb⟩ := hrel
    have hsz := hb.size
    by_cases hlt : k < n ∧ k < most
    · obtain ⟨hlt1, hlt2⟩ := hlt
      obtain ⟨b, off, u, rfl, hbl, hu, hc⟩ := (Hr.out.below hb).get hlt1
      rw [List.getElem?_map] at hu
      obtain ⟨z, hz, rfl⟩ := Option.map_eq_some_iff.1 hu
      unfold iv at hc
      have Hown := Lib.hid hown
      have Hb := Lib.hid hb
      have Hfew := Lib.hid hfew
      have HT := Lib.hid hT
      clear hown hb hfew hT hu hz hbl
      have hkI : (k : Int) < (n : Int) := by omega
      have hmI : (k : Int) < (most : Int) := by omega
      cases few with
      | true =>
        obtain ⟨q, hq, hq3⟩ := umod_ex z 3 (by omega)
        obtain ⟨ch, hch⟩ := byte_ex (97 + (q : Int)) (by omega) (by omega)
        have e1 : IntKind.u64.wrap (97 + (q : Int)) = 97 + (q : Int) := by rw [IntKind.wrap_u64]; omega
        have e2 : IntKind.u8.wrap (97 + (q : Int)) = 97 + (q : Int) := by rw [IntKind.wrap_u8]; omega
        have Hch := Lib.hid hch
        clear hch
        go_wp2_with (at_builtin; refine wpList_push _ rfl (.tmp 21) (.tmp 30) _ rfl w.heap.size 5 i0 (.int .u8 0) 1 1 Tryz.underlying23 hi0 hz0 hz1 hz2 rfl (by decide) _ k _ rfl Hown.out rfl rfl (by simp [Value.oneCell']) (by unfold maxLen; omega) (by omega) hsz ?_; intro v2 w2 hown2 hg2 hs2 hat2)
        have hb3 := below_grown Hb.out Hown.out hg2 hsz
        go_roundw
        case rel =>
          refine ⟨k + 1, T ++ [ch], by omega, by omega, by simp [HT.out], fun h c hc => ?_, by go_num, ?_, hb3⟩
          · rcases List.mem_append.1 hc with hc | hc
            · exact Hfew.out h c hc
            · simp at hc
              subst hc
              have := Hch.out
              omega
          · rw [List.map_append]
            have e3 : bv ch = .int .u8 (97 + (q : Int)) := by unfold bv; rw [Hch.out]
            rw [List.map_cons, List.map_nil, e3]
            exact hown2
        case measure => simp [intOf]; omega
      | false =>
        have hwb : 0 ≤ IntKind.u8.wrap z ∧ IntKind.u8.wrap z ≤ 255 := by rw [IntKind.wrap_u8]; omega
        obtain ⟨ch, hch⟩ := byte_ex (IntKind.u8.wrap z) hwb.1 hwb.2
        have Hch := Lib.hid hch
        clear hch hwb
        go_wp2_with (at_builtin; refine wpList_push _ rfl (.tmp 32) (.tmp 38) _ rfl w.heap.size 5 i0 (.int .u8 0) 1 1 Tryz.underlying23 hi0 hz0 hz1 hz2 rfl (by decide) _ k _ rfl Hown.out rfl rfl (by simp [Value.oneCell']) (by unfold maxLen; omega) (by omega) hsz ?_; intro v2 w2 hown2 hg2 hs2 hat2)
        have hb3 := below_grown Hb.out Hown.out hg2 hsz
        go_roundw
        case rel =>
          refine ⟨k + 1, T ++ [ch], by omega, by omega, by simp [HT.out], fun h c hc => (by cases h), by go_num, ?_, hb3⟩
          rw [List.map_append]
          have e3 : bv ch = .int .u8 (IntKind.u8.wrap z) := by unfold bv; rw [Hch.out]
          rw [List.map_cons, List.map_nil, e3]
          exact hown2
        case measure => simp [intOf]; omega
    · subst hT
      obtain ⟨A', c', rfl, h3⟩ := made_of_own hown
      have H3 := Lib.hid h3
      have H4 := Lib.hid hb
      have H2 := Lib.hid hfew
      clear hown hb hfew h3
      by_cases hkn : T.length < n
      · have hkm' : ¬ T.length < most := fun h => hlt ⟨hkn, h⟩
        have hmI : ¬ (T.length : Int) < (most : Int) := by omega
        clear hlt
        go_wp2_with fail
        go_ret
        exact ⟨T, A', c', hkm, H2.out, rfl, H3.out, H4.out⟩
      · clear hlt
        go_wp2_with fail
        go_ret
        exact ⟨T, A', c', hkm, H2.out, rfl, H3.out, H4.out⟩
end Go.Proofs.YthkkcelfgcholaaGreat
namespace Go.Proofs.YthkkcelfgcholaaGreat
open Go.RowKit
set_option linter.unusedVariables false
set_option linter.unusedSimpArgs false
/-- A Live at gl holds the text t, with its pairs. -/
def TpAt (w : World) (Bw gl : Nat) (t : List UInt8) (rate : Nat) : Prop :=
  ∃ rs gk gp pr, IsSuf (symL t) rs ∧ LiveG w Bw gl gk gp rate (t.length + 1) (lastL (symL t) rs) pr ∧ (∀ x ∈ pr, rs[x.1]? = some x.2) ∧ (∃ x ∈ pr, x.2 = 0) ∧ t.length ≤ 127
theorem TpAt.vis {w w' : World} {Bw gl : Nat} {t : List UInt8} {rate : Nat} (h : TpAt w Bw gl t rate) (k : Vis w w') : TpAt w' Bw gl t rate := by
  obtain ⟨rs, gk, gp, pr, h1, h2, h3⟩ := h
  exact ⟨rs, gk, gp, pr, h1, h2.vis k, h3⟩
theorem VB.grow {Bw : Nat} {w w1 w2 : World} (h : VB Bw w w1) (k : Below w.heap.size w1 w2) : VB Bw w w2 :=
  ⟨⟨k.os.trans h.1.os, k.tape.trans h.1.tape, k.output.trans h.1.output, Nat.le_trans h.1.size k.size, fun b hb hn => by
    rcases h.1.block b hb hn with e | ⟨cs, v, h1, h2⟩ | ⟨cs, v, h1, h2⟩
    · exact .inl ((k.block b hb).trans e)
    · exact .inr (.inl ⟨cs, v, h1, h2.below k hb⟩)
    · exact .inr (.inr ⟨cs, v, h1, h2.below k hb⟩)⟩,
   ⟨k.os.trans h.2.os, k.tape.trans h.2.tape, k.output.trans h.2.output, Nat.le_trans h.2.size k.size, fun b hb hn => (k.block b hb).trans (h.2.block b hb hn)⟩⟩
theorem TpAt.of_new {w : World} {Bw gl gk gp ga : Nat} {vl vo vt : Value} {B rate : Nat} {t : List UInt8} {rs : List Nat} {tk : List Bool} (hs : IsSuf (symL t) rs) (h : LiveAt w Bw gl gk gp ga vl vo vt B (t.length + 1) rate (lastL (symL t) rs) (sampC rs rate (t.length + 1)) tk) (hn : t.length ≤ 127) : TpAt w Bw gl t rate :=
  ⟨rs, gk, gp, _, hs, h.g (sampC_sorted _ _ _) (Nat.le_trans (sampC_le _ _ _) (by omega)), samp_right (by rw [hs.len, symL_len]; exact Nat.le_refl _), samp_zero hs, hn⟩
theorem TpNew_any (rate : Nat) (A0 : Option Addr) (m0 c0 B : Nat) (ss : List Sl) (t : List UInt8) (hT : catS ss = t) (w : World) (hr0 : Rd w B 1 A0 m0 (ss.map slV)) (hss : ∀ s ∈ ss, Rd w B 1 s.A s.n (s.l.map bv)) (hB : B ≤ w.heap.size) (hm : m0 ≤ 1000000) (hn : t.length ≤ 127) (hr1 : 1 ≤ rate) (hr2 : rate ≤ 64) :
    Calls Tryz.prog 6 #[.int .i64 (rate : Int), .slice A0 m0 c0] w fun e w' => ∃ gl, e = .returned (.tuple #[.pointer (some ⟨gl, 0, none⟩), .int .i64 0]) ∧ w.heap.size ≤ gl ∧ TpAt w' w.heap.size gl t rate ∧ Below w.heap.size w w' :=
  (LiveNew_any rate A0 m0 c0 B ss t t.length hT rfl w hr0 hss hB hm hn hr1 hr2).mono fun e w' ⟨gl, gk, gp, ga, vl, vo, vt, B', tk, rs, h1, h2, h3, h4, _, h6⟩ => ⟨gl, h2, h3, TpAt.of_new h1 h4 hn, h6⟩
theorem TpAt.mono {w : World} {B B' gl : Nat} {t : List UInt8} {rate : Nat} (h : TpAt w B gl t rate) (hB : B' ≤ B) : TpAt w B' gl t rate := by
  obtain ⟨rs, gk, gp, pr, h1, h2, h3⟩ := h
  exact ⟨rs, gk, gp, pr, h1, h2.mono hB, h3⟩
theorem rd_mark (w : World) (e : TypeId) (cs : Array Value) (fr : Nat × Nat) (n : Nat) (hs : cs.size = n) : Rd (w.alloc (.cells cs e fr)) (w.heap.size + 1) 1 (some ⟨w.heap.size, 0, none⟩) n cs.toList := by
  refine ⟨by simp [hs], fun _ => ⟨_, 0, rfl, by omega, fun j u hu => ?_⟩⟩
  rw [Nat.zero_add, cell_of_row (w.alloc (.cells cs e fr)) w.heap.size j cs e fr (heap_alloc_new w _)]
  simpa using hu
theorem str_const (w : World) (C : Array Value) (n c : Nat) : (convert 23 23 (.slice (some ⟨w.heap.size, 0, none⟩) n c)).run Tryz.prog (w.alloc (.cells C 5)) = .ok (.slice (some ⟨w.heap.size, 0, none⟩) n c) (w.alloc (.cells C 5 (C.size, C.size + 1))) :=
  Lib.run_convert_bytes_const (P := Tryz.prog) w 23 5 C n c Tryz.underlying23 Tryz.underlying5
theorem str_const1 (w : World) (o : Obj) (C : Array Value) (n c : Nat) : (convert 23 23 (.slice (some ⟨w.heap.size + 1, 0, none⟩) n c)).run Tryz.prog ((w.alloc o).alloc (.cells C 5)) = .ok (.slice (some ⟨w.heap.size + 1, 0, none⟩) n c) ((w.alloc o).alloc (.cells C 5 (C.size, C.size + 1))) := by
  have := str_const (w.alloc o) C n c
  rw [World.size_alloc] at this
  exact this
/-- A slice of one literal of bytes, as an argument. -/
theorem parts_one (W : World) (cs : Array Value) (fr : Nat × Nat) (bs : List UInt8) (n : Nat) (hcs : cs.toList = bs.map bv) (hn : bs.length = n) :
    Rd ((W.alloc (.cells cs 5 fr)).alloc (.cells #[.slice (some ⟨W.heap.size, 0, none⟩) n n] 23)) (W.heap.size + 2) 1 (some ⟨W.heap.size + 1, 0, none⟩) 1 ([(⟨some ⟨W.heap.size, 0, none⟩, n, n, bs⟩ : Sl)].map slV) ∧
    (∀ s ∈ [(⟨some ⟨W.heap.size, 0, none⟩, n, n, bs⟩ : Sl)], Rd ((W.alloc (.cells cs 5 fr)).alloc (.cells #[.slice (some ⟨W.heap.size, 0, none⟩) n n] 23)) (W.heap.size + 2) 1 s.A s.n (s.l.map bv)) := by
  constructor
  · have := Rd.new_ (W.alloc (.cells cs 5 fr)) 23 1 #[.slice (some ⟨W.heap.size, 0, none⟩) n n] rfl
    rw [World.size_alloc] at this
    exact this
  · intro s hs
    simp at hs
    subst hs
    have h1 := rd_mark W 5 cs fr n (by rw [← Array.length_toList, hcs]; simp [hn])
    rw [hcs] at h1
    exact (h1.alloc (by simp) _).mono (by omega)
end Go.Proofs.YthkkcelfgcholaaGreat
namespace Go.Proofs.YthkkcelfgcholaaGreat
set_option linter.unusedVariables false
set_option linter.unusedSimpArgs false
theorem rowsN_Nq {l rs : List Nat} {m : Nat} (h : IsSuf l rs) (he : EndOk l m) (p : List UInt8) : rowsN (lastL l rs) p = (Nq l false (symB p), Nq l true (symB p)) := by
  have hL : (lastL l rs).length = l.length := by rw [lastL_len, h.len]
  unfold rowsN
  rw [hL]
  induction p with
  | nil =>
    obtain ⟨h1, h2⟩ := Nq_nil l
    show (0, l.length) = (Nq l false [], Nq l true [])
    rw [h1, h2]
  | cons c p ih =>
    rw [List.reverse_cons, List.foldl_append, ih]
    show (narL _ (c.toNat + 1) (Nq l false (symB p)), narL _ (c.toNat + 1) (Nq l true (symB p))) = _
    rw [narL_Nq h he _ _ _ (by omega), narL_Nq h he _ _ _ (by omega)]
    rfl
end Go.Proofs.YthkkcelfgcholaaGreat
