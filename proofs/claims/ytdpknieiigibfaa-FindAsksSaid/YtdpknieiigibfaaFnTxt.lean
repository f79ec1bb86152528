/- live.New, find.Rows and find.Count by what they say of the text; the walk of layer 13's told. Conditions: a text of at most 127 bytes. -/
import Derived.Test.YtdpknieiigibfaaFnText
import Derived.Lib.SlBytesConst
namespace Go.Proofs.Ytdpknieiigibfaa
open Go.RowKit
set_option linter.unusedVariables false
set_option linter.unusedSimpArgs false
/-- gl is a Live of the text t. -/
def TxtAt (w : World) (B gl : Nat) (t : List UInt8) : Prop := ∃ rs, IsSuf (symL t) rs ∧ LvW w B gl (lastL (symL t) rs) ∧ t.length ≤ 127
theorem TxtAt.vis {w w' : World} {B gl : Nat} {t : List UInt8} (h : TxtAt w B gl t) (k : Vis w w') : TxtAt w' B gl t := by
  obtain ⟨rs, h1, h2, h3⟩ := h
  exact ⟨rs, h1, h2.vis k, h3⟩
theorem TxtAt.mono {w : World} {B B' gl : Nat} {t : List UInt8} (h : TxtAt w B gl t) (hB : B' ≤ B) : TxtAt w B' gl t := by
  obtain ⟨rs, h1, ⟨gk, r1, r2, r3, h2, h4⟩, h3⟩ := h
  exact ⟨rs, h1, ⟨gk, r1, r2, r3, h2, h4.mono hB⟩, h3⟩
theorem TxtAt.le {w : World} {B gl : Nat} {t : List UInt8} (h : TxtAt w B gl t) : t.length ≤ 127 := by
  obtain ⟨rs, h1, h2, h3⟩ := h
  exact h3
theorem TxtNew_any (rate : Nat) (A0 : Option Addr) (m0 c0 B : Nat) (ss : List Sl) (t : List UInt8) (hT : catS ss = t) (w : World) (hr0 : Rd w B 1 A0 m0 (ss.map slV)) (hss : ∀ s ∈ ss, Rd w B 1 s.A s.n (s.l.map bv)) (hB : B ≤ w.heap.size) (hm : m0 ≤ 1000000) (hn : t.length ≤ 127) (hr1 : 1 ≤ rate) (hr2 : rate ≤ 64) :
    Calls Try.prog 8 #[.int .i64 (rate : Int), .slice A0 m0 c0] w fun e w' => ∃ gl, e = .returned (.tuple #[.pointer (some ⟨gl, 0, none⟩), .int .i64 0]) ∧ w.heap.size ≤ gl ∧ TxtAt w' w.heap.size gl t ∧ Below w.heap.size w w' :=
  (LiveNew_any rate A0 m0 c0 B ss t t.length hT rfl w hr0 hss hB hm hn hr1 hr2).mono fun e w' ⟨gl, gk, gp, ga, vl, vo, vt, B', tk, rs, h1, h2, h3, h4, _, h6⟩ => ⟨gl, h2, h3, ⟨rs, h1, h4.lvw, hn⟩, h6⟩
theorem lastL_length {t : List UInt8} {rs : List Nat} (h : IsSuf (symL t) rs) : (lastL (symL t) rs).length = t.length + 1 := by rw [lastL_len, h.len, symL_len]
theorem TxtRows_any (Bw gl : Nat) (t : List UInt8) (A0 : Option Addr) (m0 c0 B : Nat) (ss : List Sl) (p : List UInt8) (hT : catS ss = p) (w : World) (h : TxtAt w Bw gl t) (hr0 : Rd w B 1 A0 m0 (ss.map slV)) (hss : ∀ s ∈ ss, Rd w B 1 s.A s.n (s.l.map bv)) (hB : B ≤ w.heap.size) (hm : m0 ≤ 1000000) (hp : p.length ≤ 1000000) :
    Calls Try.prog 11 #[.pointer (some ⟨gl, 0, none⟩), .slice A0 m0 c0] w fun e w' => e = .returned (.tuple #[.int .i64 ((Nq (symL t) false (symB p) : Nat) : Int), .int .i64 ((Nq (symL t) true (symB p) : Nat) : Int)]) ∧ VB Bw w w' := by
  obtain ⟨rs, h1, h2, h3⟩ := h
  have := FindRows_any Bw gl _ t.length A0 m0 c0 B ss p p.length hT rfl w h2 (lastL_length h1) (by omega) (lastL_lt (symL_lt t)) hr0 hss hB hm hp
  rw [rowsN_Nq h1 (symL_end t)] at this
  exact this
theorem TxtCount_any (Bw gl : Nat) (t : List UInt8) (A0 : Option Addr) (m0 c0 B : Nat) (ss : List Sl) (p : List UInt8) (hT : catS ss = p) (w : World) (h : TxtAt w Bw gl t) (hr0 : Rd w B 1 A0 m0 (ss.map slV)) (hss : ∀ s ∈ ss, Rd w B 1 s.A s.n (s.l.map bv)) (hB : B ≤ w.heap.size) (hm : m0 ≤ 1000000) (hp : p.length ≤ 1000000) :
    Calls Try.prog 9 #[.pointer (some ⟨gl, 0, none⟩), .slice A0 m0 c0] w fun e w' => e = .returned (.int .i64 ((occ (symL t) (symB p) : Nat) : Int)) ∧ VB Bw w w' := by
  obtain ⟨rs, h1, h2, h3⟩ := h
  have := FindCount_any Bw gl _ t.length A0 m0 c0 B ss p p.length hT rfl w h2 (lastL_length h1) (by omega) (lastL_lt (symL_lt t)) hr0 hss hB hm hp
  rw [count_occ h1] at this
  exact this
theorem rd_mark (w : World) (e : TypeId) (cs : Array Value) (fr : Nat × Nat) (n : Nat) (hs : cs.size = n) : Rd (w.alloc (.cells cs e fr)) (w.heap.size + 1) 1 (some ⟨w.heap.size, 0, none⟩) n cs.toList := by
  refine ⟨by simp [hs], fun _ => ⟨_, 0, rfl, by omega, fun j u hu => ?_⟩⟩
  rw [Nat.zero_add, cell_of_row (w.alloc (.cells cs e fr)) w.heap.size j cs e fr (heap_alloc_new w _)]
  simpa using hu
theorem str_const (w : World) (C : Array Value) (n c : Nat) : (convert 23 23 (.slice (some ⟨w.heap.size, 0, none⟩) n c)).run Try.prog (w.alloc (.cells C 5)) = .ok (.slice (some ⟨w.heap.size, 0, none⟩) n c) (w.alloc (.cells C 5 (C.size, C.size + 1))) :=
  Lib.run_convert_bytes_const (P := Try.prog) w 23 5 C n c Try.underlying23 Try.underlying5
theorem str_const1 (w : World) (o : Obj) (C : Array Value) (n c : Nat) : (convert 23 23 (.slice (some ⟨w.heap.size + 1, 0, none⟩) n c)).run Try.prog ((w.alloc o).alloc (.cells C 5)) = .ok (.slice (some ⟨w.heap.size + 1, 0, none⟩) n c) ((w.alloc o).alloc (.cells C 5 (C.size, C.size + 1))) := by
  have := str_const (w.alloc o) C n c
  rw [World.size_alloc] at this
  exact this
/-- A slice of one literal of bytes, as an argument. -/
theorem parts_one (W : World) (cs : Array Value) (fr : Nat × Nat) (bs : List UInt8) (n : Nat) (hcs : cs.toList = bs.map bv) (hn : bs.length = n) :
    Rd ((W.alloc (.cells cs 5 fr)).alloc (.cells #[.slice (some ⟨W.heap.size, 0, none⟩) n n] 23)) (W.heap.size + 2) 1 (some ⟨W.heap.size + 1, 0, none⟩) 1 ([(⟨some ⟨W.heap.size, 0, none⟩, n, n, bs⟩ : Sl)].map slV) ∧
    (∀ s ∈ [(⟨some ⟨W.heap.size, 0, none⟩, n, n, bs⟩ : Sl)], Rd ((W.alloc (.cells cs 5 fr)).alloc (.cells #[.slice (some ⟨W.heap.size, 0, none⟩) n n] 23)) (W.heap.size + 2) 1 s.A s.n (s.l.map bv)) := by
  constructor
  · have := Rd.new_ (W.alloc (.cells cs 5 fr)) 23 1 #[.slice (some ⟨W.heap.size, 0, none⟩) n n] rfl
    rw [World.size_alloc] at this
    exact this
  · intro s hs
    simp at hs
    subst hs
    have h1 := rd_mark W 5 cs fr n (by rw [← Array.length_toList, hcs]; simp [hn])
    rw [hcs] at h1
    exact (h1.alloc (by simp) _).mono (by omega)
theorem parts_two (W : World) (cs ds : Array Value) (fr fr' : Nat × Nat) (bs bs' : List UInt8) (n m : Nat) (hcs : cs.toList = bs.map bv) (hn : bs.length = n) (hds : ds.toList = bs'.map bv) (hm : bs'.length = m) :
    Rd (((W.alloc (.cells cs 5 fr)).alloc (.cells ds 5 fr')).alloc (.cells #[.slice (some ⟨W.heap.size, 0, none⟩) n n, .slice (some ⟨W.heap.size + 1, 0, none⟩) m m] 23)) (W.heap.size + 3) 1 (some ⟨W.heap.size + 2, 0, none⟩) 2 ([(⟨some ⟨W.heap.size, 0, none⟩, n, n, bs⟩ : Sl), ⟨some ⟨W.heap.size + 1, 0, none⟩, m, m, bs'⟩].map slV) ∧
    (∀ s ∈ [(⟨some ⟨W.heap.size, 0, none⟩, n, n, bs⟩ : Sl), ⟨some ⟨W.heap.size + 1, 0, none⟩, m, m, bs'⟩], Rd (((W.alloc (.cells cs 5 fr)).alloc (.cells ds 5 fr')).alloc (.cells #[.slice (some ⟨W.heap.size, 0, none⟩) n n, .slice (some ⟨W.heap.size + 1, 0, none⟩) m m] 23)) (W.heap.size + 3) 1 s.A s.n (s.l.map bv)) := by
  constructor
  · have := Rd.made ((W.alloc (.cells cs 5 fr)).alloc (.cells ds 5 fr')) 23 1 2 #[.slice (some ⟨W.heap.size, 0, none⟩) n n, .slice (some ⟨W.heap.size + 1, 0, none⟩) m m] rfl
    simp only [World.size_alloc] at this
    exact this
  · intro s hs
    simp at hs
    rcases hs with rfl | rfl
    · have h1 := rd_mark W 5 cs fr n (by rw [← Array.length_toList, hcs]; simp [hn])
      rw [hcs] at h1
      exact ((h1.alloc (by simp) (.cells ds 5 fr')).alloc (by simp) _).mono (by omega)
    · have h1 := rd_mark (W.alloc (.cells cs 5 fr)) 5 ds fr' m (by rw [← Array.length_toList, hds]; simp [hm])
      rw [hds, World.size_alloc] at h1
      exact (h1.alloc (by simp) _).mono (by omega)
set_option maxRecDepth 100000 in
theorem RowsNil_any (A : Option Addr) (m c : Nat) (w : World) :
    Calls Try.prog 11 #[.pointer none, .slice A m c] w fun e w' => e = .returned (.tuple #[.int .i64 0, .int .i64 0]) ∧ Below w.heap.size w w' := by
  go_enter Try.func11, Try.ntmps11
  go_wp2_with fail
  go_ret2
  exact ⟨rfl, (Below.refl _ _).alloc (Nat.le_refl _) _⟩
set_option maxRecDepth 100000 in
theorem CountNil_any (A : Option Addr) (m c : Nat) (w : World) :
    Calls Try.prog 9 #[.pointer none, .slice A m c] w fun e w' => e = .returned (.int .i64 0) ∧ Below w.heap.size w w' := by
  go_enter Try.func9, Try.ntmps9
  go_wp2_with fail
  refine (RowsNil_any A m c _).mono ?_
  rintro e w' ⟨rfl, hv⟩
  go_wp2_with fail
  go_ret
  exact ⟨rfl, hv⟩
theorem told_rows : Nq (symL [97, 97, 97]) false (symB []) = 0 ∧ Nq (symL [97, 97, 97]) true (symB []) = 4 ∧ Nq (symL [97, 97, 97]) false (symB [98]) = 4 ∧ Nq (symL [97, 97, 97]) true (symB [98]) = 4 ∧ occ (symL [97, 97, 97]) (symB [97, 97]) = 2 ∧ occ (symL [97, 97, 97]) (symB [97, 97, 97]) = 1 ∧ occ (symL [97, 97, 97]) (symB []) = 4 := by decide
set_option maxRecDepth 100000 in
set_option maxHeartbeats 2000000 in
theorem Told13_any (w : World) : Calls Try.prog 10 #[] w fun e w' => e = .returned (.bool true) ∧ Below w.heap.size w w' := by
  obtain ⟨t1, t2, t3, t4, t5, t6, t7⟩ := told_rows
  have T5 := Lib.hid t5
  have T6 := Lib.hid t6
  have T7 := Lib.hid t7
  have T1 := Lib.hid t1
  have T2 := Lib.hid t2
  have T3 := Lib.hid t3
  have T4 := Lib.hid t4
  clear t1 t2 t3 t4 t5 t6 t7
  have kc := str_const
  have kc1 := str_const1
  go_enter Try.func10, Try.ntmps10
  go_wp2_with fail
  have hp := parts_one w #[.int .u8 97, .int .u8 97, .int .u8 97] (3, 4) [97, 97, 97] 3 rfl rfl
  refine (TxtNew_any 2 _ 1 1 (w.heap.size + 2) [(⟨some ⟨w.heap.size, 0, none⟩, 3, 3, [97, 97, 97]⟩ : Sl)] [97, 97, 97] rfl _ hp.1 hp.2 (by simp) (by omega) (by simp) (by omega) (by omega)).mono ?_
  rintro e w1 ⟨gl, rfl, _, ht, hb⟩
  have hv : Below w.heap.size w w1 := (((Below.refl w.heap.size w).alloc (Nat.le_refl _) _).alloc (by simp) _).trans (hb.mono (by simp; omega))
  have Ht := Lib.hid (TxtAt.mono ht (B' := w.heap.size) (by simp; omega))
  have Hv := Lib.hid hv
  clear ht hv hb hp
  go_wp2_with fail
  refine (TxtRows_any w.heap.size gl [97, 97, 97] none 0 0 0 [] [] rfl w1 Ht.out (Rd.nil _ _ _ _) (fun s hs => by cases hs) (Nat.zero_le _) (by omega) (by simp)).mono ?_
  rintro e w2 ⟨rfl, hu1⟩
  have hx1 : VB w.heap.size w1 w2 := hu1
  replace Ht := Lib.hid (Ht.out.vis hx1.1)
  replace Hv := Lib.hid (Hv.out.trans (VB.to_below hx1 Hv.out.size))
  clear hx1 hu1
  rw [T1.out, T2.out]
  go_wp2_with fail
  have hp2 := parts_one w2 #[.int .u8 98] (1, 2) [98] 1 rfl rfl
  have hv2 : Below w2.heap.size w2 ((w2.alloc (.cells #[.int .u8 98] 5 (1, 2))).alloc (.cells #[.slice (some ⟨w2.heap.size, 0, none⟩) 1 1] 23)) := ((Below.refl _ _).alloc (Nat.le_refl _) _).alloc (by simp) _
  refine (TxtRows_any w.heap.size gl [97, 97, 97] _ 1 1 (w2.heap.size + 2) [(⟨some ⟨w2.heap.size, 0, none⟩, 1, 1, [98]⟩ : Sl)] [98] rfl ((w2.alloc (.cells #[.int .u8 98] 5 (1, 2))).alloc (.cells #[.slice (some ⟨w2.heap.size, 0, none⟩) 1 1] 23)) (Ht.out.vis (Vis.of_below hv2)) hp2.1 hp2.2 (by simp) (by omega) (by simp)).mono ?_
  rintro e w3 ⟨rfl, hu2⟩
  have hx2 : VB w.heap.size w2 w3 := (VisK.of_below hv2).trans hu2
  replace Ht := Lib.hid (Ht.out.vis hx2.1)
  replace Hv := Lib.hid (Hv.out.trans (VB.to_below hx2 Hv.out.size))
  clear hx2 hu2 hv2 hp2
  rw [T3.out, T4.out]
  go_wp2_with fail
  have hp3 := parts_one w3 #[.int .u8 97, .int .u8 97] (2, 3) [97, 97] 2 rfl rfl
  have hv3 : Below w3.heap.size w3 ((w3.alloc (.cells #[.int .u8 97, .int .u8 97] 5 (2, 3))).alloc (.cells #[.slice (some ⟨w3.heap.size, 0, none⟩) 2 2] 23)) := ((Below.refl _ _).alloc (Nat.le_refl _) _).alloc (by simp) _
  refine (TxtCount_any w.heap.size gl [97, 97, 97] _ 1 1 (w3.heap.size + 2) [(⟨some ⟨w3.heap.size, 0, none⟩, 2, 2, [97, 97]⟩ : Sl)] [97, 97] rfl ((w3.alloc (.cells #[.int .u8 97, .int .u8 97] 5 (2, 3))).alloc (.cells #[.slice (some ⟨w3.heap.size, 0, none⟩) 2 2] 23)) (Ht.out.vis (Vis.of_below hv3)) hp3.1 hp3.2 (by simp) (by omega) (by simp)).mono ?_
  rintro e w4 ⟨rfl, hu3⟩
  have hx3 : VB w.heap.size w3 w4 := (VisK.of_below hv3).trans hu3
  replace Ht := Lib.hid (Ht.out.vis hx3.1)
  replace Hv := Lib.hid (Hv.out.trans (VB.to_below hx3 Hv.out.size))
  clear hx3 hu3 hv3 hp3
  rw [T5.out]
  go_wp2_with fail
  have hp4 := parts_two w4 #[.int .u8 97] #[.int .u8 97, .int .u8 97] (1, 2) (2, 3) [97] [97, 97] 1 2 rfl rfl rfl rfl
  have hv4 : Below w4.heap.size w4 (((w4.alloc (.cells #[.int .u8 97] 5 (1, 2))).alloc (.cells #[.int .u8 97, .int .u8 97] 5 (2, 3))).alloc (.cells #[.slice (some ⟨w4.heap.size, 0, none⟩) 1 1, .slice (some ⟨w4.heap.size + 1, 0, none⟩) 2 2] 23)) := (((Below.refl _ _).alloc (Nat.le_refl _) _).alloc (by simp) _).alloc (by simp; omega) _
  refine (TxtCount_any w.heap.size gl [97, 97, 97] _ 2 2 (w4.heap.size + 3) [(⟨some ⟨w4.heap.size, 0, none⟩, 1, 1, [97]⟩ : Sl), (⟨some ⟨w4.heap.size + 1, 0, none⟩, 2, 2, [97, 97]⟩ : Sl)] [97, 97, 97] rfl (((w4.alloc (.cells #[.int .u8 97] 5 (1, 2))).alloc (.cells #[.int .u8 97, .int .u8 97] 5 (2, 3))).alloc (.cells #[.slice (some ⟨w4.heap.size, 0, none⟩) 1 1, .slice (some ⟨w4.heap.size + 1, 0, none⟩) 2 2] 23)) (Ht.out.vis (Vis.of_below hv4)) hp4.1 hp4.2 (by simp) (by omega) (by simp)).mono ?_
  rintro e w5 ⟨rfl, hu4⟩
  have hx4 : VB w.heap.size w4 w5 := (VisK.of_below hv4).trans hu4
  replace Ht := Lib.hid (Ht.out.vis hx4.1)
  replace Hv := Lib.hid (Hv.out.trans (VB.to_below hx4 Hv.out.size))
  clear hx4 hu4 hv4 hp4
  rw [T6.out]
  go_wp2_with fail
  refine (TxtCount_any w.heap.size gl [97, 97, 97] none 0 0 0 [] [] rfl w5 Ht.out (Rd.nil _ _ _ _) (fun s hs => by cases hs) (Nat.zero_le _) (by omega) (by simp)).mono ?_
  rintro e w6 ⟨rfl, hu5⟩
  have hx5 : VB w.heap.size w5 w6 := hu5
  replace Ht := Lib.hid (Ht.out.vis hx5.1)
  replace Hv := Lib.hid (Hv.out.trans (VB.to_below hx5 Hv.out.size))
  clear hx5 hu5
  rw [T7.out]
  go_wp2_with fail
  refine (CountNil_any _ 1 1 _).mono ?_
  rintro e w9 ⟨rfl, hu9⟩
  have hx9 : Below w6.heap.size w6 w9 := (((Below.refl _ _).alloc (Nat.le_refl _) _).alloc (by simp) _).trans (hu9.mono (by simp; omega))
  replace Hv := Lib.hid (Hv.out.trans (hx9.mono Hv.out.size))
  clear hx9 hu9
  go_wp2_with fail
  go_ret
  exact ⟨rfl, Hv.out⟩
end Go.Proofs.Ytdpknieiigibfaa
