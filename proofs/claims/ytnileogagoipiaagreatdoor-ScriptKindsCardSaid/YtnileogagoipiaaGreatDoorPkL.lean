/- A text with its pairs (TpAt), live.New; arguments of literals. Conditions: a text of at most 127 bytes. -/
import Derived.Test.YtnileogagoipiaaGreatDoorPkK
import Derived.Test.YtnileogagoipiaaGreatDoorPkI
import Derived.Lib.SlBytesConst
namespace Go.Proofs.YtnileogagoipiaaGreatDoor
open Go.RowKit
set_option linter.unusedVariables false
set_option linter.unusedSimpArgs false
/-- A Live at gl holds the text t, with its pairs. -/
def TpAt (w : World) (Bw gl : Nat) (t : List UInt8) (rate : Nat) : Prop :=
  ∃ rs gk gp ga vl vo vt B tk, IsSuf (symL t) rs ∧ LiveAt w Bw gl gk gp ga vl vo vt B (t.length + 1) rate (lastL (symL t) rs) (sampC rs rate (t.length + 1)) tk ∧ t.length ≤ 127
theorem TpAt.vis {w w' : World} {Bw gl : Nat} {t : List UInt8} {rate : Nat} (h : TpAt w Bw gl t rate) (k : Vis w w') : TpAt w' Bw gl t rate := by
  obtain ⟨rs, gk, gp, ga, vl, vo, vt, B, tk, h1, h2, h3⟩ := h
  exact ⟨rs, gk, gp, ga, vl, vo, vt, B, tk, h1, h2.vis k, h3⟩
theorem VB.grow {Bw : Nat} {w w1 w2 : World} (h : VB Bw w w1) (k : Below w.heap.size w1 w2) : VB Bw w w2 :=
  ⟨⟨k.os.trans h.1.os, k.tape.trans h.1.tape, k.output.trans h.1.output, Nat.le_trans h.1.size k.size, fun b hb hn => by
    rcases h.1.block b hb hn with e | ⟨cs, v, h1, h2⟩ | ⟨cs, v, h1, h2⟩
    · exact .inl ((k.block b hb).trans e)
    · exact .inr (.inl ⟨cs, v, h1, h2.below k hb⟩)
    · exact .inr (.inr ⟨cs, v, h1, h2.below k hb⟩)⟩,
   ⟨k.os.trans h.2.os, k.tape.trans h.2.tape, k.output.trans h.2.output, Nat.le_trans h.2.size k.size, fun b hb hn => (k.block b hb).trans (h.2.block b hb hn)⟩⟩
theorem TpNew_any (rate : Nat) (A0 : Option Addr) (m0 c0 B : Nat) (ss : List Sl) (t : List UInt8) (hT : catS ss = t) (w : World) (hr0 : Rd w B 1 A0 m0 (ss.map slV)) (hss : ∀ s ∈ ss, Rd w B 1 s.A s.n (s.l.map bv)) (hB : B ≤ w.heap.size) (hm : m0 ≤ 1000000) (hn : t.length ≤ 127) (hr1 : 1 ≤ rate) (hr2 : rate ≤ 64) :
    Calls Tryz.prog 23 #[.int .i64 (rate : Int), .slice A0 m0 c0] w fun e w' => ∃ gl, e = .returned (.tuple #[.pointer (some ⟨gl, 0, none⟩), .int .i64 0]) ∧ w.heap.size ≤ gl ∧ TpAt w' w.heap.size gl t rate ∧ Below w.heap.size w w' :=
  (LiveNew_any rate A0 m0 c0 B ss t t.length hT rfl w hr0 hss hB hm hn hr1 hr2).mono fun e w' ⟨gl, gk, gp, ga, vl, vo, vt, B', tk, rs, h1, h2, h3, h4, _, h6⟩ => ⟨gl, h2, h3, ⟨rs, gk, gp, ga, vl, vo, vt, B', tk, h1, h4, hn⟩, h6⟩
theorem TpAt.mono {w : World} {B B' gl : Nat} {t : List UInt8} {rate : Nat} (h : TpAt w B gl t rate) (hB : B' ≤ B) : TpAt w B' gl t rate := by
  obtain ⟨rs, gk, gp, ga, vl, vo, vt, B0, tk, h1, h2, h3⟩ := h
  exact ⟨rs, gk, gp, ga, vl, vo, vt, B0, tk, h1, ⟨h2.blk, h2.walk.mono hB, h2.perm⟩, h3⟩
theorem rd_mark (w : World) (e : TypeId) (cs : Array Value) (fr : Nat × Nat) (n : Nat) (hs : cs.size = n) : Rd (w.alloc (.cells cs e fr)) (w.heap.size + 1) 1 (some ⟨w.heap.size, 0, none⟩) n cs.toList := by
  refine ⟨by simp [hs], fun _ => ⟨_, 0, rfl, by omega, fun j u hu => ?_⟩⟩
  rw [Nat.zero_add, cell_of_row (w.alloc (.cells cs e fr)) w.heap.size j cs e fr (heap_alloc_new w _)]
  simpa using hu
theorem str_const (w : World) (C : Array Value) (n c : Nat) : (convert 22 22 (.slice (some ⟨w.heap.size, 0, none⟩) n c)).run Tryz.prog (w.alloc (.cells C 5)) = .ok (.slice (some ⟨w.heap.size, 0, none⟩) n c) (w.alloc (.cells C 5 (C.size, C.size + 1))) :=
  Lib.run_convert_bytes_const (P := Tryz.prog) w 22 5 C n c Tryz.underlying22 Tryz.underlying5
theorem str_const1 (w : World) (o : Obj) (C : Array Value) (n c : Nat) : (convert 22 22 (.slice (some ⟨w.heap.size + 1, 0, none⟩) n c)).run Tryz.prog ((w.alloc o).alloc (.cells C 5)) = .ok (.slice (some ⟨w.heap.size + 1, 0, none⟩) n c) ((w.alloc o).alloc (.cells C 5 (C.size, C.size + 1))) := by
  have := str_const (w.alloc o) C n c
  rw [World.size_alloc] at this
  exact this
/-- A slice of one literal of bytes, as an argument. -/
theorem parts_one (W : World) (cs : Array Value) (fr : Nat × Nat) (bs : List UInt8) (n : Nat) (hcs : cs.toList = bs.map bv) (hn : bs.length = n) :
    Rd ((W.alloc (.cells cs 5 fr)).alloc (.cells #[.slice (some ⟨W.heap.size, 0, none⟩) n n] 22)) (W.heap.size + 2) 1 (some ⟨W.heap.size + 1, 0, none⟩) 1 ([(⟨some ⟨W.heap.size, 0, none⟩, n, n, bs⟩ : Sl)].map slV) ∧
    (∀ s ∈ [(⟨some ⟨W.heap.size, 0, none⟩, n, n, bs⟩ : Sl)], Rd ((W.alloc (.cells cs 5 fr)).alloc (.cells #[.slice (some ⟨W.heap.size, 0, none⟩) n n] 22)) (W.heap.size + 2) 1 s.A s.n (s.l.map bv)) := by
  constructor
  · have := Rd.new_ (W.alloc (.cells cs 5 fr)) 22 1 #[.slice (some ⟨W.heap.size, 0, none⟩) n n] rfl
    rw [World.size_alloc] at this
    exact this
  · intro s hs
    simp at hs
    subst hs
    have h1 := rd_mark W 5 cs fr n (by rw [← Array.length_toList, hcs]; simp [hn])
    rw [hcs] at h1
    exact (h1.alloc (by simp) _).mono (by omega)
theorem parts_two (W : World) (cs ds : Array Value) (fr fr' : Nat × Nat) (bs bs' : List UInt8) (n m : Nat) (hcs : cs.toList = bs.map bv) (hn : bs.length = n) (hds : ds.toList = bs'.map bv) (hm : bs'.length = m) :
    Rd (((W.alloc (.cells cs 5 fr)).alloc (.cells ds 5 fr')).alloc (.cells #[.slice (some ⟨W.heap.size, 0, none⟩) n n, .slice (some ⟨W.heap.size + 1, 0, none⟩) m m] 22)) (W.heap.size + 3) 1 (some ⟨W.heap.size + 2, 0, none⟩) 2 ([(⟨some ⟨W.heap.size, 0, none⟩, n, n, bs⟩ : Sl), ⟨some ⟨W.heap.size + 1, 0, none⟩, m, m, bs'⟩].map slV) ∧
    (∀ s ∈ [(⟨some ⟨W.heap.size, 0, none⟩, n, n, bs⟩ : Sl), ⟨some ⟨W.heap.size + 1, 0, none⟩, m, m, bs'⟩], Rd (((W.alloc (.cells cs 5 fr)).alloc (.cells ds 5 fr')).alloc (.cells #[.slice (some ⟨W.heap.size, 0, none⟩) n n, .slice (some ⟨W.heap.size + 1, 0, none⟩) m m] 22)) (W.heap.size + 3) 1 s.A s.n (s.l.map bv)) := by
  constructor
  · have := Rd.made ((W.alloc (.cells cs 5 fr)).alloc (.cells ds 5 fr')) 22 1 2 #[.slice (some ⟨W.heap.size, 0, none⟩) n n, .slice (some ⟨W.heap.size + 1, 0, none⟩) m m] rfl
    simp only [World.size_alloc] at this
    exact this
  · intro s hs
    simp at hs
    rcases hs with rfl | rfl
    · have h1 := rd_mark W 5 cs fr n (by rw [← Array.length_toList, hcs]; simp [hn])
      rw [hcs] at h1
      exact ((h1.alloc (by simp) (.cells ds 5 fr')).alloc (by simp) _).mono (by omega)
    · have h1 := rd_mark (W.alloc (.cells cs 5 fr)) 5 ds fr' m (by rw [← Array.length_toList, hds]; simp [hm])
      rw [hds, World.size_alloc] at h1
      exact (h1.alloc (by simp) _).mono (by omega)
end Go.Proofs.YtnileogagoipiaaGreatDoor
