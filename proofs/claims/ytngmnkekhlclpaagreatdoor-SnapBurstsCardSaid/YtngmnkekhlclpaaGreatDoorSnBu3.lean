/- The walk of scrimshawlaw19.made without edits. No conditions. -/
import Derived.Test.YtngmnkekhlclpaaGreatDoorSnBu2
import Derived.Test.YtngmnkekhlclpaaGreatDoorPkP
import Derived.Test.YtngmnkekhlclpaaGreatDoorPkL
namespace Go.Proofs.YtngmnkekhlclpaaGreatDoor
open Go.RowKit
set_option linter.unusedVariables false
set_option linter.unusedSimpArgs false
theorem bu_bytes (w : World) (l : List UInt8) (cap : Nat) (e : TypeId) (fr : Nat × Nat) (n g : Nat) (hn : l.length = n) (hg : g = w.heap.size) : Rd (w.drew.alloc (.cells (bytesRow ⟨l.toArray⟩ cap) e fr)) (w.heap.size + 1) 1 (some ⟨g, 0, none⟩) n (l.map bv) := by
  subst hg
  refine ⟨by simp [hn], fun _ => ⟨_, 0, rfl, by simp, fun j u hu => ?_⟩⟩
  have h1 := cell_of_row (w.drew.alloc (.cells (bytesRow ⟨l.toArray⟩ cap) e fr)) w.heap.size j (bytesRow ⟨l.toArray⟩ cap) e fr (heap_alloc_new w.drew _)
  rw [Nat.zero_add, h1]
  unfold bytesRow
  have hj : j < l.length := by
    have := (List.getElem?_eq_some_iff.1 hu).1
    simpa using this
  rw [Array.getElem?_append_left (by simpa using hj)]
  rw [List.getElem?_map, List.getElem?_eq_getElem hj] at hu
  simp only [Option.map_some, Option.some.injEq] at hu
  rw [← hu]
  simp [hj, bv]
theorem bu_conv (w : World) (t : List UInt8) (N : Nat) (hN : t.length = N) : ∃ A0 cap W1, (convert 9 23 (.string ⟨t.toArray⟩)).run Tryz.prog w = .ok (.slice A0 N cap) W1 ∧ Rd W1 W1.heap.size 1 A0 N (t.map bv) ∧ Below w.heap.size w W1 := by
  have kb := run_bytes_of_string (P := Tryz.prog) w 9 23 5 ⟨t.toArray⟩ Tryz.underlying9 Tryz.underlying23 Tryz.underlying5
  have hz : (⟨t.toArray⟩ : ByteArray).size = N := by rw [← hN]; rfl
  rw [hz] at kb
  exact ⟨_, _, _, kb, (bu_bytes w t _ _ _ N _ hN rfl).mono (by simp), (Below.refl _ _).drew.alloc (Nat.le_refl _) _⟩
def MadePost (w : World) (e : Ending) (w' : World) : Prop :=
  ∃ (t : List UInt8) (r gl gk gp ga : Nat) (vl vo vt : Value) (B' : Nat) (tk : List Bool) (rs : List Nat), t.length ≤ 60 ∧ 1 ≤ r ∧ r ≤ 64 ∧ IsSuf (symL t) rs ∧ e = .returned (.tuple #[.pointer (some ⟨gl, 0, none⟩), .string ⟨t.toArray⟩]) ∧ LiveAt w' w.heap.size gl gk gp ga vl vo vt B' (t.length + 1) r (lastL (symL t) rs) (sampC rs r (t.length + 1)) tk ∧ Below w.heap.size w w'
set_option maxRecDepth 100000 in
set_option maxHeartbeats 1000000 in
theorem MadeNil_any (A : Option Addr) (n c : Nat) (l : List Int) (few : Bool) (rate : Int) (w : World) (hr : Rd w w.heap.size 1 A n (l.map iv)) (hn : n ≤ maxLen) :
    Calls Tryz.prog 12 #[.slice A n c, .bool few, .int .i64 rate, .slice none 0 0] w (MadePost w) := by
  have Hr := Lib.hid hr
  obtain ⟨x, hx1, hx2⟩ := umod_ex rate 64 (by omega)
  have hx64 : x < 64 := by omega
  clear hr hx2
  go_enter Tryz.func12, Tryz.ntmps12
  go_wp2_with fail
  refine (Text_any A n c w.heap.size l 60 few w Hr.out (Nat.le_refl _) hn (by omega)).mono ?_
  rintro e w1 ⟨t, A1, c1, ht60, _, rfl, hm1, hb1⟩
  have s1 := strOfT hm1.rd c1
  obtain ⟨A0, cap, W1, kb, hrd, hbw⟩ := bu_conv w1 t _ rfl
  have hb01 := hb1.trans (hbw.mono hb1.size)
  obtain ⟨N, hN⟩ : ∃ N, t.length = N := ⟨_, rfl⟩
  rw [hN] at s1 kb hrd ht60 ⊢
  have hbA : Below W1.heap.size W1 (W1.alloc (.cells #[.slice A0 N cap] 23)) := (Below.refl _ _).alloc (Nat.le_refl _) _
  have hnew := LiveNew_any (1 + x) _ 1 1 _ [⟨A0, N, cap, t⟩] t N (by simp [catS]) hN _ (Rd.made W1 23 1 1 #[.slice A0 N cap] rfl) (fun s hs => by simp at hs; subst hs; exact (hrd.below hbA).mono hbA.size) (Nat.le_refl _) (by omega) (by omega) (by omega) (by omega)
  have e2 : (((1 + x : Nat)) : Int) = 1 + (x : Int) := by omega
  rw [e2] at hnew
  have Hb01 := Lib.hid (hb01.trans (hbA.mono hb01.size))
  have Hsz := Lib.hid hb01.size
  have HN := Lib.hid hN
  have Hnew := Lib.hid hnew
  clear hm1 hb1 Hr hrd hbw hb01 hnew hbA hN e2
  go_wp2_with fail
  refine Hnew.out.mono ?_
  rintro e w2 ⟨gl, gk, gp, ga, vl, vo, vt, B', tk, rs, hs, rfl, hgl, hla, htk, hb2⟩
  have Hb2 := Lib.hid (Hb01.out.trans (hb2.mono Hb01.out.size))
  have Hla := Lib.hid (LiveAt.mk hla.blk (hla.walk.mono (B' := w.heap.size) (by have := Hb01.out.size; omega)) hla.perm)
  have Hs := Lib.hid hs
  clear hla hb2 hs Hnew kb s1 htk hgl
  go_wp2_with fail
  go_loopw [10, 13] (fun s i wr => s = .string ⟨t.toArray⟩ ∧ i = .int .i64 0 ∧ wr = w2) (fun _ _ _ => 0)
  case atStart => exact ⟨rfl, rfl, rfl⟩
  case round =>
    obtain ⟨rfl, rfl, rfl⟩ := hrel
    go_wp2_with fail
    go_ret2
    have hla := Hla.out
    rw [← HN.out] at hla
    exact ⟨t, 1 + x, gl, gk, gp, ga, vl, vo, vt, B', tk, rs, by rw [HN.out]; exact ht60, by omega, by omega, Hs.out, rfl, hla, Hb2.out⟩
end Go.Proofs.YtngmnkekhlclpaaGreatDoor
