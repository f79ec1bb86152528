/- The walk of scrimshawlaw20.told. No conditions. -/
import Derived.Test.YtmebhlopmgfobaaModMs
import Derived.Lib.SlBytesConst
namespace Go.Proofs.Ytmebhlopmgfobaa
open Go.RowKit
set_option linter.unusedVariables false
set_option linter.unusedSimpArgs false
/-- A block that is known whole stays when only gp is written. -/
theorem Ans.bk {w0 w w' : World} {g gp : Nat} {T2 : List UInt8} {most : Int} {X : List UInt8} {L : List Nat} {A1 : Option Addr} {c1 : Nat} {A2 : Option Addr} {c2 : Nat} (h : Ans w0 w w' g gp T2 most X L A1 c1 A2 c2) {s : Nat} {t : TypeId} {cs : Array Value} (hb : Bk w s t cs) (hs : gp < s) : Bk w' s t cs :=
  h.keep.bk hb fun e => absurd (show s = gp from e) (by omega)
theorem rd_mark (w : World) (e : TypeId) (cs : Array Value) (fr : Nat × Nat) (n g : Nat) (hs : cs.size = n) (hg : g = w.heap.size) : Rd (w.alloc (.cells cs e fr)) (w.heap.size + 1) 1 (some ⟨g, 0, none⟩) n cs.toList := by
  subst hg
  refine ⟨by simp [hs], fun _ => ⟨_, 0, rfl, by omega, fun j u hu => ?_⟩⟩
  rw [Nat.zero_add, cell_of_row (w.alloc (.cells cs e fr)) w.heap.size j cs e fr (heap_alloc_new w _)]
  simpa using hu
theorem str_const (w : World) (C : Array Value) (n c : Nat) : (convert 22 22 (.slice (some ⟨w.heap.size, 0, none⟩) n c)).run Try.prog (w.alloc (.cells C 5)) = .ok (.slice (some ⟨w.heap.size, 0, none⟩) n c) (w.alloc (.cells C 5 (C.size, C.size + 1))) :=
  Lib.run_convert_bytes_const (P := Try.prog) w 22 5 C n c Try.underlying22 Try.underlying5
theorem str_const1 (w : World) (o : Obj) (C : Array Value) (n c : Nat) : (convert 22 22 (.slice (some ⟨w.heap.size + 1, 0, none⟩) n c)).run Try.prog ((w.alloc o).alloc (.cells C 5)) = .ok (.slice (some ⟨w.heap.size + 1, 0, none⟩) n c) ((w.alloc o).alloc (.cells C 5 (C.size, C.size + 1))) := by
  have := str_const (w.alloc o) C n c
  rw [World.size_alloc] at this
  exact this
set_option maxRecDepth 100000 in
set_option maxHeartbeats 4000000 in
theorem told20_any (w : World) :
    Calls Try.prog 8 #[] w fun e w' => e = .returned (.bool true) ∧ Below w.heap.size w w' := by
  have kc := str_const
  have kc1 := str_const1
  have kf := run_code
  go_enter Try.func8, Try.ntmps8
  go_wp2_with fail
  refine (New_ok 4 _ (by omega) (by omega)).mono ?_
  intro e w1 hnew
  obtain ⟨g, gp, rfl, M1, hg1, hgp1⟩ := ms_new w w w1 4 (Below.refl _ _) hnew
  clear hnew
  have hgl := M1.pl.lt
  go_wp2_with fail
  refine (New_bad (-1) _ (by omega)).mono ?_
  rintro e w2 ⟨rfl, rfl⟩
  go_wp2_with fail
  refine (Do_ms (M1.alloc _) _ _ _ _ 1 0 0 [97, 98, 97] [97, 98, 97] [] [] 0 0 0 0 (by kernel_rfl) rfl rfl (rd_mark w1 _ _ _ 3 _ rfl rfl) (by simp) (fun _ a ha => by cases ha; simp only; omega) (by simp) (by omega) (by omega) (by omega) (by omega)).mono ?_
  rintro e w3 ⟨A1, c1, A2, c2, rfl, N3⟩
  have hs3 := N3.keep.size
  rw [World.size_alloc] at hs3
  go_wp2_with fail
  refine (Do_ms ((N3.ms.alloc _).alloc _) _ _ _ _ 1 0 0 [122, 122] [97, 98, 97] [] [] 3 0 0 0 (by kernel_rfl) rfl rfl (rd_mark (w3.alloc _) _ _ _ 2 _ rfl (by simp)) (by simp) (fun _ a ha => by cases ha; simp only; omega) (by simp) (by omega) (by omega) (by omega) (by omega)).mono ?_
  rintro e w4 ⟨B1, d1, B2, d2, rfl, N4⟩
  have hs4 := N4.keep.size
  simp only [World.size_alloc] at hs4
  have a4 := N4.bk ((Bk.new w3 _ _).alloc _) (by omega)
  go_wp2_with fail
  refine (Do_ms ((N4.ms.alloc _).alloc _) _ _ _ _ 7 0 0 [97] [97, 98, 97] [] [0, 2] 0 2 0 2 (by kernel_rfl) rfl rfl (rd_mark (w4.alloc _) _ _ _ 1 _ rfl (by simp)) (by simp) (fun _ a ha => by cases ha; simp only; omega) (by simp) (by omega) (by omega) (by omega) (by omega)).mono ?_
  rintro e w5 ⟨C1, e1, C2, e2, rfl, N5⟩
  have hs5 := N5.keep.size
  simp only [World.size_alloc] at hs5
  have a5 := N5.bk ((a4.alloc _).alloc _) (by omega)
  have b5 := N5.bk ((Bk.new w4 _ _).alloc _) (by omega)
  have P5 := N5.places
  simp only [World.size_alloc] at P5
  clear a4
  go_wp2_with fail
  refine (Do_ms (N5.ms.alloc _) _ _ _ 0 2 2 2 [] [97, 98, 97] [] [] 2 0 0 0 (by kernel_rfl) rfl rfl (Rd.nil _ _ _ _) (Nat.zero_le _) (fun h => absurd h (by omega)) (by simp) (by omega) (by omega) (by omega) (by omega)).mono ?_
  rintro e w6 ⟨D1, f1, D2, f2, rfl, N6⟩
  have hs6 := N6.keep.size
  simp only [World.size_alloc] at hs6
  have a6 := N6.bk (a5.alloc _) (by omega)
  have b6 := N6.bk (b5.alloc _) (by omega)
  have c6 := N6.bk (Bk.new w5 _ _) (by omega)
  have P6 := (P5.below ((Below.refl _ _).alloc (Nat.le_refl _) _)).keepF N6.keep (fun b hb => by have : b = gp := hb; omega)
  clear a5 b5 P5
  go_wp2_with fail
  refine (Do_ms ((N6.ms.alloc _).alloc _) _ _ _ _ 3 1 0 [120] [97, 120, 97] [] [] 0 0 0 0 (by kernel_rfl) rfl rfl (rd_mark (w6.alloc _) _ _ _ 1 _ rfl (by simp)) (by simp) (fun _ a ha => by cases ha; simp only; omega) (by simp) (by omega) (by omega) (by omega) (by omega)).mono ?_
  rintro e w7 ⟨E1, g1, E2, g2, rfl, N7⟩
  have hs7 := N7.keep.size
  simp only [World.size_alloc] at hs7
  have a7 := N7.bk ((a6.alloc _).alloc _) (by omega)
  have b7 := N7.bk ((b6.alloc _).alloc _) (by omega)
  have c7 := N7.bk ((c6.alloc _).alloc _) (by omega)
  have x7 := N7.bk ((Bk.new w6 _ _).alloc _) (by omega)
  have P7 := (P6.below (((Below.refl _ _).alloc (Nat.le_refl _) _).alloc (by simp) _)).keepF N7.keep (fun b hb => by have : b = gp := hb; omega)
  clear a6 b6 c6 P6
  go_wp2_with fail
  refine (Do_ms (N7.ms.alloc _) _ _ _ 0 6 0 0 [] [97, 120, 97] [] [] 0 4 0 0 (by kernel_rfl) rfl rfl (Rd.nil _ _ _ _) (Nat.zero_le _) (fun h => absurd h (by omega)) (by simp) (by omega) (by omega) (by omega) (by omega)).mono ?_
  rintro e w8 ⟨F1, h1, F2, h2, rfl, N8⟩
  have hs8 := N8.keep.size
  simp only [World.size_alloc] at hs8
  have a8 := N8.bk (a7.alloc _) (by omega)
  have b8 := N8.bk (b7.alloc _) (by omega)
  have c8 := N8.bk (c7.alloc _) (by omega)
  have x8 := N8.bk (x7.alloc _) (by omega)
  have y8 := N8.bk (Bk.new w7 _ _) (by omega)
  have P8 := (P7.below ((Below.refl _ _).alloc (Nat.le_refl _) _)).keepF N8.keep (fun b hb => by have : b = gp := hb; omega)
  clear a7 b7 c7 x7 P7
  go_wp2_with fail
  refine (Do_ms (N8.ms.alloc _) _ _ _ 0 77 0 0 [] [97, 120, 97] [] [] 1 0 0 0 (by kernel_rfl) rfl rfl (Rd.nil _ _ _ _) (Nat.zero_le _) (fun h => absurd h (by omega)) (by simp) (by omega) (by omega) (by omega) (by omega)).mono ?_
  rintro e w9 ⟨G1, i1, G2, i2, rfl, N9⟩
  have hs9 := N9.keep.size
  simp only [World.size_alloc] at hs9
  have a9 := N9.bk (a8.alloc _) (by omega)
  have b9 := N9.bk (b8.alloc _) (by omega)
  have c9 := N9.bk (c8.alloc _) (by omega)
  have x9 := N9.bk (x8.alloc _) (by omega)
  have y9 := N9.bk (y8.alloc _) (by omega)
  have z9 := N9.bk (Bk.new w8 _ _) (by omega)
  have P9 := (P8.below ((Below.refl _ _).alloc (Nat.le_refl _) _)).keepF N9.keep (fun b hb => by have : b = gp := hb; omega)
  clear a8 b8 c8 x8 y8 P8
  have M9 := N9.ms
  clear N3 N4 N5 N6 N7 N8 N9 M1
  have o9 := (Below.refl w9.heap.size w9).alloc (Nat.le_refl _) (.cells #[.int .i64 1, .int .i64 0, .slice G1 0 i1, .slice G2 0 i2] 29)
  obtain ⟨pb, po, rfl, hpb, hpc⟩ := (P9.rd.below o9).2 (by simp)
  have q1 : (w9.alloc (.cells #[.int .i64 1, .int .i64 0, .slice G1 0 i1, .slice G2 0 i2] 29)).cell? ⟨pb, po + 1, none⟩ = some (.int .i64 2) := hpc 1 _ rfl
  have j1 : (w9.alloc (.cells #[.int .i64 1, .int .i64 0, .slice G1 0 i1, .slice G2 0 i2] 29)).cell? ⟨w3.heap.size, 0, none⟩ = some (.int .i64 0) := (a9.alloc _).cell 0
  have j2 : (w9.alloc (.cells #[.int .i64 1, .int .i64 0, .slice G1 0 i1, .slice G2 0 i2] 29)).cell? ⟨w4.heap.size, 0, none⟩ = some (.int .i64 3) := (b9.alloc _).cell 0
  have j3 : (w9.alloc (.cells #[.int .i64 1, .int .i64 0, .slice G1 0 i1, .slice G2 0 i2] 29)).cell? ⟨w5.heap.size, 1, none⟩ = some (.int .i64 2) := (c9.alloc _).cell 1
  have j4 : (w9.alloc (.cells #[.int .i64 1, .int .i64 0, .slice G1 0 i1, .slice G2 0 i2] 29)).cell? ⟨w5.heap.size, 3, none⟩ = some (.slice (some ⟨pb, po, none⟩) 2 e2) := (c9.alloc _).cell 3
  have j5 : (w9.alloc (.cells #[.int .i64 1, .int .i64 0, .slice G1 0 i1, .slice G2 0 i2] 29)).cell? ⟨w6.heap.size, 0, none⟩ = some (.int .i64 2) := (x9.alloc _).cell 0
  have j6 : (w9.alloc (.cells #[.int .i64 1, .int .i64 0, .slice G1 0 i1, .slice G2 0 i2] 29)).cell? ⟨w7.heap.size, 0, none⟩ = some (.int .i64 0) := (y9.alloc _).cell 0
  have M10 := M9.alloc (.cells #[.int .i64 1, .int .i64 0, .slice G1 0 i1, .slice G2 0 i2] 29)
  clear hpc P9 o9 M9
  go_wp2_with fail
  refine (Text_ms M10 3 rfl (by simp)).mono ?_
  rintro e w10 ⟨H1, k1, rfl, hm10, hb10⟩
  have hstr := strOf hm10.rd
  have M11 := M10.grow hb10
  have a10 := (a9.alloc _).below hb10 (a9.alloc _).lt
  have b10 := (b9.alloc _).below hb10 (b9.alloc _).lt
  have z10 := (z9.alloc _).below hb10 (z9.alloc _).lt
  have i10 := (Bk.new w9 _ _).below hb10 (Bk.new w9 _ _).lt
  have j7 : w10.cell? ⟨w8.heap.size, 1, none⟩ = some (.int .i64 4) := z10.cell 1
  have j8 : w10.cell? ⟨w9.heap.size, 0, none⟩ = some (.int .i64 1) := i10.cell 0
  have r0 : w10.cell? ⟨w3.heap.size, 0, none⟩ = some (.int .i64 0) := a10.cell 0
  have r1 : w10.cell? ⟨w3.heap.size, 1, none⟩ = some (.int .i64 0) := a10.cell 1
  have r2 : w10.cell? ⟨w3.heap.size, 2, none⟩ = some (.slice A1 0 c1) := a10.cell 2
  have r3 : w10.cell? ⟨w3.heap.size, 3, none⟩ = some (.slice A2 0 c2) := a10.cell 3
  clear hm10 hb10 M10 a9 b9 c9 x9 y9 z9 i10 z10 q1 j1 j2 j3 j4 j5 j6
  go_wp2_with fail
  refine (Same_any 0 0 0 0 _ _ _ _ _ _ _ _ _ _ _ _ 0 0 0 0 [] [] [] [] w10 (Rd.nil _ _ _ _) (Rd.nil _ _ _ _) (Rd.nil _ _ _ _) (Rd.nil _ _ _ _) (Nat.zero_le _) (Nat.zero_le _) (Nat.zero_le _) (Nat.zero_le _) (by omega) (by omega)).mono ?_
  rintro e w11 ⟨rfl, hb11⟩
  rw [show decide ((0 : Int) = 0 ∧ (0 : Int) = 0 ∧ ([] : List UInt8) = [] ∧ ([] : List Nat) = []) = true from rfl]
  have M12 := M11.grow hb11
  have a11 := a10.below hb11 a10.lt
  have b11 := b10.below hb11 b10.lt
  clear r0 r1 r2 r3 j7 j8 hb11 M11 a10 b10
  have r0 : w11.cell? ⟨w3.heap.size, 0, none⟩ = some (.int .i64 0) := a11.cell 0
  have r1 : w11.cell? ⟨w3.heap.size, 1, none⟩ = some (.int .i64 0) := a11.cell 1
  have r2 : w11.cell? ⟨w3.heap.size, 2, none⟩ = some (.slice A1 0 c1) := a11.cell 2
  have r3 : w11.cell? ⟨w3.heap.size, 3, none⟩ = some (.slice A2 0 c2) := a11.cell 3
  have t0 : w11.cell? ⟨w4.heap.size, 0, none⟩ = some (.int .i64 3) := b11.cell 0
  have t1 : w11.cell? ⟨w4.heap.size, 1, none⟩ = some (.int .i64 0) := b11.cell 1
  have t2 : w11.cell? ⟨w4.heap.size, 2, none⟩ = some (.slice B1 0 d1) := b11.cell 2
  have t3 : w11.cell? ⟨w4.heap.size, 3, none⟩ = some (.slice B2 0 d2) := b11.cell 3
  go_wp2_with fail
  refine (Same_any 0 3 0 0 _ _ _ _ _ _ _ _ _ _ _ _ 0 0 0 0 [] [] [] [] w11 (Rd.nil _ _ _ _) (Rd.nil _ _ _ _) (Rd.nil _ _ _ _) (Rd.nil _ _ _ _) (Nat.zero_le _) (Nat.zero_le _) (Nat.zero_le _) (Nat.zero_le _) (by omega) (by omega)).mono ?_
  rintro e w12 ⟨rfl, hb12⟩
  rw [show decide ((0 : Int) = 3 ∧ (0 : Int) = 0 ∧ ([] : List UInt8) = [] ∧ ([] : List Nat) = []) = false from rfl]
  have M13 := M12.grow hb12
  clear r0 r1 r2 r3 t0 t1 t2 t3 hb12 M12 a11 b11
  go_wp2_with fail
  refine (Do_nil _ _ _ 0 0 0 w12).mono ?_
  rintro e w13 ⟨rfl, hb13⟩
  have hlow := (M13.grow hb13).low
  clear hb13 M13
  go_wp2_with fail
  go_ret
  exact ⟨rfl, hlow⟩
end Go.Proofs.Ytmebhlopmgfobaa
