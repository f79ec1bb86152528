/- The walk of scrimshawref16's plain text's Do. Conditions: sizes of at most 2^39. -/
import Derived.Test.YtmebhlopmgfobaaModRef
namespace Go.Proofs.Ytmebhlopmgfobaa
open Go.RowKit
set_option linter.unusedVariables false
set_option linter.unusedSimpArgs false
theorem str_catR (x y : List UInt8) : Value.string ((⟨x.toArray⟩ : ByteArray) ++ ⟨y.toArray⟩) = .string ⟨(x ++ y).toArray⟩ := congrArg Value.string (by
  apply ByteArray.ext
  rw [ByteArray.data_append]
  simp)
/-- A slice that reads as a list and, if it has elements, lies in a block from lo on. -/
def RdN (w : World) (lo sz : Nat) (A : Option Addr) (n : Nat) (xs : List Value) : Prop := Rd w w.heap.size sz A n xs ∧ (0 < n → ∀ a, A = some a → lo ≤ a.block)
theorem RdN.keepF {F : Nat → Prop} {w w' : World} {lo sz n : Nat} {A : Option Addr} {xs : List Value} (h : RdN w lo sz A n xs) (k : Keep F w w') (hf : ∀ b, F b → b < lo) : RdN w' lo sz A n xs :=
  ⟨Rd.keepF h.1 k (Nat.le_refl _) fun hn a ha hF => by have := h.2 hn a ha; have := hf _ hF; omega, h.2⟩
theorem RdN.below {w w' : World} {lo sz n : Nat} {A : Option Addr} {xs : List Value} (h : RdN w lo sz A n xs) (k : Below w.heap.size w w') : RdN w' lo sz A n xs := ⟨(h.1.below k).mono k.size, h.2⟩
theorem RdN.mono {w : World} {lo lo' sz n : Nat} {A : Option Addr} {xs : List Value} (h : RdN w lo sz A n xs) (hl : lo' ≤ lo) : RdN w lo' sz A n xs := ⟨h.1, fun hn a ha => Nat.le_trans hl (h.2 hn a ha)⟩
theorem RdN.nil (w : World) (lo sz : Nat) (A : Option Addr) : RdN w lo sz A 0 [] := ⟨Rd.nil _ _ _ _, fun h => absurd h (by omega)⟩
theorem RdN.of_made {w : World} {B sz n c : Nat} {e : TypeId} {A : Option Addr} {xs : List Value} (h : Made w B e sz A n c xs) : RdN w B sz A n xs := ⟨h.rd, fun hn a ha => by subst ha; exact (h.own.lt a.block rfl).1⟩
def newV (lo sz n : Nat) (xs : List Value) : Value → World → Prop := fun v w => ∃ A c, v = .slice A n c ∧ RdN w lo sz A n xs
theorem stbk_new {F : Nat → Prop} {lo : Nat} (hf : ∀ b, F b → b < lo) (sz n : Nat) (xs : List Value) : StbK F (newV lo sz n xs) := fun _ _ _ ⟨A, c, h1, h2⟩ k => ⟨A, c, h1, h2.keepF k hf⟩
def ansN (lo : Nat) (X : List UInt8) : Value → World → Prop := fun v w => ∃ A c, v = .agg (resC ⟨0, 0, X, []⟩ A c none 0) ∧ RdN w lo 1 A X.length (X.map bv)
theorem stbk_ansN {F : Nat → Prop} {lo : Nat} (hf : ∀ b, F b → b < lo) (X : List UInt8) : StbK F (ansN lo X) := fun _ _ _ ⟨A, c, h1, h2⟩ k => ⟨A, c, h1, h2.keepF k hf⟩
def ansNW (s lo : Nat) (X : List UInt8) : Value → World → Prop := fun _ w => ∃ A c, Bk w s 29 (resC ⟨0, 0, X, []⟩ A c none 0) ∧ RdN w lo 1 A X.length (X.map bv)
theorem ansNW_stb (s lo : Nat) (X : List UInt8) : Stb (ansNW s lo X) := fun _ _ _ ⟨A, c, h1, h2⟩ k => ⟨A, c, Bk.below h1 k h1.lt, h2.below k⟩
theorem rd_bytes (w : World) (l : List UInt8) (cap : Nat) (e : TypeId) (fr : Nat × Nat) (n g : Nat) (hn : l.length = n) (hg : g = w.heap.size) : RdN (w.drew.alloc (.cells (bytesRow ⟨l.toArray⟩ cap) e fr)) g 1 (some ⟨g, 0, none⟩) n (l.map bv) := by
  subst hg
  refine ⟨⟨by simp [hn], fun _ => ⟨_, 0, rfl, by simp, fun j u hu => ?_⟩⟩, fun _ a ha => by cases ha; exact Nat.le_refl _⟩
  have h1 := cell_of_row (w.drew.alloc (.cells (bytesRow ⟨l.toArray⟩ cap) e fr)) w.heap.size j (bytesRow ⟨l.toArray⟩ cap) e fr (heap_alloc_new w.drew _)
  rw [Nat.zero_add, h1]
  unfold bytesRow
  have hj : j < l.length := by
    have := (List.getElem?_eq_some_iff.1 hu).1
    simpa using this
  rw [Array.getElem?_append_left (by simpa using hj)]
  rw [List.getElem?_map, List.getElem?_eq_getElem hj] at hu
  simp only [Option.map_some, Option.some.injEq] at hu
  rw [← hu]
  simp [hj, bv]
/-- What the document's Do leaves and tells. -/
def RefTold (gx : Nat) (most : Int) (T2 : List UInt8) (r : Told) (w w' : World) (e : Ending) : Prop :=
  ∃ A1 c1 A2 c2, e = .returned (.agg (resC r A1 c1 A2 c2)) ∧ Keep (fun b => b = gx) w w' ∧ RdN w' w.heap.size 1 A1 r.data.length (r.data.map bv) ∧ Made w' w.heap.size 3 1 A2 r.places.length c2 (r.places.map nv) ∧ Bk w' gx 40 #[.string ⟨T2.toArray⟩, .int .i64 most]
theorem ref_ret {gx : Nat} {most : Int} {T2 : List UInt8} {r : Told} {w w' : World} {tmps : Array Value} {s : Nat} {A1 : Option Addr} {c1 : Nat} {A2 : Option Addr} {c2 : Nat} (hp : tmps.getD 4 undef = .pointer (some ⟨s, 0, none⟩)) (hb : Bk w' s 29 (resC r A1 c1 A2 c2))
    (hk : Keep (fun b => b = gx) w w') (hm1 : RdN w' w.heap.size 1 A1 r.data.length (r.data.map bv)) (hm2 : Made w' w.heap.size 3 1 A2 r.places.length c2 (r.places.map nv)) (hpl : Bk w' gx 40 #[.string ⟨T2.toArray⟩, .int .i64 most]) :
    bodyPost Try.prog Try.f13 (fun e w' => RefTold gx most T2 r w w' e) .ret ⟨tmps, []⟩ w' := by
  have hr := results_cell_row (P := Try.prog) (fn := Try.f13) (p := 4) (ty := 29) rfl tmps w' s 29 (resC r A1 c1 A2 c2) (0, 0) _ hp hb Try.underlying29 rfl (by kernel_rfl)
  exact bodyPost_ret hr rfl ⟨A1, c1, A2, c2, rfl, hk, hm1, hm2, hpl⟩
/-- What the walk finds in every world till the text is written. -/
structure RefF (w W : World) (gx nd cd : Nat) (AD : Option Addr) (T D : List UInt8) (most kind p k : Int) : Prop where
  low : Below w.heap.size w W
  step : Bk W w.heap.size 32 #[.int .i64 kind, .int .i64 p, .int .i64 k, .slice AD nd cd]
  res : Bk W (w.heap.size + 1) 29 #[.int .i64 0, .int .i64 0, .slice none 0 0, .slice none 0 0]
  mod : Bk W gx 40 #[.string ⟨T.toArray⟩, .int .i64 most]
  rD : Rd W w.heap.size 1 AD nd (D.map bv)
  gxl : gx < w.heap.size
section
variable {w W W' : World} {gx nd cd : Nat} {AD : Option Addr} {T D : List UInt8} {most kind p k : Int}
theorem RefF.grow (F : RefF w W gx nd cd AD T D most kind p k) (h : Grow W W') : RefF w W' gx nd cd AD T D most kind p k :=
  ⟨F.low.trans (Below.mono h F.low.size), F.step.below h F.step.lt, F.res.below h F.res.lt, F.mod.below h F.mod.lt, F.rD.below (Below.mono h F.low.size), F.gxl⟩
theorem ref_low (w : World) (kind p k : Int) (AD : Option Addr) (nd cd : Nat) (cs : Array Value) : Below w.heap.size w ((w.alloc (.cells #[.int .i64 kind, .int .i64 p, .int .i64 k, .slice AD nd cd] 32)).alloc (.cells cs 29)) :=
  ((Below.refl w.heap.size w).alloc (Nat.le_refl _) _).alloc (by simp) _
theorem ref_new (w : World) (kind p k : Int) (AD : Option Addr) (nd cd : Nat) (cs : Array Value) : Bk ((w.alloc (.cells #[.int .i64 kind, .int .i64 p, .int .i64 k, .slice AD nd cd] 32)).alloc (.cells cs 29)) (w.heap.size + 1) 29 cs := by
  simpa using Bk.new (w.alloc (.cells #[.int .i64 kind, .int .i64 p, .int .i64 k, .slice AD nd cd] 32)) 29 cs
theorem ref_start {B : Nat} (hg : Bk w gx 40 #[.string ⟨T.toArray⟩, .int .i64 most]) (hd : Rd w B 1 AD nd (D.map bv)) (hB : B ≤ w.heap.size) :
    RefF w ((w.alloc (.cells #[.int .i64 kind, .int .i64 p, .int .i64 k, .slice AD nd cd] 32)).alloc (.cells #[.int .i64 0, .int .i64 0, .slice none 0 0, .slice none 0 0] 29)) gx nd cd AD T D most kind p k :=
  ⟨ref_low _ _ _ _ _ _ _ _, (Bk.new _ _ _).alloc _, ref_new _ _ _ _ _ _ _ _, (hg.alloc _).alloc _, (hd.mono hB).below (ref_low _ _ _ _ _ _ _ _), hg.lt⟩
end
set_option maxRecDepth 100000 in
set_option maxHeartbeats 4000000 in
theorem Ref_ins_neg (gx : Nat) (AD : Option Addr) (nd cd B : Nat) (p k : Int) (most : Int) (T D : List UInt8) (n : Nat) (hn : T.length = n) (w : World) (hg : Bk w gx 40 #[.string ⟨T.toArray⟩, .int .i64 most])
    (hd : Rd w B 1 AD nd (D.map bv)) (hB : B ≤ w.heap.size) (hdne : 0 < nd → ∀ a, AD = some a → a.block ≠ gx) (hT : n ≤ 549755813888) (hD : nd ≤ 549755813888) (hpb : -9223372036854775808 ≤ (p : Int) ∧ (p : Int) ≤ 9223372036854775807) (hkb : -9223372036854775808 ≤ (k : Int) ∧ (k : Int) ≤ 9223372036854775807) (hmb : 0 ≤ most ∧ most ≤ 2147483648)
    (h0 : p < 0) :
    Calls Try.prog 13 #[.pointer (some ⟨gx, 0, none⟩), stepV 1 p k AD nd cd] w fun e w' => RefTold gx most (T) ⟨2, 0, [], []⟩ w w' e := by
  have hDl : D.length = nd := by simpa using hd.1
  have F := ref_start (kind := 1) (p := p) (k := k) (cd := cd) hg hd hB
  have HF := Lib.hid F
  have Hg := Lib.hid hg
  have Hn := Lib.hid hn
  have Hdne := Lib.hid hdne
  have hgl := hg.lt
  have z0 : (⟨T.toArray⟩ : ByteArray).size = n := (ba_size T).trans hn
  have y0 : w.cell? ⟨gx, 0, none⟩ = some (.string ⟨T.toArray⟩) := (hg.cell 0).trans rfl
  clear hd hg F hn hdne
  have hks := hkb
  unfold stepV
  go_enter Try.func13, Try.ntmps13
  go_wp2
  exact ref_ret (A1 := none) (c1 := 0) (A2 := none) (c2 := 0) rfl (ref_new w 1 p k AD nd cd #[.int .i64 2, .int .i64 0, .slice none 0 0, .slice none 0 0]) (Keep.of_below (ref_low _ _ _ _ _ _ _ _)) (RdN.nil _ _ _ _) (made_nil _ _ _) ((Hg.out.alloc _).alloc _)
set_option maxRecDepth 100000 in
set_option maxHeartbeats 4000000 in
theorem Ref_ins_far (gx : Nat) (AD : Option Addr) (nd cd B : Nat) (p k : Int) (most : Int) (T D : List UInt8) (n : Nat) (hn : T.length = n) (w : World) (hg : Bk w gx 40 #[.string ⟨T.toArray⟩, .int .i64 most])
    (hd : Rd w B 1 AD nd (D.map bv)) (hB : B ≤ w.heap.size) (hdne : 0 < nd → ∀ a, AD = some a → a.block ≠ gx) (hT : n ≤ 549755813888) (hD : nd ≤ 549755813888) (hpb : -9223372036854775808 ≤ (p : Int) ∧ (p : Int) ≤ 9223372036854775807) (hkb : -9223372036854775808 ≤ (k : Int) ∧ (k : Int) ≤ 9223372036854775807) (hmb : 0 ≤ most ∧ most ≤ 2147483648)
    (h0 : ¬ (p < 0)) (h1 : p > (n : Int)) :
    Calls Try.prog 13 #[.pointer (some ⟨gx, 0, none⟩), stepV 1 p k AD nd cd] w fun e w' => RefTold gx most (T) ⟨2, 0, [], []⟩ w w' e := by
  have hDl : D.length = nd := by simpa using hd.1
  have F := ref_start (kind := 1) (p := p) (k := k) (cd := cd) hg hd hB
  have HF := Lib.hid F
  have Hg := Lib.hid hg
  have Hn := Lib.hid hn
  have Hdne := Lib.hid hdne
  have hgl := hg.lt
  have z0 : (⟨T.toArray⟩ : ByteArray).size = n := (ba_size T).trans hn
  have y0 : w.cell? ⟨gx, 0, none⟩ = some (.string ⟨T.toArray⟩) := (hg.cell 0).trans rfl
  clear hd hg F hn hdne
  have hks := hkb
  unfold stepV
  go_enter Try.func13, Try.ntmps13
  go_wp2
  exact ref_ret (A1 := none) (c1 := 0) (A2 := none) (c2 := 0) rfl (ref_new w 1 p k AD nd cd #[.int .i64 2, .int .i64 0, .slice none 0 0, .slice none 0 0]) (Keep.of_below (ref_low _ _ _ _ _ _ _ _)) (RdN.nil _ _ _ _) (made_nil _ _ _) ((Hg.out.alloc _).alloc _)
set_option maxRecDepth 100000 in
set_option maxHeartbeats 4000000 in
theorem Ref_del_neg (gx : Nat) (AD : Option Addr) (nd cd B : Nat) (p k : Int) (most : Int) (T D : List UInt8) (n : Nat) (hn : T.length = n) (w : World) (hg : Bk w gx 40 #[.string ⟨T.toArray⟩, .int .i64 most])
    (hd : Rd w B 1 AD nd (D.map bv)) (hB : B ≤ w.heap.size) (hdne : 0 < nd → ∀ a, AD = some a → a.block ≠ gx) (hT : n ≤ 549755813888) (hD : nd ≤ 549755813888) (hpb : -9223372036854775808 ≤ (p : Int) ∧ (p : Int) ≤ 9223372036854775807) (hkb : -9223372036854775808 ≤ (k : Int) ∧ (k : Int) ≤ 9223372036854775807) (hmb : 0 ≤ most ∧ most ≤ 2147483648)
    (h0 : p < 0) :
    Calls Try.prog 13 #[.pointer (some ⟨gx, 0, none⟩), stepV 2 p k AD nd cd] w fun e w' => RefTold gx most (T) ⟨2, 0, [], []⟩ w w' e := by
  have hDl : D.length = nd := by simpa using hd.1
  have F := ref_start (kind := 2) (p := p) (k := k) (cd := cd) hg hd hB
  have HF := Lib.hid F
  have Hg := Lib.hid hg
  have Hn := Lib.hid hn
  have Hdne := Lib.hid hdne
  have hgl := hg.lt
  have z0 : (⟨T.toArray⟩ : ByteArray).size = n := (ba_size T).trans hn
  have y0 : w.cell? ⟨gx, 0, none⟩ = some (.string ⟨T.toArray⟩) := (hg.cell 0).trans rfl
  clear hd hg F hn hdne
  have hks := hkb
  unfold stepV
  go_enter Try.func13, Try.ntmps13
  go_wp2
  exact ref_ret (A1 := none) (c1 := 0) (A2 := none) (c2 := 0) rfl (ref_new w 2 p k AD nd cd #[.int .i64 2, .int .i64 0, .slice none 0 0, .slice none 0 0]) (Keep.of_below (ref_low _ _ _ _ _ _ _ _)) (RdN.nil _ _ _ _) (made_nil _ _ _) ((Hg.out.alloc _).alloc _)
set_option maxRecDepth 100000 in
set_option maxHeartbeats 4000000 in
theorem Ref_del_negk (gx : Nat) (AD : Option Addr) (nd cd B : Nat) (p k : Int) (most : Int) (T D : List UInt8) (n : Nat) (hn : T.length = n) (w : World) (hg : Bk w gx 40 #[.string ⟨T.toArray⟩, .int .i64 most])
    (hd : Rd w B 1 AD nd (D.map bv)) (hB : B ≤ w.heap.size) (hdne : 0 < nd → ∀ a, AD = some a → a.block ≠ gx) (hT : n ≤ 549755813888) (hD : nd ≤ 549755813888) (hpb : -9223372036854775808 ≤ (p : Int) ∧ (p : Int) ≤ 9223372036854775807) (hkb : -9223372036854775808 ≤ (k : Int) ∧ (k : Int) ≤ 9223372036854775807) (hmb : 0 ≤ most ∧ most ≤ 2147483648)
    (h0 : ¬ (p < 0)) (h1 : k < 0) :
    Calls Try.prog 13 #[.pointer (some ⟨gx, 0, none⟩), stepV 2 p k AD nd cd] w fun e w' => RefTold gx most (T) ⟨2, 0, [], []⟩ w w' e := by
  have hDl : D.length = nd := by simpa using hd.1
  have F := ref_start (kind := 2) (p := p) (k := k) (cd := cd) hg hd hB
  have HF := Lib.hid F
  have Hg := Lib.hid hg
  have Hn := Lib.hid hn
  have Hdne := Lib.hid hdne
  have hgl := hg.lt
  have z0 : (⟨T.toArray⟩ : ByteArray).size = n := (ba_size T).trans hn
  have y0 : w.cell? ⟨gx, 0, none⟩ = some (.string ⟨T.toArray⟩) := (hg.cell 0).trans rfl
  clear hd hg F hn hdne
  have hks := hkb
  unfold stepV
  go_enter Try.func13, Try.ntmps13
  go_wp2
  exact ref_ret (A1 := none) (c1 := 0) (A2 := none) (c2 := 0) rfl (ref_new w 2 p k AD nd cd #[.int .i64 2, .int .i64 0, .slice none 0 0, .slice none 0 0]) (Keep.of_below (ref_low _ _ _ _ _ _ _ _)) (RdN.nil _ _ _ _) (made_nil _ _ _) ((Hg.out.alloc _).alloc _)
set_option maxRecDepth 100000 in
set_option maxHeartbeats 4000000 in
theorem Ref_del_far (gx : Nat) (AD : Option Addr) (nd cd B : Nat) (p k : Int) (most : Int) (T D : List UInt8) (n : Nat) (hn : T.length = n) (w : World) (hg : Bk w gx 40 #[.string ⟨T.toArray⟩, .int .i64 most])
    (hd : Rd w B 1 AD nd (D.map bv)) (hB : B ≤ w.heap.size) (hdne : 0 < nd → ∀ a, AD = some a → a.block ≠ gx) (hT : n ≤ 549755813888) (hD : nd ≤ 549755813888) (hpb : -9223372036854775808 ≤ (p : Int) ∧ (p : Int) ≤ 9223372036854775807) (hkb : -9223372036854775808 ≤ (k : Int) ∧ (k : Int) ≤ 9223372036854775807) (hmb : 0 ≤ most ∧ most ≤ 2147483648)
    (h0 : ¬ (p < 0)) (h1 : ¬ (k < 0)) (h2 : p > (n : Int)) :
    Calls Try.prog 13 #[.pointer (some ⟨gx, 0, none⟩), stepV 2 p k AD nd cd] w fun e w' => RefTold gx most (T) ⟨2, 0, [], []⟩ w w' e := by
  have hDl : D.length = nd := by simpa using hd.1
  have F := ref_start (kind := 2) (p := p) (k := k) (cd := cd) hg hd hB
  have HF := Lib.hid F
  have Hg := Lib.hid hg
  have Hn := Lib.hid hn
  have Hdne := Lib.hid hdne
  have hgl := hg.lt
  have z0 : (⟨T.toArray⟩ : ByteArray).size = n := (ba_size T).trans hn
  have y0 : w.cell? ⟨gx, 0, none⟩ = some (.string ⟨T.toArray⟩) := (hg.cell 0).trans rfl
  clear hd hg F hn hdne
  have hks := hkb
  unfold stepV
  go_enter Try.func13, Try.ntmps13
  go_wp2
  exact ref_ret (A1 := none) (c1 := 0) (A2 := none) (c2 := 0) rfl (ref_new w 2 p k AD nd cd #[.int .i64 2, .int .i64 0, .slice none 0 0, .slice none 0 0]) (Keep.of_below (ref_low _ _ _ _ _ _ _ _)) (RdN.nil _ _ _ _) (made_nil _ _ _) ((Hg.out.alloc _).alloc _)
set_option maxRecDepth 100000 in
set_option maxHeartbeats 4000000 in
theorem Ref_del_farr (gx : Nat) (AD : Option Addr) (nd cd B : Nat) (p k : Int) (most : Int) (T D : List UInt8) (n : Nat) (hn : T.length = n) (w : World) (hg : Bk w gx 40 #[.string ⟨T.toArray⟩, .int .i64 most])
    (hd : Rd w B 1 AD nd (D.map bv)) (hB : B ≤ w.heap.size) (hdne : 0 < nd → ∀ a, AD = some a → a.block ≠ gx) (hT : n ≤ 549755813888) (hD : nd ≤ 549755813888) (hpb : -9223372036854775808 ≤ (p : Int) ∧ (p : Int) ≤ 9223372036854775807) (hkb : -9223372036854775808 ≤ (k : Int) ∧ (k : Int) ≤ 9223372036854775807) (hmb : 0 ≤ most ∧ most ≤ 2147483648)
    (h0 : ¬ (p < 0)) (h1 : ¬ (k < 0)) (h2 : ¬ (p > (n : Int))) (h3 : k > (n : Int) - p) :
    Calls Try.prog 13 #[.pointer (some ⟨gx, 0, none⟩), stepV 2 p k AD nd cd] w fun e w' => RefTold gx most (T) ⟨2, 0, [], []⟩ w w' e := by
  have hDl : D.length = nd := by simpa using hd.1
  have F := ref_start (kind := 2) (p := p) (k := k) (cd := cd) hg hd hB
  have HF := Lib.hid F
  have Hg := Lib.hid hg
  have Hn := Lib.hid hn
  have Hdne := Lib.hid hdne
  have hgl := hg.lt
  have z0 : (⟨T.toArray⟩ : ByteArray).size = n := (ba_size T).trans hn
  have y0 : w.cell? ⟨gx, 0, none⟩ = some (.string ⟨T.toArray⟩) := (hg.cell 0).trans rfl
  clear hd hg F hn hdne
  have hks := hkb
  unfold stepV
  go_enter Try.func13, Try.ntmps13
  go_wp2
  exact ref_ret (A1 := none) (c1 := 0) (A2 := none) (c2 := 0) rfl (ref_new w 2 p k AD nd cd #[.int .i64 2, .int .i64 0, .slice none 0 0, .slice none 0 0]) (Keep.of_below (ref_low _ _ _ _ _ _ _ _)) (RdN.nil _ _ _ _) (made_nil _ _ _) ((Hg.out.alloc _).alloc _)
set_option maxRecDepth 100000 in
set_option maxHeartbeats 4000000 in
theorem Ref_take_neg (gx : Nat) (AD : Option Addr) (nd cd B : Nat) (p k : Int) (most : Int) (T D : List UInt8) (n : Nat) (hn : T.length = n) (w : World) (hg : Bk w gx 40 #[.string ⟨T.toArray⟩, .int .i64 most])
    (hd : Rd w B 1 AD nd (D.map bv)) (hB : B ≤ w.heap.size) (hdne : 0 < nd → ∀ a, AD = some a → a.block ≠ gx) (hT : n ≤ 549755813888) (hD : nd ≤ 549755813888) (hpb : -9223372036854775808 ≤ (p : Int) ∧ (p : Int) ≤ 9223372036854775807) (hkb : -9223372036854775808 ≤ (k : Int) ∧ (k : Int) ≤ 9223372036854775807) (hmb : 0 ≤ most ∧ most ≤ 2147483648)
    (h0 : p < 0) :
    Calls Try.prog 13 #[.pointer (some ⟨gx, 0, none⟩), stepV 5 p k AD nd cd] w fun e w' => RefTold gx most (T) ⟨2, 0, [], []⟩ w w' e := by
  have hDl : D.length = nd := by simpa using hd.1
  have F := ref_start (kind := 5) (p := p) (k := k) (cd := cd) hg hd hB
  have HF := Lib.hid F
  have Hg := Lib.hid hg
  have Hn := Lib.hid hn
  have Hdne := Lib.hid hdne
  have hgl := hg.lt
  have z0 : (⟨T.toArray⟩ : ByteArray).size = n := (ba_size T).trans hn
  have y0 : w.cell? ⟨gx, 0, none⟩ = some (.string ⟨T.toArray⟩) := (hg.cell 0).trans rfl
  clear hd hg F hn hdne
  have hks := hkb
  unfold stepV
  go_enter Try.func13, Try.ntmps13
  go_wp2
  exact ref_ret (A1 := none) (c1 := 0) (A2 := none) (c2 := 0) rfl (ref_new w 5 p k AD nd cd #[.int .i64 2, .int .i64 0, .slice none 0 0, .slice none 0 0]) (Keep.of_below (ref_low _ _ _ _ _ _ _ _)) (RdN.nil _ _ _ _) (made_nil _ _ _) ((Hg.out.alloc _).alloc _)
set_option maxRecDepth 100000 in
set_option maxHeartbeats 4000000 in
theorem Ref_take_negk (gx : Nat) (AD : Option Addr) (nd cd B : Nat) (p k : Int) (most : Int) (T D : List UInt8) (n : Nat) (hn : T.length = n) (w : World) (hg : Bk w gx 40 #[.string ⟨T.toArray⟩, .int .i64 most])
    (hd : Rd w B 1 AD nd (D.map bv)) (hB : B ≤ w.heap.size) (hdne : 0 < nd → ∀ a, AD = some a → a.block ≠ gx) (hT : n ≤ 549755813888) (hD : nd ≤ 549755813888) (hpb : -9223372036854775808 ≤ (p : Int) ∧ (p : Int) ≤ 9223372036854775807) (hkb : -9223372036854775808 ≤ (k : Int) ∧ (k : Int) ≤ 9223372036854775807) (hmb : 0 ≤ most ∧ most ≤ 2147483648)
    (h0 : ¬ (p < 0)) (h1 : k < 0) :
    Calls Try.prog 13 #[.pointer (some ⟨gx, 0, none⟩), stepV 5 p k AD nd cd] w fun e w' => RefTold gx most (T) ⟨2, 0, [], []⟩ w w' e := by
  have hDl : D.length = nd := by simpa using hd.1
  have F := ref_start (kind := 5) (p := p) (k := k) (cd := cd) hg hd hB
  have HF := Lib.hid F
  have Hg := Lib.hid hg
  have Hn := Lib.hid hn
  have Hdne := Lib.hid hdne
  have hgl := hg.lt
  have z0 : (⟨T.toArray⟩ : ByteArray).size = n := (ba_size T).trans hn
  have y0 : w.cell? ⟨gx, 0, none⟩ = some (.string ⟨T.toArray⟩) := (hg.cell 0).trans rfl
  clear hd hg F hn hdne
  have hks := hkb
  unfold stepV
  go_enter Try.func13, Try.ntmps13
  go_wp2
  exact ref_ret (A1 := none) (c1 := 0) (A2 := none) (c2 := 0) rfl (ref_new w 5 p k AD nd cd #[.int .i64 2, .int .i64 0, .slice none 0 0, .slice none 0 0]) (Keep.of_below (ref_low _ _ _ _ _ _ _ _)) (RdN.nil _ _ _ _) (made_nil _ _ _) ((Hg.out.alloc _).alloc _)
set_option maxRecDepth 100000 in
set_option maxHeartbeats 4000000 in
theorem Ref_take_far (gx : Nat) (AD : Option Addr) (nd cd B : Nat) (p k : Int) (most : Int) (T D : List UInt8) (n : Nat) (hn : T.length = n) (w : World) (hg : Bk w gx 40 #[.string ⟨T.toArray⟩, .int .i64 most])
    (hd : Rd w B 1 AD nd (D.map bv)) (hB : B ≤ w.heap.size) (hdne : 0 < nd → ∀ a, AD = some a → a.block ≠ gx) (hT : n ≤ 549755813888) (hD : nd ≤ 549755813888) (hpb : -9223372036854775808 ≤ (p : Int) ∧ (p : Int) ≤ 9223372036854775807) (hkb : -9223372036854775808 ≤ (k : Int) ∧ (k : Int) ≤ 9223372036854775807) (hmb : 0 ≤ most ∧ most ≤ 2147483648)
    (h0 : ¬ (p < 0)) (h1 : ¬ (k < 0)) (h2 : p > (n : Int)) :
    Calls Try.prog 13 #[.pointer (some ⟨gx, 0, none⟩), stepV 5 p k AD nd cd] w fun e w' => RefTold gx most (T) ⟨2, 0, [], []⟩ w w' e := by
  have hDl : D.length = nd := by simpa using hd.1
  have F := ref_start (kind := 5) (p := p) (k := k) (cd := cd) hg hd hB
  have HF := Lib.hid F
  have Hg := Lib.hid hg
  have Hn := Lib.hid hn
  have Hdne := Lib.hid hdne
  have hgl := hg.lt
  have z0 : (⟨T.toArray⟩ : ByteArray).size = n := (ba_size T).trans hn
  have y0 : w.cell? ⟨gx, 0, none⟩ = some (.string ⟨T.toArray⟩) := (hg.cell 0).trans rfl
  clear hd hg F hn hdne
  have hks := hkb
  unfold stepV
  go_enter Try.func13, Try.ntmps13
  go_wp2
  exact ref_ret (A1 := none) (c1 := 0) (A2 := none) (c2 := 0) rfl (ref_new w 5 p k AD nd cd #[.int .i64 2, .int .i64 0, .slice none 0 0, .slice none 0 0]) (Keep.of_below (ref_low _ _ _ _ _ _ _ _)) (RdN.nil _ _ _ _) (made_nil _ _ _) ((Hg.out.alloc _).alloc _)
set_option maxRecDepth 100000 in
set_option maxHeartbeats 4000000 in
theorem Ref_take_farr (gx : Nat) (AD : Option Addr) (nd cd B : Nat) (p k : Int) (most : Int) (T D : List UInt8) (n : Nat) (hn : T.length = n) (w : World) (hg : Bk w gx 40 #[.string ⟨T.toArray⟩, .int .i64 most])
    (hd : Rd w B 1 AD nd (D.map bv)) (hB : B ≤ w.heap.size) (hdne : 0 < nd → ∀ a, AD = some a → a.block ≠ gx) (hT : n ≤ 549755813888) (hD : nd ≤ 549755813888) (hpb : -9223372036854775808 ≤ (p : Int) ∧ (p : Int) ≤ 9223372036854775807) (hkb : -9223372036854775808 ≤ (k : Int) ∧ (k : Int) ≤ 9223372036854775807) (hmb : 0 ≤ most ∧ most ≤ 2147483648)
    (h0 : ¬ (p < 0)) (h1 : ¬ (k < 0)) (h2 : ¬ (p > (n : Int))) (h3 : k > (n : Int) - p) :
    Calls Try.prog 13 #[.pointer (some ⟨gx, 0, none⟩), stepV 5 p k AD nd cd] w fun e w' => RefTold gx most (T) ⟨2, 0, [], []⟩ w w' e := by
  have hDl : D.length = nd := by simpa using hd.1
  have F := ref_start (kind := 5) (p := p) (k := k) (cd := cd) hg hd hB
  have HF := Lib.hid F
  have Hg := Lib.hid hg
  have Hn := Lib.hid hn
  have Hdne := Lib.hid hdne
  have hgl := hg.lt
  have z0 : (⟨T.toArray⟩ : ByteArray).size = n := (ba_size T).trans hn
  have y0 : w.cell? ⟨gx, 0, none⟩ = some (.string ⟨T.toArray⟩) := (hg.cell 0).trans rfl
  clear hd hg F hn hdne
  have hks := hkb
  unfold stepV
  go_enter Try.func13, Try.ntmps13
  go_wp2
  exact ref_ret (A1 := none) (c1 := 0) (A2 := none) (c2 := 0) rfl (ref_new w 5 p k AD nd cd #[.int .i64 2, .int .i64 0, .slice none 0 0, .slice none 0 0]) (Keep.of_below (ref_low _ _ _ _ _ _ _ _)) (RdN.nil _ _ _ _) (made_nil _ _ _) ((Hg.out.alloc _).alloc _)
set_option maxRecDepth 100000 in
set_option maxHeartbeats 4000000 in
theorem Ref_set_neg (gx : Nat) (AD : Option Addr) (nd cd B : Nat) (p k : Int) (most : Int) (T D : List UInt8) (n : Nat) (hn : T.length = n) (w : World) (hg : Bk w gx 40 #[.string ⟨T.toArray⟩, .int .i64 most])
    (hd : Rd w B 1 AD nd (D.map bv)) (hB : B ≤ w.heap.size) (hdne : 0 < nd → ∀ a, AD = some a → a.block ≠ gx) (hT : n ≤ 549755813888) (hD : nd ≤ 549755813888) (hpb : -9223372036854775808 ≤ (p : Int) ∧ (p : Int) ≤ 9223372036854775807) (hkb : -9223372036854775808 ≤ (k : Int) ∧ (k : Int) ≤ 9223372036854775807) (hmb : 0 ≤ most ∧ most ≤ 2147483648)
    (h0 : p < 0) :
    Calls Try.prog 13 #[.pointer (some ⟨gx, 0, none⟩), stepV 3 p k AD nd cd] w fun e w' => RefTold gx most (T) ⟨2, 0, [], []⟩ w w' e := by
  have hDl : D.length = nd := by simpa using hd.1
  have F := ref_start (kind := 3) (p := p) (k := k) (cd := cd) hg hd hB
  have HF := Lib.hid F
  have Hg := Lib.hid hg
  have Hn := Lib.hid hn
  have Hdne := Lib.hid hdne
  have hgl := hg.lt
  have z0 : (⟨T.toArray⟩ : ByteArray).size = n := (ba_size T).trans hn
  have y0 : w.cell? ⟨gx, 0, none⟩ = some (.string ⟨T.toArray⟩) := (hg.cell 0).trans rfl
  clear hd hg F hn hdne
  have hks := hkb
  unfold stepV
  go_enter Try.func13, Try.ntmps13
  go_wp2
  exact ref_ret (A1 := none) (c1 := 0) (A2 := none) (c2 := 0) rfl (ref_new w 3 p k AD nd cd #[.int .i64 2, .int .i64 0, .slice none 0 0, .slice none 0 0]) (Keep.of_below (ref_low _ _ _ _ _ _ _ _)) (RdN.nil _ _ _ _) (made_nil _ _ _) ((Hg.out.alloc _).alloc _)
set_option maxRecDepth 100000 in
set_option maxHeartbeats 4000000 in
theorem Ref_set_far (gx : Nat) (AD : Option Addr) (nd cd B : Nat) (p k : Int) (most : Int) (T D : List UInt8) (n : Nat) (hn : T.length = n) (w : World) (hg : Bk w gx 40 #[.string ⟨T.toArray⟩, .int .i64 most])
    (hd : Rd w B 1 AD nd (D.map bv)) (hB : B ≤ w.heap.size) (hdne : 0 < nd → ∀ a, AD = some a → a.block ≠ gx) (hT : n ≤ 549755813888) (hD : nd ≤ 549755813888) (hpb : -9223372036854775808 ≤ (p : Int) ∧ (p : Int) ≤ 9223372036854775807) (hkb : -9223372036854775808 ≤ (k : Int) ∧ (k : Int) ≤ 9223372036854775807) (hmb : 0 ≤ most ∧ most ≤ 2147483648)
    (h0 : ¬ (p < 0)) (h1 : p > (n : Int)) :
    Calls Try.prog 13 #[.pointer (some ⟨gx, 0, none⟩), stepV 3 p k AD nd cd] w fun e w' => RefTold gx most (T) ⟨2, 0, [], []⟩ w w' e := by
  have hDl : D.length = nd := by simpa using hd.1
  have F := ref_start (kind := 3) (p := p) (k := k) (cd := cd) hg hd hB
  have HF := Lib.hid F
  have Hg := Lib.hid hg
  have Hn := Lib.hid hn
  have Hdne := Lib.hid hdne
  have hgl := hg.lt
  have z0 : (⟨T.toArray⟩ : ByteArray).size = n := (ba_size T).trans hn
  have y0 : w.cell? ⟨gx, 0, none⟩ = some (.string ⟨T.toArray⟩) := (hg.cell 0).trans rfl
  clear hd hg F hn hdne
  have hks := hkb
  unfold stepV
  go_enter Try.func13, Try.ntmps13
  go_wp2
  exact ref_ret (A1 := none) (c1 := 0) (A2 := none) (c2 := 0) rfl (ref_new w 3 p k AD nd cd #[.int .i64 2, .int .i64 0, .slice none 0 0, .slice none 0 0]) (Keep.of_below (ref_low _ _ _ _ _ _ _ _)) (RdN.nil _ _ _ _) (made_nil _ _ _) ((Hg.out.alloc _).alloc _)
set_option maxRecDepth 100000 in
set_option maxHeartbeats 4000000 in
theorem Ref_set_farr (gx : Nat) (AD : Option Addr) (nd cd B : Nat) (p k : Int) (most : Int) (T D : List UInt8) (n : Nat) (hn : T.length = n) (w : World) (hg : Bk w gx 40 #[.string ⟨T.toArray⟩, .int .i64 most])
    (hd : Rd w B 1 AD nd (D.map bv)) (hB : B ≤ w.heap.size) (hdne : 0 < nd → ∀ a, AD = some a → a.block ≠ gx) (hT : n ≤ 549755813888) (hD : nd ≤ 549755813888) (hpb : -9223372036854775808 ≤ (p : Int) ∧ (p : Int) ≤ 9223372036854775807) (hkb : -9223372036854775808 ≤ (k : Int) ∧ (k : Int) ≤ 9223372036854775807) (hmb : 0 ≤ most ∧ most ≤ 2147483648)
    (h0 : ¬ (p < 0)) (h1 : ¬ (p > (n : Int))) (h2 : (nd : Int) > (n : Int) - p) :
    Calls Try.prog 13 #[.pointer (some ⟨gx, 0, none⟩), stepV 3 p k AD nd cd] w fun e w' => RefTold gx most (T) ⟨2, 0, [], []⟩ w w' e := by
  have hDl : D.length = nd := by simpa using hd.1
  have F := ref_start (kind := 3) (p := p) (k := k) (cd := cd) hg hd hB
  have HF := Lib.hid F
  have Hg := Lib.hid hg
  have Hn := Lib.hid hn
  have Hdne := Lib.hid hdne
  have hgl := hg.lt
  have z0 : (⟨T.toArray⟩ : ByteArray).size = n := (ba_size T).trans hn
  have y0 : w.cell? ⟨gx, 0, none⟩ = some (.string ⟨T.toArray⟩) := (hg.cell 0).trans rfl
  clear hd hg F hn hdne
  have hks := hkb
  unfold stepV
  go_enter Try.func13, Try.ntmps13
  go_wp2
  exact ref_ret (A1 := none) (c1 := 0) (A2 := none) (c2 := 0) rfl (ref_new w 3 p k AD nd cd #[.int .i64 2, .int .i64 0, .slice none 0 0, .slice none 0 0]) (Keep.of_below (ref_low _ _ _ _ _ _ _ _)) (RdN.nil _ _ _ _) (made_nil _ _ _) ((Hg.out.alloc _).alloc _)
set_option maxRecDepth 100000 in
set_option maxHeartbeats 4000000 in
theorem Ref_len (gx : Nat) (AD : Option Addr) (nd cd B : Nat) (p k : Int) (most : Int) (T D : List UInt8) (n : Nat) (hn : T.length = n) (w : World) (hg : Bk w gx 40 #[.string ⟨T.toArray⟩, .int .i64 most])
    (hd : Rd w B 1 AD nd (D.map bv)) (hB : B ≤ w.heap.size) (hdne : 0 < nd → ∀ a, AD = some a → a.block ≠ gx) (hT : n ≤ 549755813888) (hD : nd ≤ 549755813888) (hpb : -9223372036854775808 ≤ (p : Int) ∧ (p : Int) ≤ 9223372036854775807) (hkb : -9223372036854775808 ≤ (k : Int) ∧ (k : Int) ≤ 9223372036854775807) (hmb : 0 ≤ most ∧ most ≤ 2147483648)
     :
    Calls Try.prog 13 #[.pointer (some ⟨gx, 0, none⟩), stepV 4 p k AD nd cd] w fun e w' => RefTold gx most (T) ⟨0, (n : Int), [], []⟩ w w' e := by
  have hDl : D.length = nd := by simpa using hd.1
  have F := ref_start (kind := 4) (p := p) (k := k) (cd := cd) hg hd hB
  have HF := Lib.hid F
  have Hg := Lib.hid hg
  have Hn := Lib.hid hn
  have Hdne := Lib.hid hdne
  have hgl := hg.lt
  have z0 : (⟨T.toArray⟩ : ByteArray).size = n := (ba_size T).trans hn
  have y0 : w.cell? ⟨gx, 0, none⟩ = some (.string ⟨T.toArray⟩) := (hg.cell 0).trans rfl
  clear hd hg F hn hdne
  unfold stepV
  go_enter Try.func13, Try.ntmps13
  go_wp2
  exact ref_ret (A1 := none) (c1 := 0) (A2 := none) (c2 := 0) rfl (ref_new w 4 p k AD nd cd #[.int .i64 0, .int .i64 (n : Int), .slice none 0 0, .slice none 0 0]) (Keep.of_below (ref_low _ _ _ _ _ _ _ _)) (RdN.nil _ _ _ _) (made_nil _ _ _) ((Hg.out.alloc _).alloc _)
set_option maxRecDepth 100000 in
set_option maxHeartbeats 4000000 in
theorem Ref_reload (gx : Nat) (AD : Option Addr) (nd cd B : Nat) (p k : Int) (most : Int) (T D : List UInt8) (n : Nat) (hn : T.length = n) (w : World) (hg : Bk w gx 40 #[.string ⟨T.toArray⟩, .int .i64 most])
    (hd : Rd w B 1 AD nd (D.map bv)) (hB : B ≤ w.heap.size) (hdne : 0 < nd → ∀ a, AD = some a → a.block ≠ gx) (hT : n ≤ 549755813888) (hD : nd ≤ 549755813888) (hpb : -9223372036854775808 ≤ (p : Int) ∧ (p : Int) ≤ 9223372036854775807) (hkb : -9223372036854775808 ≤ (k : Int) ∧ (k : Int) ≤ 9223372036854775807) (hmb : 0 ≤ most ∧ most ≤ 2147483648)
     :
    Calls Try.prog 13 #[.pointer (some ⟨gx, 0, none⟩), stepV 8 p k AD nd cd] w fun e w' => RefTold gx most (T) ⟨0, 0, [], []⟩ w w' e := by
  have hDl : D.length = nd := by simpa using hd.1
  have F := ref_start (kind := 8) (p := p) (k := k) (cd := cd) hg hd hB
  have HF := Lib.hid F
  have Hg := Lib.hid hg
  have Hn := Lib.hid hn
  have Hdne := Lib.hid hdne
  have hgl := hg.lt
  have z0 : (⟨T.toArray⟩ : ByteArray).size = n := (ba_size T).trans hn
  have y0 : w.cell? ⟨gx, 0, none⟩ = some (.string ⟨T.toArray⟩) := (hg.cell 0).trans rfl
  clear hd hg F hn hdne
  unfold stepV
  go_enter Try.func13, Try.ntmps13
  go_wp2
  exact ref_ret (A1 := none) (c1 := 0) (A2 := none) (c2 := 0) rfl (ref_new w 8 p k AD nd cd #[.int .i64 0, .int .i64 0, .slice none 0 0, .slice none 0 0]) (Keep.of_below (ref_low _ _ _ _ _ _ _ _)) (RdN.nil _ _ _ _) (made_nil _ _ _) ((Hg.out.alloc _).alloc _)
end Go.Proofs.Ytmebhlopmgfobaa
