/- What a snapshot is, as bytes; its sum (plain Lean). No conditions. Arrays of numbers by a function of the place (plain Lean). No conditions. The walks of crc's Step, table, More and Of. No conditions. The walk of snap.part. Conditions: at most 10^6 bytes. The walks of a snapshot's reader: number and part. Conditions: the number stands there. Plain laws: a transform's runs, a snapshot's length. No conditions. -/
import Derived.Test.YtnileogagoipiaaGreatDoorPkQ
import Derived.Test.YtnileogagoipiaaGreatDoorPkI
import Derived.Laws.Rows
import Derived.Laws.Tables
import Derived.Laws.CopyOwn
import Derived.Deep.WholeRow
import Derived.Test.YtnileogagoipiaaGreatDoorPkR
import Derived.BigQuiet
namespace Go.Proofs.YtnileogagoipiaaGreatDoor
set_option linter.unusedVariables false
set_option linter.unusedSimpArgs false
/-- One bit of the sum. -/
def crcStep (s : Nat) : Nat := if s % 2 = 1 then (s / 2) ^^^ 3988292384 else s / 2
def crcIt : Nat → Nat → Nat
  | 0, s => s
  | k + 1, s => crcStep (crcIt k s)
def crcTab (i : Nat) : Nat := crcIt 8 i
def crcGo : List UInt8 → Nat → Nat
  | [], s => s
  | c :: r, s => crcGo r (crcTab ((s % 256) ^^^ c.toNat) ^^^ (s / 256))
def crcMore (s : Nat) (b : List UInt8) : Nat := 4294967295 - crcGo b (4294967295 - s)
def crcB (b : List UInt8) : Nat := crcMore 0 b
theorem crcStep_lt {s : Nat} (h : s < 4294967296) : crcStep s < 4294967296 := by
  unfold crcStep
  split
  · exact Nat.xor_lt_two_pow (n := 32) (by omega) (by omega)
  · omega
theorem crcIt_lt {s : Nat} (h : s < 4294967296) : ∀ k, crcIt k s < 4294967296
  | 0 => h
  | k + 1 => crcStep_lt (crcIt_lt h k)
theorem crcTab_lt {i : Nat} (h : i < 256) : crcTab i < 4294967296 := crcIt_lt (by omega) 8
theorem crc_in {s : Nat} (h : s < 4294967296) (c : UInt8) : (s % 256) ^^^ c.toNat < 256 := Nat.xor_lt_two_pow (n := 8) (by omega) c.toNat_lt
theorem crc_next {s : Nat} (h : s < 4294967296) (c : UInt8) : crcTab ((s % 256) ^^^ c.toNat) ^^^ (s / 256) < 4294967296 :=
  Nat.xor_lt_two_pow (n := 32) (crcTab_lt (crc_in h c)) (by omega)
theorem crcGo_lt : ∀ (b : List UInt8) (s : Nat), s < 4294967296 → crcGo b s < 4294967296
  | [], _, h => h
  | c :: r, s, h => crcGo_lt r _ (crc_next h c)
theorem crcGo_snoc : ∀ (b : List UInt8) (c : UInt8) (s : Nat), crcGo (b ++ [c]) s = crcTab ((crcGo b s % 256) ^^^ c.toNat) ^^^ (crcGo b s / 256)
  | [], _, _ => rfl
  | d :: r, c, s => crcGo_snoc r c _
theorem crcB_lt (b : List UInt8) : crcB b < 4294967296 := by
  unfold crcB crcMore
  have := crcGo_lt b (4294967295 - 0) (by omega)
  omega
/-- A part, with its length ahead and its sum behind. -/
def partB (b : List UInt8) : List UInt8 := encB b.length ++ (b ++ fixB (crcB b))
def markB : List UInt8 := [83, 75, 82, 49]
/-- The sampled places' rows. -/
def secB (rs : List Nat) (rate N : Nat) : List UInt8 := (List.range (N / rate + 1)).flatMap fun k => encB (rs.idxOf (k * rate))
def symsI (L : List Nat) : List Int := L.map fun n : Nat => (n : Int)
def firstB (L : List Nat) : List UInt8 := runBytes (runsOf (symsI L))
def bodyB (L rs : List Nat) (most rate N : Nat) : List UInt8 := markB ++ (encAll [most, rate, N] ++ (partB (firstB L) ++ partB (secB rs rate N)))
def snapB (L rs : List Nat) (most rate N : Nat) : List UInt8 := bodyB L rs most rate N ++ fixB (crcB (bodyB L rs most rate N))
/-- Where a number is read in bytes that have it there. -/
theorem num_at {b a r : List UInt8} {n at_ to : Nat} (h : b = a ++ (encB n ++ r)) (ha : a.length = at_) (ht : at_ + (encB n).length = to) (hn : n < 18446744073709551616) : getNB b (at_ : Int) = (n, (to : Int), 0) := by
  rw [h, ← ht, ← ha]
  exact getNB_at a r n hn
/-- The places at which a snapshot is read. -/
structure SnAt (body : List UInt8) (most rate N : Nat) (f s : List UInt8) (p1 p2 p3 p4 p5 : Nat) : Prop where
  e1 : body = markB ++ (encB most ++ (encB rate ++ (encB N ++ (partB f ++ partB s))))
  h1 : 4 + (encB most).length = p1
  h2 : p1 + (encB rate).length = p2
  h3 : p2 + (encB N).length = p3
  h4 : p3 + (partB f).length = p4
  h5 : p4 + (partB s).length = p5
theorem bodyB_eq (L rs : List Nat) (most rate N : Nat) : bodyB L rs most rate N = markB ++ (encB most ++ (encB rate ++ (encB N ++ (partB (firstB L) ++ partB (secB rs rate N))))) := by
  unfold bodyB
  simp [encAll]
theorem SnAt.of (L rs : List Nat) (most rate N : Nat) : ∃ p1 p2 p3 p4 p5, SnAt (bodyB L rs most rate N) most rate N (firstB L) (secB rs rate N) p1 p2 p3 p4 p5 ∧ (bodyB L rs most rate N).length = p5 := by
  refine ⟨_, _, _, _, _, ⟨bodyB_eq L rs most rate N, rfl, rfl, rfl, rfl, rfl⟩, ?_⟩
  rw [bodyB_eq]
  simp [markB]
  omega
theorem SnAt.n1 {body f s : List UInt8} {most rate N p1 p2 p3 p4 p5 : Nat} (h : SnAt body most rate N f s p1 p2 p3 p4 p5) (hm : most < 18446744073709551616) : getNB body 4 = (most, (p1 : Int), 0) :=
  num_at (a := markB) h.e1 rfl h.h1 hm
theorem SnAt.n2 {body f s : List UInt8} {most rate N p1 p2 p3 p4 p5 : Nat} (h : SnAt body most rate N f s p1 p2 p3 p4 p5) (hm : rate < 18446744073709551616) : getNB body (p1 : Int) = (rate, (p2 : Int), 0) :=
  num_at (a := markB ++ encB most) (r := encB N ++ (partB f ++ partB s)) (by rw [h.e1]; simp) (by rw [List.length_append]; have := h.h1; have : markB.length = 4 := rfl; omega) h.h2 hm
theorem SnAt.n3 {body f s : List UInt8} {most rate N p1 p2 p3 p4 p5 : Nat} (h : SnAt body most rate N f s p1 p2 p3 p4 p5) (hm : N < 18446744073709551616) : getNB body (p2 : Int) = (N, (p3 : Int), 0) :=
  num_at (a := markB ++ (encB most ++ encB rate)) (r := partB f ++ partB s) (by rw [h.e1]; simp) (by rw [List.length_append, List.length_append]; have := h.h1; have := h.h2; have : markB.length = 4 := rfl; omega) h.h3 hm
theorem partB_len (b : List UInt8) : (partB b).length = (encB b.length).length + (b.length + 4) := by
  unfold partB
  rw [List.length_append, List.length_append, fixB_len]
/-- The first part: its length is read, then it stands there. -/
theorem SnAt.f1 {body f s : List UInt8} {most rate N p1 p2 p3 p4 p5 : Nat} (h : SnAt body most rate N f s p1 p2 p3 p4 p5) (hm : f.length < 18446744073709551616) :
    ∃ q : Nat, getNB body (p3 : Int) = (f.length, (q : Int), 0) ∧ q + (f.length + 4) = p4 ∧ (body.drop q).take f.length = f ∧ p4 ≤ body.length := by
  have ea : body = (markB ++ (encB most ++ (encB rate ++ encB N))) ++ (encB f.length ++ ((f ++ fixB (crcB f)) ++ partB s)) := by
    rw [h.e1]
    simp [partB]
  have hla : (markB ++ (encB most ++ (encB rate ++ encB N))).length = p3 := by
    simp only [List.length_append]
    have := h.h1
    have := h.h2
    have := h.h3
    have : markB.length = 4 := rfl
    omega
  refine ⟨p3 + (encB f.length).length, num_at ea hla rfl hm, ?_, ?_, ?_⟩
  · have := h.h4
    rw [partB_len] at this
    omega
  · rw [ea, ← List.append_assoc, List.drop_left' (by rw [List.length_append, hla]), List.append_assoc, List.take_left' rfl]
  · have h5 := h.h5
    have e := congrArg List.length h.e1
    simp only [List.length_append] at e
    have h1 := h.h1
    have h2 := h.h2
    have h3 := h.h3
    have h4 := h.h4
    have hm4 : markB.length = 4 := rfl
    omega
theorem SnAt.f2 {body f s : List UInt8} {most rate N p1 p2 p3 p4 p5 : Nat} (h : SnAt body most rate N f s p1 p2 p3 p4 p5) (hm : s.length < 18446744073709551616) :
    ∃ q : Nat, getNB body (p4 : Int) = (s.length, (q : Int), 0) ∧ q + (s.length + 4) = p5 ∧ (body.drop q).take s.length = s ∧ p5 = body.length := by
  have ea : body = (markB ++ (encB most ++ (encB rate ++ (encB N ++ partB f)))) ++ (encB s.length ++ ((s ++ fixB (crcB s)) ++ [])) := by
    rw [h.e1]
    simp [partB]
  have hla : (markB ++ (encB most ++ (encB rate ++ (encB N ++ partB f)))).length = p4 := by
    simp only [List.length_append]
    have := h.h1
    have := h.h2
    have := h.h3
    have := h.h4
    have : markB.length = 4 := rfl
    omega
  refine ⟨p4 + (encB s.length).length, num_at ea hla rfl hm, ?_, ?_, ?_⟩
  · have := h.h5
    rw [partB_len] at this
    omega
  · rw [ea, ← List.append_assoc, List.drop_left' (by rw [List.length_append, hla]), List.append_assoc, List.take_left' rfl]
  · have h5 := h.h5
    have e := congrArg List.length h.e1
    simp only [List.length_append] at e
    have h1 := h.h1
    have h2 := h.h2
    have h3 := h.h3
    have h4 := h.h4
    have hm4 : markB.length = 4 := rfl
    omega
end Go.Proofs.YtnileogagoipiaaGreatDoor
namespace Go.Proofs.YtnileogagoipiaaGreatDoor
open Go.RowKit
set_option linter.unusedVariables false
set_option linter.unusedSimpArgs false
/-- n numbers of a kind. -/
def arrK (k : IntKind) (n : Nat) (f : Nat → Nat) : Array Value := ((List.range n).map fun i => Value.int k ((f i : Nat) : Int)).toArray
theorem arrK_size (k : IntKind) (n : Nat) (f : Nat → Nat) : (arrK k n f).size = n := by simp [arrK]
theorem arrK_get {k : IntKind} {n : Nat} {f : Nat → Nat} {i : Nat} (h : i < n) : (arrK k n f)[i]? = some (.int k ((f i : Nat) : Int)) := by
  unfold arrK
  rw [List.getElem?_toArray, List.getElem?_map, List.getElem?_range h]
  rfl
theorem arrK_none {k : IntKind} {n : Nat} {f : Nat → Nat} {i : Nat} (h : ¬ i < n) : (arrK k n f)[i]? = none := Array.getElem?_eq_none (by rw [arrK_size]; omega)
theorem arrK_congr {k : IntKind} {n : Nat} {f g : Nat → Nat} (h : ∀ i, i < n → f i = g i) : arrK k n f = arrK k n g := by
  unfold arrK
  congr 1
  exact List.map_congr_left fun i hi => by rw [h i (List.mem_range.1 hi)]
theorem arrK_set {k : IntKind} {n : Nat} {f : Nat → Nat} {i v : Nat} (h : i < n) : (arrK k n f).setIfInBounds i (.int k ((v : Nat) : Int)) = arrK k n (fun j => if j = i then v else f j) := by
  apply Array.ext_getElem?
  intro j
  rw [Array.getElem?_setIfInBounds, arrK_size]
  by_cases hj : j < n
  · rw [arrK_get hj, arrK_get hj]
    by_cases e : i = j
    · subst e
      rw [if_pos rfl, if_pos hj, if_pos rfl]
    · rw [if_neg e, if_neg (fun h => e h.symm)]
  · rw [arrK_none hj, arrK_none hj]
    by_cases e : i = j
    · subst e
      rw [if_pos rfl, if_neg hj]
    · rw [if_neg e]
theorem arrK_zero (k : IntKind) (n : Nat) : Array.replicate n (Value.int k 0) = arrK k n (fun _ => 0) := by
  apply Array.ext_getElem?
  intro j
  by_cases hj : j < n
  · rw [arrK_get hj, Array.getElem?_replicate, if_pos hj]
    rfl
  · rw [arrK_none hj, Array.getElem?_replicate, if_neg hj]
theorem arrK_list (k : IntKind) (n : Nat) (f : Nat → Nat) : (arrK k n f).toList = (List.range n).map fun i => Value.int k ((f i : Nat) : Int) := rfl
end Go.Proofs.YtnileogagoipiaaGreatDoor
namespace Go.Proofs.YtnileogagoipiaaGreatDoor
open Go.RowKit
set_option linter.unusedVariables false
set_option linter.unusedSimpArgs false
theorem bits_xor_u32 (a b : Nat) (ha : a < 4294967296) (hb : b < 4294967296) : bits .xor .u32 (a : Int) (b : Int) = ((a ^^^ b : Nat) : Int) := by
  have hx : a ^^^ b < 2 ^ 32 := Nat.xor_lt_two_pow (by omega) (by omega)
  have h1 : (BitVec.ofInt 32 (a : Int)).toNat = a := by
    rw [BitVec.ofInt_natCast, BitVec.toNat_ofNat]; exact Nat.mod_eq_of_lt (by omega)
  have h2 : (BitVec.ofInt 32 (b : Int)).toNat = b := by
    rw [BitVec.ofInt_natCast, BitVec.toNat_ofNat]; exact Nat.mod_eq_of_lt (by omega)
  show IntKind.u32.wrap ((BitVec.ofInt 32 (a : Int) ^^^ BitVec.ofInt 32 (b : Int)).toNat : Int) = _
  rw [BitVec.toNat_xor, h1, h2, IntKind.wrap_u32]
  omega
theorem bits_xor_u8 (a b : Nat) (ha : a < 256) (hb : b < 256) : bits .xor .u8 (a : Int) (b : Int) = ((a ^^^ b : Nat) : Int) := by
  have hx : a ^^^ b < 2 ^ 8 := Nat.xor_lt_two_pow (by omega) (by omega)
  have h1 : (BitVec.ofInt 8 (a : Int)).toNat = a := by
    rw [BitVec.ofInt_natCast, BitVec.toNat_ofNat]; exact Nat.mod_eq_of_lt (by omega)
  have h2 : (BitVec.ofInt 8 (b : Int)).toNat = b := by
    rw [BitVec.ofInt_natCast, BitVec.toNat_ofNat]; exact Nat.mod_eq_of_lt (by omega)
  show IntKind.u8.wrap ((BitVec.ofInt 8 (a : Int) ^^^ BitVec.ofInt 8 (b : Int)).toNat : Int) = _
  rw [BitVec.toNat_xor, h1, h2, IntKind.wrap_u8]
  omega
theorem bits_and_u32 (a : Nat) (ha : a < 4294967296) : bits .and .u32 (a : Int) 1 = ((a % 2 : Nat) : Int) := by
  have h1 : (BitVec.ofInt 32 (a : Int)).toNat = a := by
    rw [BitVec.ofInt_natCast, BitVec.toNat_ofNat]; exact Nat.mod_eq_of_lt (by omega)
  show IntKind.u32.wrap ((BitVec.ofInt 32 (a : Int) &&& BitVec.ofInt 32 (1 : Int)).toNat : Int) = _
  rw [BitVec.toNat_and, h1]
  have h2 : (BitVec.ofInt 32 (1 : Int)).toNat = 1 := by decide
  rw [h2, IntKind.wrap_u32, Nat.and_one_is_mod]
  omega
theorem CrcStep_any (s : Nat) (hs : s < 4294967296) (w : World) :
    Calls Tryz.prog 223 #[.int .u32 (s : Int), .bool false] w fun e w' => e = .returned (.int .u32 ((crcStep s : Nat) : Int)) ∧ Below w.heap.size w w' := by
  have e1 := bits_and_u32 s hs
  go_enter Tryz.func223, Tryz.ntmps223
  go_wp2_with fail
  · go_ret
    refine ⟨?_, Below.refl _ _⟩
    rename_i h
    have h' : s % 2 = 1 := by
      have := eq_of_beq h
      omega
    have e2 : ((s : Int) / 2) = ((s / 2 : Nat) : Int) := by omega
    have e3 : (3988292384 : Int) = ((3988292384 : Nat) : Int) := rfl
    show Ending.returned (Value.int .u32 (bits .xor .u32 ((s : Int) / 2) 3988292384)) = _
    rw [e2, e3, bits_xor_u32 _ _ (by omega) (by omega), crcStep, if_pos h']
  · go_ret
    refine ⟨?_, Below.refl _ _⟩
    rename_i h
    have h' : ¬ s % 2 = 1 := by
      intro h2
      have : ((s : Int) % 2 == 1) = true := beq_iff_eq.2 (by omega)
      rw [this] at h
      cases h
    show Ending.returned (Value.int .u32 ((s : Int) / 2)) = _
    rw [crcStep, if_neg h']
    rfl
/-- The table as it is built: i rows are whole, row i is j bits on. -/
def tabF (i v : Nat) : Nat → Nat := fun p => if p < i then crcTab p else if p = i then v else 0
theorem tabF_set (i v u : Nat) : (fun p => if p = i then u else tabF i v p) = tabF i u := by
  funext p
  unfold tabF
  by_cases h : p = i
  · rw [if_pos h, if_neg (by omega), if_pos h]
  · rw [if_neg h]
    by_cases h2 : p < i
    · rw [if_pos h2, if_pos h2]
    · rw [if_neg h2, if_neg h2, if_neg h, if_neg h]
theorem tabF_next (i : Nat) : tabF i (crcTab i) = tabF (i + 1) 0 := by
  funext p
  unfold tabF
  by_cases h : p < i
  · rw [if_pos h, if_pos (by omega)]
  · rw [if_neg h]
    by_cases h2 : p = i
    · subst h2
      rw [if_pos rfl, if_pos (by omega)]
    · rw [if_neg h2, if_neg (by omega)]
      split <;> rfl
@[irreducible] def crcC : Array Value := arrK .u32 256 crcTab
@[irreducible] def tabC (i v : Nat) : Array Value := arrK .u32 256 (tabF i v)
theorem tabC_set {i v u : Nat} (h : i < 256) : (tabC i v).setIfInBounds i (.int .u32 (u : Int)) = tabC i u := by
  unfold tabC
  rw [arrK_set h, tabF_set]
theorem tabC_get {i v : Nat} (h : i < 256) : (tabC i v)[i]? = some (.int .u32 (v : Int)) := by
  unfold tabC
  rw [arrK_get h]
  unfold tabF
  rw [if_neg (by omega), if_pos rfl]
theorem tabC_next (i : Nat) : tabC i (crcIt 8 i) = tabC (i + 1) 0 := by
  unfold tabC
  rw [← tabF_next]
  rfl
theorem tabC_zero : Array.replicate 256 (Value.int .u32 0) = tabC 0 0 := by
  unfold tabC
  rw [arrK_zero]
  exact arrK_congr fun i hi => by
    unfold tabF
    rw [if_neg (by omega)]
    split <;> rfl
theorem tabC_end (v : Nat) : tabC 256 v = crcC := by
  unfold tabC crcC
  exact arrK_congr fun i hi => by
    unfold tabF
    rw [if_pos hi]
theorem crcC_get {i : Nat} (h : i < 256) : crcC[i]? = some (.int .u32 ((crcTab i : Nat) : Int)) := by
  unfold crcC
  exact arrK_get h
theorem crcC_size : crcC.size = 256 := by unfold crcC; exact arrK_size _ _ _
theorem tabC_size (i v : Nat) : (tabC i v).size = 256 := by unfold tabC; exact arrK_size _ _ _
theorem table_ret {w w' : World} {tmps : Array Value} {g : Nat} (hp : tmps.getD 0 undef = .pointer (some ⟨g, 0, none⟩)) (hb : Bk w' g 227 crcC) (hz : (Tryz.prog.info? 227).map (·.size) = some crcC.size) (hk : Below w.heap.size w w') :
    bodyPost Tryz.prog Tryz.f210 (fun e w' => e = .returned (.agg crcC) ∧ Below w.heap.size w w') .ret ⟨tmps, []⟩ w' :=
  bodyPost_ret (results_cell_row (P := Tryz.prog) (fn := Tryz.f210) (p := 0) (ty := 227) rfl tmps w' g 227 crcC (0, 0) _ hp hb Tryz.underlying227 rfl hz) rfl ⟨rfl, hk⟩
theorem xor32 (y : Nat) (h : y < 4294967296) : bits .xor .u32 IntKind.u32.max (y : Int) = ((4294967295 - y : Nat) : Int) := by
  have e : IntKind.u32.max = ((4294967295 : Nat) : Int) := by decide
  rw [e, bits_xor_u32 _ _ (by omega) h]
  congr 1
  have e1 : (4294967295 : Nat) ^^^ y = (BitVec.allOnes 32 ^^^ BitVec.ofNat 32 y).toNat := by
    rw [BitVec.toNat_xor, BitVec.toNat_ofNat, Nat.mod_eq_of_lt (by omega : y < 2 ^ 32)]
    rfl
  rw [e1, BitVec.allOnes_xor, BitVec.toNat_not, BitVec.toNat_ofNat, Nat.mod_eq_of_lt (by omega : y < 2 ^ 32)]
set_option maxRecDepth 100000 in
theorem CrcTable_any (w : World) :
    Calls Tryz.prog 210 #[] w fun e w' => e = .returned (.agg crcC) ∧ Below w.heap.size w w' := by
  go_enter Tryz.func210, Tryz.ntmps210
  go_wp2_with fail
  go_loopw [3] (fun i wr => ∃ (k : Nat) (v : Nat), k ≤ 256 ∧ i = .int .i64 (k : Int) ∧ Bk wr w.heap.size 227 (tabC 0 0) ∧ Bk wr (w.heap.size + 1) 227 (tabC k v) ∧ (k < 256 → v = 0) ∧ Below w.heap.size w wr) (fun i _ => 256 - (intOf i).toNat)
  case atStart =>
    refine ⟨0, 0, by omega, rfl, ?_, ?_, fun _ => rfl, ?_⟩
    · rw [← tabC_zero]
      exact (Bk.new _ _ _).alloc _
    · rw [← tabC_zero]
      have h2 := Bk.new (w.alloc (.cells Tryz.zeroCells227 227)) 227 Tryz.zeroCells227
      rw [show (w.alloc (.cells Tryz.zeroCells227 227)).heap.size = w.heap.size + 1 by simp] at h2
      exact h2
    · exact ((Below.refl _ _).alloc (Nat.le_refl _) _).alloc (by simp) _
  case round =>
    obtain ⟨k, v, hk, rfl, hb0, hb1, hv, hb⟩ := hrel
    by_cases hlt : k < 256
    · have hv0 := hv hlt
      subst hv0
      have h1 : ((k : Int) < 256) := by omega
      have c1 : wr.cell? ⟨w.heap.size + 1, k, none⟩ = some (.int .u32 0) := (hb1.cell k).trans (tabC_get hlt)
      have f1 := hb1.frozen k
      go_wp2_with fail
      go_loopw [10] (fun i w2 => ∃ j : Nat, j ≤ 8 ∧ i = .int .i64 (j : Int) ∧ Bk w2 w.heap.size 227 (tabC 0 0) ∧ Bk w2 (w.heap.size + 1) 227 (tabC k (crcIt j k)) ∧ Below w.heap.size w w2) (fun i _ => 8 - (intOf i).toNat)
      case atStart =>
        refine ⟨0, by omega, rfl, hb0.far (by simp) _, ?_, hb.setCell (by simp) _⟩
        have := hb1.set k (.int .u32 (k : Int))
        rw [tabC_set hlt] at this
        exact this
      case round =>
        obtain ⟨j, hj, rfl, hi0, hi1, hi⟩ := hrel
        by_cases hlj : j < 8
        · have hj1 : ((j : Int) < 8) := by omega
          have c2 : wr.cell? ⟨w.heap.size + 1, k, none⟩ = some (.int .u32 ((crcIt j k : Nat) : Int)) := (hi1.cell k).trans (tabC_get hlt)
          go_wp2_with fail
          refine (CrcStep_any (crcIt j k) (crcIt_lt (by omega) j) _).mono ?_
          rintro e w3 ⟨rfl, hb3⟩
          have hk1 := hi1.below hb3 hi1.lt
          have hk0 := hi0.below hb3 hi0.lt
          have c3 : w3.cell? ⟨w.heap.size + 1, k, none⟩ = some (.int .u32 ((crcIt j k : Nat) : Int)) := (hk1.cell k).trans (tabC_get hlt)
          have f3 := hk1.frozen k
          go_wp2_with fail
          go_roundw
          case rel =>
            refine ⟨j + 1, by omega, by go_num, hk0.far (by simp) _, ?_, (hi.trans (hb3.mono hi.size)).setCell (by simp) _⟩
            have := hk1.set k (.int .u32 ((crcStep (crcIt j k) : Nat) : Int))
            rw [tabC_set hlt] at this
            exact this
          case measure => simp [intOf]; omega
        · have hks : j = 8 := by omega
          subst hks
          go_wp2_with fail
          go_roundw
          case rel =>
            rw [tabC_next] at hi1
            exact ⟨k + 1, 0, by omega, by go_num, hi0, hi1, fun _ => rfl, hi⟩
          case measure => simp [intOf]; omega
    · have hks : k = 256 := by omega
      subst hks
      rw [tabC_end] at hb1
      have H0 := Lib.hid hb0
      have H1 := Lib.hid hb1
      clear hb0 hb1
      have hsz : (Tryz.prog.info? 227).map (·.size) = some crcC.size := by rw [crcC_size]; kernel_rfl
      have hone : crcC.all (·.oneCell') = true := by
        unfold crcC arrK
        rw [Array.all_eq_true_iff_forall_mem]
        intro v hv
        rw [List.mem_toArray, List.mem_map] at hv
        obtain ⟨p, _, rfl⟩ := hv
        rfl
      have HZ := Lib.hid hsz
      have HO := Lib.hid hone
      clear hsz hone
      go_wp2_with (first | (refine wpList_load_row (P := Tryz.prog) rfl 227 (.tmp 1) rfl (w.heap.size + 1) rfl 227 crcC (0, 0) _ H1.out Tryz.underlying227 rfl HZ.out ?_) | (refine wpList_store_row (P := Tryz.prog) rfl 227 (.tmp 0) (.tmp 20) rfl w.heap.size crcC rfl rfl 227 (tabC 0 0) H0.out HZ.out (by rw [tabC_size, crcC_size]) HO.out ?_))
      exact table_ret rfl (setRow_heap wr w.heap.size _ crcC _ _ H0.out) HZ.out (below_setRow hb (Nat.le_refl _) _)
set_option maxRecDepth 100000 in
theorem CrcMore_any (s : Nat) (hs : s < 4294967296) (A : Option Addr) (n c : Nat) (b : List UInt8) (w : World) (hr : Rd w w.heap.size 1 A n (b.map bv)) (hn : n ≤ 1099511627776) :
    Calls Tryz.prog 180 #[.int .u32 (s : Int), .slice A n c] w fun e w' => e = .returned (.int .u32 ((crcMore s b : Nat) : Int)) ∧ Below w.heap.size w w' := by
  have hbl : b.length = n := by have := hr.1; simpa using this
  have H := Lib.hid hr
  clear hr
  have hsz : (Tryz.prog.info? 227).map (·.size) = some crcC.size := by rw [crcC_size]; kernel_rfl
  have hone : crcC.all (·.oneCell') = true := by
    unfold crcC arrK
    rw [Array.all_eq_true_iff_forall_mem]
    intro v hv
    rw [List.mem_toArray, List.mem_map] at hv
    obtain ⟨p, _, rfl⟩ := hv
    rfl
  have HZ := Lib.hid hsz
  have HO := Lib.hid hone
  clear hsz hone
  go_enter Tryz.func180, Tryz.ntmps180
  go_wp2_with fail
  refine (CrcTable_any _).mono ?_
  rintro e w1 ⟨rfl, hb1⟩
  go_wp2_with (refine wpList_store_row (P := Tryz.prog) rfl 227 (.tmp 5) (.tmp 8) rfl w1.heap.size crcC rfl rfl 227 Tryz.zeroCells227 (heap_alloc_new _ _) HZ.out (by rw [crcC_size]; kernel_rfl) HO.out ?_; rw [World.setRow_alloc_new])
  rw [xor32 s hs]
  have hl1 := hb1.size
  go_loopw [0, 13] (fun v i wr => ∃ k : Nat, k ≤ n ∧ i = .int .i64 (k : Int) ∧ v = .int .u32 ((crcGo (b.take k) (4294967295 - s) : Nat) : Int) ∧ Bk wr w1.heap.size 227 crcC ∧ Below w.heap.size w wr) (fun _ i _ => n - (intOf i).toNat)
  case atStart => exact ⟨0, by omega, rfl, by rw [List.take_zero]; rfl, Bk.new _ _ _, hb1.alloc hl1 _⟩
  case round =>
    obtain ⟨k, hk, rfl, rfl, hb2, hb⟩ := hrel
    by_cases hlt : k < n
    · obtain ⟨bk, off, u, rfl, hbb, hu, hcell⟩ := (H.out.below hb).get hlt
      rw [List.getElem?_map] at hu
      obtain ⟨x, hx⟩ : ∃ x, b[k]? = some x := ⟨_, List.getElem?_eq_getElem (by omega)⟩
      rw [hx] at hu
      injection hu with hu
      subst hu
      have hst : b.take (k + 1) = b.take k ++ [x] := by rw [List.take_add_one, hx]; rfl
      have hsn := crcGo_snoc (b.take k) x (4294967295 - s)
      rw [← hst] at hsn
      have hvl := crcGo_lt (b.take k) (4294967295 - s) (by omega)
      obtain ⟨v, hv⟩ : ∃ v, crcGo (b.take k) (4294967295 - s) = v := ⟨_, rfl⟩
      rw [hv] at hsn hvl
      rw [hv]
      have hin := crc_in hvl x
      have hxl := x.toNat_lt
      have e1 : bits .xor .u8 ((v : Int) % 256) (x.toNat : Int) = (((v % 256) ^^^ x.toNat : Nat) : Int) := by
        have : ((v : Int) % 256) = ((v % 256 : Nat) : Int) := by omega
        rw [this, bits_xor_u8 _ _ (by omega) hxl]
      obtain ⟨y, hy⟩ : ∃ y, (v % 256) ^^^ x.toNat = y := ⟨_, rfl⟩
      rw [hy] at hsn hin e1
      have c1 : wr.cell? ⟨w1.heap.size, y, none⟩ = some (.int .u32 ((crcTab y : Nat) : Int)) := (hb2.cell y).trans (crcC_get hin)
      have e2 : bits .xor .u32 ((crcTab y : Nat) : Int) ((v : Int) / 256) = ((crcTab y ^^^ (v / 256) : Nat) : Int) := by
        have : ((v : Int) / 256) = ((v / 256 : Nat) : Int) := by omega
        rw [this, bits_xor_u32 _ _ (crcTab_lt hin) (by omega)]
      unfold bv at hcell
      go_wp2_with fail
      go_roundw
      case rel => exact ⟨k + 1, by omega, by go_num, by rw [hsn], hb2, hb⟩
      case measure => simp [intOf]; omega
    · have hks : k = n := by omega
      subst hks
      rw [List.take_of_length_le (by omega : b.length ≤ k)]
      have e1 := xor32 _ (crcGo_lt b (4294967295 - s) (by omega))
      go_wp2_with fail
      go_ret
      exact ⟨rfl, hb⟩
set_option maxRecDepth 100000 in
/-- The sum of one part. -/
theorem CrcOf_any (A AP : Option Addr) (n c cp : Nat) (b : List UInt8) (w : World) (hr : Rd w w.heap.size 1 A n (b.map bv)) (hn : n ≤ 1099511627776) (hp : Rd w w.heap.size 1 AP 1 [.slice A n c]) :
    Calls Tryz.prog 123 #[.slice AP 1 cp] w fun e w' => e = .returned (.int .u32 ((crcB b : Nat) : Int)) ∧ Below w.heap.size w w' := by
  obtain ⟨bk, off, u, rfl, hbb, hu, hcell⟩ := hp.get (k := 0) (by omega)
  injection hu with hu
  subst hu
  go_enter Tryz.func123, Tryz.ntmps123
  go_wp2_with fail
  go_loopw [3, 8] (fun v i wr => ∃ k : Nat, k ≤ 1 ∧ i = .int .i64 (k : Int) ∧ v = .int .u32 (((if k = 0 then 0 else crcB b) : Nat) : Int) ∧ Below w.heap.size w wr) (fun _ i _ => 1 - (intOf i).toNat)
  case atStart => exact ⟨0, by omega, rfl, rfl, Below.refl _ _⟩
  case round =>
    obtain ⟨k, hk, rfl, rfl, hb⟩ := hrel
    by_cases hlt : k < 1
    · have hks : k = 0 := by omega
      subst hks
      have hcell : wr.cell? ⟨bk, off, none⟩ = some (.slice A n c) := (hb.cell hbb).trans hcell
      rw [if_pos rfl]
      go_wp2_with fail
      refine (CrcMore_any 0 (by omega) A n c b wr ((hr.below hb).mono hb.size) hn).mono ?_
      rintro e w1 ⟨rfl, hb1⟩
      go_wp2_with fail
      go_roundw
      case rel => exact ⟨1, by omega, rfl, rfl, hb.trans (hb1.mono hb.size)⟩
      case measure => simp [intOf]
    · have hks : k = 1 := by omega
      subst hks
      rw [if_neg (by omega)]
      go_wp2_with fail
      go_ret
      exact ⟨rfl, hb⟩
end Go.Proofs.YtnileogagoipiaaGreatDoor
namespace Go.Proofs.YtnileogagoipiaaGreatDoor
open Go.RowKit
set_option linter.unusedVariables false
set_option linter.unusedSimpArgs false
theorem encB_len11 (n : Nat) : (encB n).length ≤ 11 := encB_len n
set_option maxRecDepth 100000 in
set_option maxHeartbeats 1000000 in
theorem SnapPart_any (A : Option Addr) (n c B : Nat) (b : List UInt8) (w : World) (hr : Rd w B 1 A n (b.map bv)) (hB : B ≤ w.heap.size) (hn : n ≤ 1000000) :
    Calls Tryz.prog 121 #[.slice A n c] w fun e w' => ∃ A' c', e = .returned (.slice A' (partB b).length c') ∧ Made w' w.heap.size 5 1 A' (partB b).length c' ((partB b).map bv) ∧ Below w.heap.size w w' := by
  have hbl : b.length = n := by have := hr.1; simpa using this
  obtain ⟨k0, hk0⟩ : ∃ k0, (encB n).length = k0 := ⟨_, rfl⟩
  have hk1 : k0 ≤ 11 := by rw [← hk0]; exact encB_len n
  obtain ⟨N, hN⟩ : ∃ N, (partB b).length = N := ⟨_, rfl⟩
  have hN2 : N ≤ 2000000 := by rw [← hN, partB_len, hbl, hk0]; omega
  have H := Lib.hid (hr.mono hB)
  have Hk0 := Lib.hid hk0
  have HN := Lib.hid hN
  have Hbl := Lib.hid hbl
  have hcl := crcB_lt b
  rw [hN]
  clear hr hk0 hN hbl
  go_enter Tryz.func121, Tryz.ntmps121
  go_wp2_with fail
  refine (Put_is _ _ _ _ [n] _ (encB n) k0 (encAll_one n) Hk0.out (Rd.made _ _ 1 1 _ rfl) (Nat.le_refl _) (by simp; omega) (by omega)).mono ?_
  rintro e w1 ⟨A1, c1, rfl, hm1, hb1⟩
  have hb1' := ((Below.refl w.heap.size w).alloc (Nat.le_refl _) _).trans (hb1.mono (by simp))
  have hr1 := hm1.rd
  have HA1 := Lib.hid (H.out.below hb1')
  have Hr1 := Lib.hid hr1
  have Hb1 := Lib.hid hb1'
  have hs1 := hb1'.size
  clear hm1 hb1 hb1' hr1
  go_wp2_with fail
  refine (CrcOf_any A _ n c _ b _ (((HA1.out.alloc hs1 _).mono (by simp; omega))) (by omega) (Rd.made _ _ 1 1 _ rfl)).mono ?_
  rintro e w2 ⟨rfl, hb2⟩
  have hb12 := ((Below.refl w1.heap.size w1).alloc (Nat.le_refl _) _).trans (hb2.mono (by simp))
  have HA2 := Lib.hid (HA1.out.below (hb12.mono hs1))
  have Hr2 := Lib.hid (Hr1.out.below hb12)
  have Hb2 := Lib.hid (Hb1.out.trans (hb12.mono hs1))
  have hs2 := hb12.size
  clear hb12 hb2 HA1 Hr1 Hb1
  go_wp2_with fail
  refine (Fixed_any (crcB b) _).mono ?_
  rintro e w3 ⟨A3, c3, rfl, hm3, hb3⟩
  have hr3 := hm3.rd
  have HA3 := Lib.hid (HA2.out.below (hb3.mono (by omega)))
  have Hr3 := Lib.hid (Hr2.out.below (hb3.mono (by omega)))
  have Hf3 := Lib.hid hr3
  have Hb3 := Lib.hid (Hb2.out.trans (hb3.mono (by omega)))
  have hs3 := hb3.size
  clear hb3 hm3 hr3 HA2 Hr2 Hb2
  go_wp2_with fail
  have hcat := Concat_any (some ⟨w3.heap.size, 0, none⟩) 3 3 (w3.heap.size + 1) [⟨A1, k0, c1, encB n⟩, ⟨A, n, c, b⟩, ⟨A3, 4, c3, fixB (crcB b)⟩] (partB b) N (by unfold partB; rw [Hbl.out]; simp [catS]) HN.out (w3.alloc (.cells #[.slice A1 k0 c1, .slice A n c, .slice A3 4 c3] 22)) ((Rd.made w3 _ 1 3 _ rfl).mono (by simp)) (by
    intro s hs
    simp at hs
    rcases hs with rfl | rfl | rfl
    · exact (Hr3.out.mono (by omega)).alloc (by omega) _ |>.mono (by omega)
    · exact (HA3.out.mono (by omega)).alloc (by omega) _ |>.mono (by omega)
    · exact (Hf3.out.alloc (by omega) _).mono (by omega)) (by simp) (by omega) (by omega)
  refine hcat.mono ?_
  clear hcat
  rintro e w4 ⟨A4, c4, rfl, hm4, hb4⟩
  have Hm4 := Lib.hid (hm4.mono (B' := w.heap.size) (by simp; have := Hb3.out.size; omega))
  have Hb4 := Lib.hid (Hb3.out.trans ((((Below.refl w3.heap.size w3).alloc (Nat.le_refl _) _).trans (hb4.mono (by simp))).mono Hb3.out.size))
  clear hm4 hb4
  go_wp2_with fail
  go_ret
  exact ⟨_, _, rfl, Hm4.out, Hb4.out⟩
end Go.Proofs.YtnileogagoipiaaGreatDoor
namespace Go.Proofs.YtnileogagoipiaaGreatDoor
open Go.RowKit
set_option linter.unusedVariables false
set_option linter.unusedSimpArgs false
def rdrC (A : Option Addr) (n c at_ : Nat) : Array Value := #[.slice A n c, .int .i64 (at_ : Int), .bool false]
set_option maxRecDepth 100000 in
theorem Number_any (gr : Nat) (A : Option Addr) (n c B at_ to v most : Nat) (l : List UInt8) (w : World) (hb : Bk w gr 157 (rdrC A n c at_)) (hr : Rd w B 1 A n (l.map bv)) (hnc : n ≤ c) (hcm : c ≤ maxLen) (hg : getNB l (at_ : Int) = (v, (to : Int), 0)) (hv : v ≤ most) (hm : most ≤ 4611686018427387904) :
    Calls Tryz.prog 125 #[.pointer (some ⟨gr, 0, none⟩), .int .i64 (most : Int)] w fun e w' => e = .returned (.int .i64 (v : Int)) ∧ Bk w' gr 157 (rdrC A n c to) ∧ Keep (fun b => b = gr) w w' := by
  have c0 : w.cell? ⟨gr, 0, none⟩ = some (.slice A n c) := hb.cell 0
  have c1 : w.cell? ⟨gr, 1, none⟩ = some (.int .i64 (at_ : Int)) := hb.cell 1
  have f1 := hb.frozen 1
  have H := Lib.hid hb
  have Hr := Lib.hid hr
  have Hg := Lib.hid hg
  have Hcm := Lib.hid hcm
  have n1 : ¬ ((v : Int) > (most : Int)) := by omega
  have n2 : decide ((v : Int) > (most : Int)) = false := decide_eq_false n1
  have n3 : ¬ most < v := by omega
  have n4 : decide (most < v) = false := decide_eq_false n3
  have n5 : IntKind.u64.wrap (most : Int) = (most : Int) := by rw [IntKind.wrap_u64]; omega
  have n6 : IntKind.i64.wrap (v : Int) = (v : Int) := by rw [IntKind.wrap_i64]; omega
  clear hb hr hg hcm
  go_enter Tryz.func125, Tryz.ntmps125
  go_wp2_with fail
  go_quiet (exact quiet_left (Get_is A n c l (at_ : Int) B _ v (to : Int) 0 Hg.out (Hr.out.drewN _) hnc Hcm.out))
  go_wp2_with fail
  go_ret
  exact ⟨rfl, (H.out.drewN nq).set 1 _, ((Keep.refl (fun b => b = gr) w).drewN nq).setCell (p := ⟨gr, 1, none⟩) (.inl rfl) _⟩
set_option maxRecDepth 100000 in
theorem ReadPart_any (gr : Nat) (A : Option Addr) (n c B at_ q k to : Nat) (l : List UInt8) (w : World) (hb : Bk w gr 157 (rdrC A n c at_)) (hr : Rd w B 1 A n (l.map bv)) (hnc : n ≤ c) (hcm : c ≤ maxLen) (hnm : n ≤ 1099511627776) (hg : getNB l (at_ : Int) = (k, (q : Int), 0)) (hq : q + (k + 4) = to) (ht : to ≤ n) :
    Calls Tryz.prog 126 #[.pointer (some ⟨gr, 0, none⟩)] w fun e w' => e = .returned (.slice (cutA A c q 1) k (c - q)) ∧ Bk w' gr 157 (rdrC A n c to) ∧ Keep (fun b => b = gr) w w' := by
  have hnum := Number_any gr A n c B at_ q k n l w hb hr hnc hcm hg (by omega) (by omega)
  have c0 : w.cell? ⟨gr, 0, none⟩ = some (.slice A n c) := hb.cell 0
  clear hb hr hg
  go_enter Tryz.func126, Tryz.ntmps126
  go_wp2_with fail
  refine hnum.mono ?_
  clear hnum
  rintro e w1 ⟨rfl, hb1, hk1⟩
  have d0 : w1.cell? ⟨gr, 0, none⟩ = some (.slice A n c) := hb1.cell 0
  have d1 : w1.cell? ⟨gr, 1, none⟩ = some (.int .i64 (q : Int)) := hb1.cell 1
  have d2 : w1.cell? ⟨gr, 2, none⟩ = some (.bool false) := hb1.cell 2
  have f1 := hb1.frozen 1
  have H1 := Lib.hid hb1
  have K1 := Lib.hid hk1
  obtain ⟨m, hm⟩ : ∃ m, n - q = m + 4 := ⟨n - q - 4, by omega⟩
  have n1 : IntKind.i64.wrap ((n : Int) - (q : Int)) = ((m + 4 : Nat) : Int) := by rw [IntKind.wrap_i64]; omega
  have n2 : IntKind.i64.wrap (((m + 4 : Nat) : Int) - 4) = (m : Int) := by rw [IntKind.wrap_i64]; omega
  have n3 : ¬ ((k : Int) > (m : Int)) := by omega
  have n4 : decide ((k : Int) > (m : Int)) = false := decide_eq_false n3
  have n5 : ¬ m < k := by omega
  have n6 : decide (m < k) = false := decide_eq_false n5
  clear hb1 hk1 c0
  go_wp2_with fail
  go_quiet (fail)
  go_wp2_with fail
  have e1 : ((q : Int) + ((k : Int) + 4)) = (to : Int) := by omega
  rw [e1]
  have H2 := (H1.out.drewN nq).set 1 (.int .i64 (to : Int))
  have K2 := (K1.out.drewN nq).setCell (p := ⟨gr, 1, none⟩) (.inl rfl) (.int .i64 (to : Int))
  generalize (w1.drewN nq).setCell ⟨gr, 1, none⟩ (.int .i64 (to : Int)) = w2 at H2 K2 ⊢
  have g0 : w2.cell? ⟨gr, 0, none⟩ = some (.slice A n c) := H2.cell 0
  have g1 : w2.cell? ⟨gr, 1, none⟩ = some (.int .i64 (to : Int)) := H2.cell 1
  have H3 := Lib.hid H2
  have K3 := Lib.hid K2
  obtain ⟨to4, ht4⟩ : ∃ x, q + k = x := ⟨_, rfl⟩
  have n7 : IntKind.i64.wrap ((to : Int) - (k : Int)) = ((q + 4 : Nat) : Int) := by rw [IntKind.wrap_i64]; omega
  have n8 : IntKind.i64.wrap (((q + 4 : Nat) : Int) - 4) = (q : Int) := by rw [IntKind.wrap_i64]; omega
  have n9 : IntKind.i64.wrap ((to : Int) - 4) = (to4 : Int) := by rw [IntKind.wrap_i64]; omega
  have kr := fun w => run_cut_lohi (P := Tryz.prog) 22 5 1 Tryz.underlying22 (fun w => by kernel_rfl) A n c q to4 (by omega) (by omega) w
  have ek : to4 - q = k := by omega
  rw [ek] at kr
  have hql : q ≤ 1099511627776 := by omega
  have htl : to ≤ 1099511627776 := by omega
  have htq : q + k + 4 = to := by omega
  clear H2 K2 H1 K1 d0 d1 d2 f1 hm n1 n2 n3 n4 n5 n6 ek
  go_quiet (fail)
  go_wp2_with fail
  go_ret
  exact ⟨rfl, H3.out.drewN _, K3.out.drewN _⟩
end Go.Proofs.YtnileogagoipiaaGreatDoor
namespace Go.Proofs.YtnileogagoipiaaGreatDoor
set_option linter.unusedVariables false
set_option linter.unusedSimpArgs false
theorem sruns_mem (m : List Int) (x : Int × Nat) (h : x ∈ runsOf m) : x.1 ∈ m := by
  have h1 := (runsOf_ok m).1 x h
  have h2 : x.1 ∈ expand (runsOf m) := List.mem_flatMap.2 ⟨x, h, List.mem_replicate.2 ⟨by omega, rfl⟩⟩
  rwa [expand_runs] at h2
theorem symsI_ok {L : List Nat} (h : ∀ x ∈ L, x < 257) : ∀ x ∈ runsOf (symsI L), symOk x.1 := by
  intro x hx
  obtain ⟨y, hy, e⟩ := List.mem_map.1 (sruns_mem _ x hx)
  have := h y hy
  unfold symOk
  omega
theorem symsI_len (L : List Nat) : (symsI L).length = L.length := by simp [symsI]
theorem firstB_put {L : List Nat} (h : ∀ x ∈ L, x < 257) : putRuns (symsI L) = some (firstB L) := by
  unfold putRuns
  rw [if_pos (symsI_ok h)]
  rfl
theorem firstB_len (L : List Nat) : (firstB L).length ≤ 11 + 22 * L.length := by
  unfold firstB
  have h1 := flatRun_len (runsOf (symsI L))
  have h2 := runsOf_len (symsI L)
  have h3 := encB_len (runsOf (symsI L)).length
  rw [symsI_len] at h2
  have e : runBytes (runsOf (symsI L)) = encB (runsOf (symsI L)).length ++ (runsOf (symsI L)).flatMap runByte := by simp [runBytes]
  rw [e, List.length_append]
  omega
/-- The first k sampled places' rows. -/
def secK (rs : List Nat) (rate k : Nat) : List UInt8 := (List.range k).flatMap fun k => encB (rs.idxOf (k * rate))
theorem secK_succ (rs : List Nat) (rate k : Nat) : secK rs rate (k + 1) = secK rs rate k ++ encB (rs.idxOf (k * rate)) := by
  unfold secK
  rw [List.range_succ, List.flatMap_append]
  simp
theorem secK_len (rs : List Nat) (rate k : Nat) : (secK rs rate k).length ≤ 11 * k := by
  induction k with
  | zero => simp [secK]
  | succ k ih =>
    rw [secK_succ, List.length_append]
    have := encB_len (rs.idxOf (k * rate))
    omega
theorem secB_eq (rs : List Nat) (rate N : Nat) : secB rs rate N = secK rs rate (N / rate + 1) := rfl
theorem secK_ge (rs : List Nat) (rate k : Nat) : k ≤ (secK rs rate k).length := by
  induction k with
  | zero => simp
  | succ k ih =>
    rw [secK_succ, List.length_append]
    have := encB_pos (rs.idxOf (k * rate))
    omega
theorem last_k {k rate N : Nat} (hr : 1 ≤ rate) (hk : k ≤ N / rate + 1) (h : ¬ k * rate ≤ N) : k = N / rate + 1 := by
  have h1 : N / rate < k := (Nat.div_lt_iff_lt_mul (by omega)).2 (by omega)
  omega
theorem next_k {k rate N : Nat} (hr : 1 ≤ rate) (h : k * rate ≤ N) : k + 1 ≤ N / rate + 1 := by
  have := (Nat.le_div_iff_mul_le (by omega)).2 h
  omega
end Go.Proofs.YtnileogagoipiaaGreatDoor
