/- As 'Loose10' (one writer, the last operation waits for all the others), where the other operations may look into trees and waves (Vis). No conditions. -/
import Derived.Test.YtdpknieiigibfaaLoose10
import Derived.Test.YtdpknieiigibfaaLoose8
import Derived.Test.YtdpknieiigibfaaFnWvMath
namespace Go.Proofs.Ytdpknieiigibfaa
open Go.RowKit Go
set_option linter.unusedVariables false
section
variable {P : Program} {ops : Array Oper} {Q : Exit → Act → World → Prop} {md : Region.Mode}
theorem wpAny_tail3 (n : Nat) (ds : List Nat) (C : World → Prop) (S : Nat → World → World → Prop) (U : Nat → World → Prop) (V : Nat → Value → World → Prop) (a0 : Act)
    (W0 : World) (hds : (ops.toList.take n).filterMap (·.dst) = ds) (hn : n ≤ ops.size) (hlaid : laidB md ops a0.tmps.size = true) (htail : ((List.range ops.size).all fun k => decide (k < n) || (List.range n).all fun i => upB md ops ops.size k i) = true) (hC0 : C W0) (hU0 : ∀ i, U i W0) (hC : ∀ j w w', j < n → C w → S j w w' → C w')
    (hU : ∀ i j w w', j < n → i ≠ j → upB md ops ops.size j i = false → U i w → C w → S j w w' → U i w')
    (hstab : ∀ i j v w w', j < n → i ≠ j → aftB md ops i j = false → V i v w → C w → S j w w' → V i v w')
    (hstep : ∀ j o, j < n → ops[j]? = some o → StepOk3 P ops Q md C S U V a0 j o)
    (hend : ∀ (ev : Operand → Value) w f, C w → (∀ i d, i < n → ((ops[i]?).bind (·.dst)) = some d → V i (ev (.tmp d)) w) → (∀ i, i < n → ∃ v, V i v w) → wpAny P md ops Q (ops.size - n + f) (firstN n ops.size) (putsOf ev ds a0) w) :
    wpAny P md ops Q ops.size (Array.replicate ops.size false) a0 W0 := by
  refine wpAny_tail n C S U V a0 W0 hn hlaid htail hC0 hU0 hC hU hstab hstep fun a w f hS hsz hdf hold hval => ?_
  have h1 := hend a.eval w f hS (fun i d hi hd => by
    cases ho : ops[i]? with
    | none => rw [ho] at hd; cases hd
    | some o =>
      rw [ho] at hd
      obtain ⟨v, h1, h2⟩ := hval i o hi ho
      have := h1 d hd
      change V i (a.tmps.getD d undef) w
      rw [this]
      exact h2) (fun i hi => by
    obtain ⟨v, _, h2⟩ := hval i _ hi (Array.getElem?_eq_getElem (Nat.lt_of_lt_of_le hi hn))
    exact ⟨v, h2⟩)
  rw [← act_puts a a0 ds hsz hdf fun t ht => hold t fun k p hk hp hd => ht ?_] at h1
  · exact h1
  · rw [← hds]
    refine List.mem_filterMap.2 ⟨p, ?_, hd⟩
    have hk2 : (ops.toList.take n)[k]? = some p := by
      rw [List.getElem?_take, if_pos hk, Array.getElem?_toList]
      exact hp
    exact List.mem_of_getElem? hk2
end
/-- Where blocks of F are written besides. -/
def VFB (B : Nat) (F : Nat → Prop) (w w' : World) : Prop := VisF F w w' ∧ Keep (fun b => F b ∨ B ≤ b) w w'
section
variable {B : Nat} {F : Nat → Prop} {w w1 w' : World}
theorem VFB.of_vb (h : VB B w w') : VFB B F w w' := ⟨VisF.of_vis h.1, h.2.mono fun _ _ f => .inr f⟩
theorem VFB.trans (h : VFB B F w w1) (k : VFB B F w1 w') : VFB B F w w' := ⟨h.1.trans k.1, h.2.trans k.2⟩
theorem VFB.put (h : VFB B F w w1) {p : Addr} (hp : F p.block ∨ w.heap.size ≤ p.block) (u : Value) : VFB B F w (w1.setCell p u) := ⟨VisF.put h.1 hp u, h.2.setCell (hp.elim (fun f => .inl (.inl f)) .inr) u⟩
theorem VFB.wider {G : Nat → Prop} (h : VFB B F w w') (hf : ∀ b, F b → G b) : VFB B G w w' := ⟨⟨h.1.os, h.1.tape, h.1.output, h.1.size, fun b hb hn => h.1.block b hb (fun f => hn (hf b f))⟩, h.2.mono fun b _ f => f.elim (fun f => .inl (hf b f)) .inr⟩
theorem VFB.to_vb (h : VFB B F w w') (hf : ∀ b, b < w.heap.size → ¬ F b) : VB B w w' := ⟨h.1.to_vis hf, h.2.mono fun b hb f => f.elim (fun f => absurd f (hf b hb)) id⟩
end
def VStep (B : Nat) (F : Nat → Prop) (J j : Nat) (w w' : World) : Prop := (j = J → VFB B F w w') ∧ (j ≠ J → VB B w w')
theorem vstep_any {B : Nat} {F : Nat → Prop} {J j : Nat} {w w' : World} (h : VStep B F J j w w') : VFB B F w w' := by
  by_cases hj : j = J
  · exact h.1 hj
  · exact VFB.of_vb (h.2 hj)
theorem vstep_vis {B : Nat} {F : Nat → Prop} {J j : Nat} {w w' : World} (h : VB B w w') : VStep B F J j w w' := ⟨fun _ => VFB.of_vb h, fun _ => h⟩
theorem vstep_at {B : Nat} {F : Nat → Prop} {J : Nat} {w w' : World} (h : VFB B F w w') : VStep B F J J w w' := ⟨fun _ => h, fun e => absurd rfl e⟩
theorem wpAny_vis_tail {P : Program} {ops : Array Oper} {Q : Exit → Act → World → Prop} {md : Region.Mode} (B n : Nat) (ds : List Nat) (F : Nat → Prop) (J : Nat) (rd : List Nat) (pre : World → Prop) (pJ : Value → World → Prop) (l : List (Value → World → Prop)) (a0 : Act) (W0 : World)
    (hds : (ops.toList.take n).filterMap (·.dst) = ds) (hn : n ≤ ops.size) (hlaid : laidB md ops a0.tmps.size = true) (htail : ((List.range ops.size).all fun k => decide (k < n) || (List.range n).all fun i => upB md ops ops.size k i) = true)
    (hrd : (rd.all fun i => i == J || upB md ops ops.size J i) = true)
    (hp0 : pre W0) (hp : ∀ w w', pre w → VFB B F W0 w → VB B w w' → pre w') (hJ : StbS (VB B) pJ) (hst : ∀ p ∈ l, StbS (VFB B F) p)
    (hstep : ∀ j o, j < n → ops[j]? = some o → StepOk3 P ops Q md (VFB B F W0) (VStep B F J) (fun i w => rd.contains i = true → pre w) (VsJ J pJ l) a0 j o)
    (hend : ∀ (ev : Operand → Value) w f, VFB B F W0 w → (∀ i d, i < n → ((ops[i]?).bind (·.dst)) = some d → VsJ J pJ l i (ev (.tmp d)) w) → (∀ i, i < n → ∃ v, VsJ J pJ l i v w) → wpAny P md ops Q (ops.size - n + f) (firstN n ops.size) (putsOf ev ds a0) w) :
    wpAny P md ops Q ops.size (Array.replicate ops.size false) a0 W0 := by
  refine wpAny_tail3 n ds (VFB B F W0) (VStep B F J) (fun i w => rd.contains i = true → pre w) (VsJ J pJ l) a0 W0 hds hn hlaid htail (VFB.of_vb (VisK.refl _ _)) (fun _ _ => hp0) (fun j w w' _ h k => h.trans (vstep_any k)) (fun i j w w' _ hij hup hi hC k hir => ?_) (fun i j v w w' _ hij _ hv _ k => ?_) hstep hend
  · by_cases hj : j = J
    · exfalso
      subst hj
      have h2 := List.all_eq_true.1 hrd i (by simpa using hir)
      simp only [hup, Bool.or_false, beq_iff_eq] at h2
      exact hij h2
    · exact hp w w' (hi hir) hC (k.2 hj)
  · unfold VsJ at hv ⊢
    by_cases hi : i = J
    · rw [if_pos hi] at hv ⊢
      exact hJ v w w' hv (k.2 fun e => hij (hi.trans e.symm))
    · rw [if_neg hi] at hv ⊢
      exact stbs_all hst i v w w' hv (vstep_any k)
end Go.Proofs.Ytdpknieiigibfaa
