/- A region that draws its order in a round of a range over a function, by the same laws as elsewhere; the contract of slices.Backward's iterator over bytes. No conditions. -/
import Derived.Test.YthkkcelfgcholaaGreatPkI
import Derived.Test.YthkkcelfgcholaaGreatQFnNar
import Derived.RangeFuncNested
import Derived.RangeFuncBound
import Derived.RangeFuncCalls
import Derived.RangeFuncLeaves
import Derived.Shelf.Abstract
import Derived.Shelf.RegionOpen
import Derived.OwnWalkIn
import Derived.TacticsInMore
import Derived.LoopNIn
import Derived.LoopIn
namespace Go.Proofs.YthkkcelfgcholaaGreat
open Go.RowKit Go.Shelf
set_option linter.unusedVariables false
set_option linter.unusedSimpArgs false
attribute [local go_sem] Oper.semAt_some
section
variable {P : Program} {ops : Array Oper} {md : Region.Mode} {Q : Exit → Act → World → Prop} {l n : Nat}
theorem uponIn_of {o : Oper} {a : Act} {K : Act → World → Prop} {r : Result Next} (h : o.upon P a K Q r) : o.uponIn (Fence.wide.inRound l) n P a K Q r := by
  cases r with
  | ok x w =>
    cases x with
    | value v => exact h
    | skip => exact h
    | defer d => exact h
    | enter f args =>
      refine ⟨fun h => (by simp [Fence.wide] at h), CallsIn.inRound l (callsIn_wide.2 (Calls.mono h ?_))⟩
      intro e w' he
      cases e <;> exact he
    | row row args =>
      refine ⟨fun h => (by simp [Fence.wide] at h), fun c cs _ => ?_⟩
      obtain ⟨v, w', hr, hs⟩ := h c cs
      exact ⟨v, w', hr, stepsIn_wide.2 hs⟩
    | _ => exact h.elim
  | halt x w => cases x <;> exact h
theorem wpAnyIn_of (hno : ¬ LetsOut Q) (hd : ∀ (i : Nat) (o : Oper), ops[i]? = some o → ∀ c, o.op ≠ .defer c) : ∀ (f : Nat) (listed : Array Bool) (a : Act) (w : World), wpAny P md ops Q f listed a w → wpAnyIn (Fence.wide.inRound l) n P md ops Q f listed a w := by
  intro f
  induction f with
  | zero => intro listed a w h; exact h
  | succ f ih =>
    intro listed a w h
    refine ⟨h.1, fun i hi => ?_⟩
    have h1 := h.2 i hi
    unfold wpOp at h1
    unfold wpOpIn
    cases ho : ops[i]? with
    | none =>
      rw [ho] at h1
      exact ih _ _ _ h1
    | some o =>
      rw [ho] at h1
      simp only at h1 ⊢
      by_cases hw : Region.wanted o (yielded ops a.tmps) = true
      · rw [if_pos hw] at h1 ⊢
        rcases h1 with h1 | h1
        · refine ⟨fun _ _ => trivial, ?_⟩
          rw [Oper.semAt_eq _ _ _ (hd i o ho)]
          exact uponIn_of (Oper.wp_mono (fun a w => ih _ a w) h1)
        · exact absurd h1.2 hno
      · rw [if_neg hw] at h1 ⊢
        exact ⟨fun _ _ => trivial, ih _ _ _ h1⟩
end
/-- What a round must leave alone for the iterator: the cells of two blocks. -/
def KpB (b1 b2 : Nat) (W W' : World) : Prop := ∀ p : Addr, (p.block = b1 ∨ p.block = b2) → W'.cell? p = W.cell? p
theorem KpB.trans {b1 b2 : Nat} {A B C : World} (h : KpB b1 b2 A B) (k : KpB b1 b2 B C) : KpB b1 b2 A C := fun p hp => (k p hp).trans (h p hp)
/-- What has come when k rounds are over: the last k bytes, the last first. -/
def bkL (zs : List UInt8) (k : Nat) : List (Nat × UInt8) := (List.range k).map fun i => (zs.length - 1 - i, zs.getD (zs.length - 1 - i) 0)
theorem bkL_succ (zs : List UInt8) (k : Nat) : bkL zs (k + 1) = bkL zs k ++ [(zs.length - 1 - k, zs.getD (zs.length - 1 - k) 0)] := by simp [bkL, List.range_succ]
theorem bkL_len (zs : List UInt8) (k : Nat) : (bkL zs k).length = k := by simp [bkL]
set_option maxRecDepth 100000 in
set_option maxHeartbeats 2000000 in
theorem Backward1_in (F : Fence) (n : Nat) (hf : F.fn 103) (hro : F.round = none) (hn : 1 ≤ n) (l Bs b off cap : Nat) (A : Option Addr) (zs : List UInt8) (hA : 0 < zs.length → A = some ⟨b, off, none⟩) (hreach : zs.length ≤ 1000000) (J Jx : List (Nat × UInt8) → World → Prop)
    (hY : ∀ pre x W, J pre W → pre.length < zs.length → YieldAt F (n - 1) Tryz.prog l #[.int .i64 (x.1 : Int), .int .u8 (x.2.toNat : Int)] W fun e W' =>
      (e = .returned (.bool true) ∧ J (pre ++ [x]) W' ∧ KpB Bs b W W') ∨ (e = .returned (.bool false) ∧ Jx (pre ++ [x]) W'))
    (W : World) (hBs : W.cell? ⟨Bs, 0, none⟩ = some (.slice A zs.length cap)) (hc : ∀ j, j < zs.length → W.cell? ⟨b, off + j, none⟩ = some (.int .u8 ((zs.getD j 0).toNat : Int))) (h0 : J [] W) :
    CallsIn F n Tryz.prog 103 #[.func (.yield l) #[] #[], .pointer (some ⟨Bs, 0, none⟩)] W fun e W' => (∃ v, e = .returned v) ∧
      ((∃ ys, ys = bkL zs zs.length ∧ J ys W') ∨ (∃ pre, True ∧ Jx pre W')) := by
  obtain ⟨len, hlen⟩ : ∃ len, zs.length = len := ⟨_, rfl⟩
  rw [hlen] at hBs hreach
  have HA := Lib.hid hA
  have Hlen := Lib.hid hlen
  have HY := Lib.hid hY
  have Hc := Lib.hid hc
  have HB := Lib.hid hBs
  have H0 := Lib.hid h0
  clear hlen hY hc h0 hA
  refine callsIn_of_wp Tryz.func103 rfl hf ?_ hro
  simp only [Tryz.ntmps103, List.size_toArray, List.length_cons, List.length_nil, Nat.reduceAdd, Nat.reduceSub, Array.replicate_succ, Array.replicate_zero, List.push_toArray, List.append_toArray, List.nil_append, List.cons_append]
  gi_wp2
  clear hBs
  gi_loopw [3] (fun i wr => ∃ r : Nat, r ≤ len ∧ i = .int .i64 ((r : Int) - 1) ∧ J (bkL zs (len - r)) wr ∧ KpB Bs b W wr) (fun i _ => (intOf i + 1).toNat)
  case atStart => exact ⟨len, Nat.le_refl _, rfl, by rw [Nat.sub_self]; exact H0.out, fun _ _ => rfl⟩
  case round =>
    obtain ⟨r, hr, rfl, hJ, hk⟩ := hrel
    rcases r with _ | j
    · have e : ((0 : Nat) : Int) - 1 = -1 := by omega
      rw [e]
      rw [Nat.sub_zero] at hJ
      have HJ := Lib.hid hJ
      clear hJ hk
      gi_wp2
      go_end0
      exact ⟨⟨_, rfl⟩, .inl ⟨_, rfl, by rw [Hlen.out]; exact HJ.out⟩⟩
    · have e : ((j + 1 : Nat) : Int) - 1 = (j : Int) := by omega
      rw [e]
      have hbk : bkL zs (len - j) = bkL zs (len - (j + 1)) ++ [(j, zs.getD j 0)] := by
        rw [show len - j = (len - (j + 1)) + 1 by omega, bkL_succ, Hlen.out, show len - 1 - (len - (j + 1)) = j by omega]
      have hcB := (hk ⟨Bs, 0, none⟩ (.inl rfl)).trans HB.out
      rw [HA.out (by rw [Hlen.out]; omega)] at hcB
      have hcj := (hk ⟨b, off + j, none⟩ (.inr rfl)).trans (Hc.out j (by rw [Hlen.out]; omega))
      have hjl : j < len := by omega
      obtain ⟨x, hx⟩ : ∃ x, zs.getD j 0 = x := ⟨_, rfl⟩
      rw [hx] at hcj hbk
      obtain ⟨fn, tmps, assign, body, hy, hR⟩ := HY.out (bkL zs (len - (j + 1))) (j, x) wr hJ (by rw [bkL_len, Hlen.out]; omega)
      dsimp only at hy
      have Hbk := Lib.hid hbk
      have Hk := Lib.hid hk
      clear hbk hk hJ e hx
      gi_wp2
      refine hR.mono ?_
      rintro e W3 (⟨rfl, hJ3, hk3⟩ | ⟨rfl, hJx3⟩)
      · have HJ3 := Lib.hid hJ3
        have Hk3 := Lib.hid hk3
        clear hJ3 hk3
        gi_wp2
        go_roundw
        case rel => exact ⟨j, by omega, rfl, by rw [Hbk.out]; exact HJ3.out, Hk.out.trans Hk3.out⟩
        case measure => simp [intOf]
      · have HJ3 := Lib.hid hJx3
        clear hJx3
        gi_wp2
        refine bodyPost_ret (results_none rfl _ _ _) rfl ?_
        exact ⟨⟨_, rfl⟩, .inr ⟨_, trivial, HJ3.out⟩⟩
end Go.Proofs.YthkkcelfgcholaaGreat
