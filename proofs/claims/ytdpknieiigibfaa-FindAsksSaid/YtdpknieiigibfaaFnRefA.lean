/- The walks of the reference's less, before, begins and In (scrimshawref6). Conditions: places within the text; at most 1000 rows. -/
import Derived.Test.YtdpknieiigibfaaFindLonger
import Derived.BigQuiet
namespace Go.Proofs.Ytdpknieiigibfaa
open Go.RowKit
set_option linter.unusedVariables false
set_option linter.unusedSimpArgs false
theorem ba_size (l : List UInt8) : (⟨l.toArray⟩ : ByteArray).size = l.length := by simp [ByteArray.size]
theorem str_at {t : List UInt8} {a : Nat} {c : UInt8} (h : t[a]? = some c) : ∀ W, (Instr.index 9 (.string ⟨t.toArray⟩) (.int .i64 (a : Int))).run Try.prog W = .ok (.int .u8 (c.toNat : Int)) W := fun W => by
  obtain ⟨h1, h2⟩ := List.getElem?_eq_some_iff.1 h
  rw [run_str_idx (P := Try.prog) 9 Try.underlying9 ⟨t.toArray⟩ a (by rw [ba_size]; exact h1) W]
  congr 4
theorem sufLt_bytes {t : List UInt8} {a b : Nat} {c d : UInt8} (ha : t[a]? = some c) (hb : t[b]? = some d) : sufLt (symL t) a b ↔ c.toNat < d.toNat ∨ (c.toNat = d.toNat ∧ sufLt (symL t) (a + 1) (b + 1)) := by
  rw [sufLt_step, aN_symL t ha, aN_symL t hb]
  constructor
  · rintro (h | ⟨h1, h2⟩)
    · exact .inl (by omega)
    · exact .inr ⟨by omega, h2⟩
  · rintro (h | ⟨h1, h2⟩)
    · exact .inl (by omega)
    · exact .inr ⟨by omega, h2⟩
theorem sufLt_endl {t : List UInt8} {b : Nat} (hb : b < t.length) : sufLt (symL t) t.length b := by
  rw [sufLt_step, aN_end, aN_symL t (List.getElem?_eq_getElem hb)]
  exact .inl (by omega)
theorem sufLt_endr {t : List UInt8} {a : Nat} (ha : a < t.length) : ¬ sufLt (symL t) a t.length := by
  rw [sufLt_step, aN_end, aN_symL t (List.getElem?_eq_getElem ha)]
  rintro (h | ⟨h, _⟩)
  · omega
  · omega
def LessPost (t : List UInt8) (a b : Nat) (w : World) (e : Ending) (w' : World) : Prop := ∃ r : Bool, e = .returned (.bool r) ∧ (r = true ↔ sufLt (symL t) a b) ∧ ∃ q, w' = w.drewN q
set_option maxRecDepth 100000 in
set_option maxHeartbeats 2000000 in
theorem less_any (t : List UInt8) (a b n : Nat) (w : World) (hn : t.length = n) (hn4 : n ≤ 1000) (ha : a ≤ n) (hb : b ≤ n) (hab : a ≠ b) :
    Calls Try.prog 25 #[.string ⟨t.toArray⟩, .int .i64 (a : Int), .int .i64 (b : Int)] w (LessPost t a b w) := by
  have z1 : (⟨t.toArray⟩ : ByteArray).size = n := (ba_size t).trans hn
  have Hn := Lib.hid hn
  clear hn
  go_enter Try.func25, Try.ntmps25
  go_wp2_with fail
  go_loopw [1, 2] (fun x y wr => ∃ a' b' q : Nat, a' ≤ n ∧ b' ≤ n ∧ a' ≠ b' ∧ x = .int .i64 (a' : Int) ∧ y = .int .i64 (b' : Int) ∧ (sufLt (symL t) a b ↔ sufLt (symL t) a' b') ∧ wr = w.drewN q) (fun x _ _ => n - (intOf x).toNat)
  case atStart => exact ⟨a, b, 0, ha, hb, hab, rfl, rfl, Iff.rfl, rfl⟩
  case round =>
    obtain ⟨a', b', q, ha', hb', hne, rfl, rfl, hiff, rfl⟩ := hrel
    have Hiff := Lib.hid hiff
    clear hiff
    by_cases hlt : a' < n ∧ b' < n
    · obtain ⟨h1, h2⟩ := hlt
      have ga : t[a']? = some (t[a']'(by rw [Hn.out]; exact h1)) := List.getElem?_eq_getElem _
      have gb : t[b']? = some (t[b']'(by rw [Hn.out]; exact h2)) := List.getElem?_eq_getElem _
      generalize t[a']'(by rw [Hn.out]; exact h1) = c at ga
      generalize t[b']'(by rw [Hn.out]; exact h2) = d at gb
      have hs := sufLt_bytes ga gb
      have ia := str_at ga
      have ib := str_at gb
      have Hs := Lib.hid hs
      have h1I : (a' : Int) < (n : Int) := by omega
      have h2I : (b' : Int) < (n : Int) := by omega
      clear hs ga gb
      by_cases hcd : c.toNat = d.toNat
      · have hcI : (c.toNat : Int) = (d.toNat : Int) := by omega
        rw [hcI] at ia
        have hab' : sufLt (symL t) a b ↔ sufLt (symL t) (a' + 1) (b' + 1) := by
          rw [Hiff.out, Hs.out]
          constructor
          · rintro (h | h)
            · omega
            · exact h.2
          · exact fun h => .inr ⟨hcd, h⟩
        have Hab' := Lib.hid hab'
        clear hcI hab' hcd
        go_wp2_with fail
        go_quiet (fail)
        go_wp2_with fail
        go_roundw
        case rel => exact ⟨a' + 1, b' + 1, _, by omega, by omega, by omega, by go_num, by go_num, Hab'.out, rfl⟩
        case measure => simp [intOf]; omega
      · have hcI : ¬ (c.toNat : Int) = (d.toNat : Int) := by omega
        have hr : decide (c.toNat < d.toNat) = true ↔ sufLt (symL t) a b := by
          rw [Hiff.out, Hs.out, decide_eq_true_eq]
          constructor
          · exact fun h => .inl h
          · rintro (h | h)
            · exact h
            · exact absurd h.1 hcd
        have Hr := Lib.hid hr
        clear hr hcd
        go_wp2_with fail
        go_quiet (fail)
        go_wp2_with fail
        go_quiet (fail)
        go_wp2_with fail
        go_ret
        exact ⟨decide (c.toNat < d.toNat), ret_bool (by simp), Hr.out, _, by rw [World.drewN_drewN, World.drewN_drewN]⟩
    · have hr : decide ((b' : Int) < (a' : Int)) = true ↔ sufLt (symL t) a b := by
        rw [Hiff.out, decide_eq_true_eq]
        by_cases h1 : a' < n
        · obtain rfl : b' = n := by
            have : ¬ b' < n := fun h => hlt ⟨h1, h⟩
            omega
          constructor
          · intro h; omega
          · intro h
            have h3 := sufLt_endr (t := t) (a := a') (by rw [Hn.out]; exact h1)
            rw [Hn.out] at h3
            exact absurd h h3
        · obtain rfl : a' = n := by omega
          have h3 := sufLt_endl (t := t) (b := b') (by rw [Hn.out]; omega)
          rw [Hn.out] at h3
          exact ⟨fun _ => h3, fun _ => by omega⟩
      have Hr := Lib.hid hr
      clear hr
      by_cases h1 : a' < n
      · have h1I : (a' : Int) < (n : Int) := by omega
        have h2I : ¬ (b' : Int) < (n : Int) := by
          have : ¬ b' < n := fun h => hlt ⟨h1, h⟩
          omega
        clear hlt
        go_wp2_with fail
        go_ret
        exact ⟨decide ((b' : Int) < (a' : Int)), ret_bool (by simp), Hr.out, q, rfl⟩
      · have h1I : ¬ (a' : Int) < (n : Int) := by omega
        clear hlt
        go_wp2_with fail
        go_ret
        exact ⟨decide ((b' : Int) < (a' : Int)), ret_bool (by simp), Hr.out, q, rfl⟩
set_option maxRecDepth 100000 in
set_option maxHeartbeats 2000000 in
theorem before_any (t p : List UInt8) (a n m : Nat) (w : World) (hn : t.length = n) (hm : p.length = m) (hn4 : n ≤ 1000) (hm4 : m ≤ 1000) (ha : a ≤ n) :
    Calls Try.prog 23 #[.string ⟨t.toArray⟩, .int .i64 (a : Int), .string ⟨p.toArray⟩] w fun e w' => e = .returned (.bool (Pq (symL t) false (symB p) a)) ∧ ∃ q, w' = w.drewN q := by
  have z1 : (⟨t.toArray⟩ : ByteArray).size = n := (ba_size t).trans hn
  have z2 : (⟨p.toArray⟩ : ByteArray).size = m := (ba_size p).trans hm
  have Hn := Lib.hid hn
  have Hm := Lib.hid hm
  clear hn hm
  obtain ⟨R, hR⟩ : ∃ R, Pq (symL t) false (symB p) a = R := ⟨_, rfl⟩
  rw [hR]
  have hstart : R = Pq (symL t) false (symB (p.drop 0)) (a + 0) := hR.symm
  clear hR
  go_enter Try.func23, Try.ntmps23
  go_wp2_with fail
  go_loopw [7] (fun i wr => ∃ k q : Nat, k ≤ m ∧ a + k ≤ n ∧ i = .int .i64 (k : Int) ∧ R = Pq (symL t) false (symB (p.drop k)) (a + k) ∧ wr = w.drewN q) (fun i _ => m - (intOf i).toNat)
  case atStart => exact ⟨0, 0, Nat.zero_le _, ha, rfl, hstart, rfl⟩
  case round =>
    obtain ⟨k, q, hk, hak, rfl, hPR, rfl⟩ := hrel
    clear hstart
    by_cases hlt : k < m
    · have gp : p[k]? = some (p[k]'(by rw [Hm.out]; exact hlt)) := List.getElem?_eq_getElem _
      have hdr : p.drop k = (p[k]'(by rw [Hm.out]; exact hlt)) :: p.drop (k + 1) := List.drop_eq_getElem_cons (by rw [Hm.out]; exact hlt)
      rw [hdr] at hPR
      generalize p[k]'(by rw [Hm.out]; exact hlt) = d at gp hPR
      have hPR2 : R = (decide (aN (symL t) (a + k) < ((d.toNat + 1 : Nat) : Int)) || (decide (aN (symL t) (a + k) = ((d.toNat + 1 : Nat) : Int)) && Pq (symL t) false (symB (p.drop (k + 1))) (a + k + 1))) := hPR
      clear hPR hdr
      obtain ⟨x, hx⟩ : ∃ x, a + k = x := ⟨_, rfl⟩
      rw [hx] at hPR2 hak
      have hltI : (k : Int) < (m : Int) := by omega
      have e1 : IntKind.i64.wrap ((a : Int) + (k : Int)) = (x : Int) := by rw [IntKind.wrap_i64]; omega
      have ip := str_at gp
      clear gp
      by_cases hxn : x < n
      · have gt : t[x]? = some (t[x]'(by rw [Hn.out]; exact hxn)) := List.getElem?_eq_getElem _
        generalize t[x]'(by rw [Hn.out]; exact hxn) = c at gt
        rw [aN_symL t gt] at hPR2
        have it := str_at gt
        have hge : decide ((x : Int) ≥ (n : Int)) = false := by simp; omega
        clear gt
        rcases Nat.lt_trichotomy c.toNat d.toNat with hcd | hcd | hcd
        · have hRt : R = true := by rw [hPR2]; simp <;> omega
          have hcI : (c.toNat : Int) < (d.toNat : Int) := by omega
          have HRt := Lib.hid hRt
          clear hPR2 hRt hcd hx
          go_wp2_with fail
          go_quiet (fail)
          go_wp2_with fail
          go_ret
          exact ⟨ret_bool (by rw [HRt.out]), _, World.drewN_drewN _ _ _⟩
        · have hR2 : R = Pq (symL t) false (symB (p.drop (k + 1))) (a + (k + 1)) := by
            rw [hPR2, hcd, show a + (k + 1) = x + 1 by omega]
            simp
          have hcI : (c.toNat : Int) = (d.toNat : Int) := by omega
          rw [hcI] at it
          have HR2 := Lib.hid hR2
          have hxk : a + (k + 1) ≤ n := by omega
          have Hxk := Lib.hid hxk
          clear hPR2 hR2 hcd hx hcI hxk
          go_wp2_with fail
          go_quiet (fail)
          go_wp2_with fail
          go_quiet (fail)
          go_wp2_with fail
          go_roundw
          case rel => exact ⟨k + 1, _, by omega, Hxk.out, by go_num, HR2.out, rfl⟩
          case measure => simp [intOf]; omega
        · have hRt : R = false := by rw [hPR2]; simp <;> omega
          have hcI : ¬ (c.toNat : Int) < (d.toNat : Int) := by omega
          have hcJ : (d.toNat : Int) < (c.toNat : Int) := by omega
          have HRt := Lib.hid hRt
          clear hPR2 hRt hcd hx
          go_wp2_with fail
          go_quiet (fail)
          go_wp2_with fail
          go_quiet (fail)
          go_wp2_with fail
          go_ret
          exact ⟨ret_bool (by rw [HRt.out]), _, (World.drewN_drewN _ _ _).trans (World.drewN_drewN _ _ _)⟩
      · obtain rfl : x = n := by omega
        have hge : (x : Int) ≤ (x : Int) := Int.le_refl _
        have hz := aN_end t
        rw [Hn.out] at hz
        have hRt : R = true := by rw [hPR2, hz]; simp <;> omega
        have HRt := Lib.hid hRt
        clear hPR2 hRt hx hz hxn
        go_wp2_with fail
        go_quiet (fail)
        go_wp2_with fail
        go_ret
        exact ⟨ret_bool (by rw [HRt.out]), _, World.drewN_drewN _ _ _⟩
    · obtain rfl : k = m := by omega
      have hRt : R = false := by
        rw [hPR, List.drop_of_length_le (by rw [Hm.out]; exact Nat.le_refl _)]
        rfl
      have HRt := Lib.hid hRt
      clear hPR hRt
      go_wp2_with fail
      go_ret
      exact ⟨ret_bool (by rw [HRt.out]), _, rfl⟩
theorem sub_eq (l : List UInt8) (i j : Nat) : (⟨l.toArray⟩ : ByteArray).extract i j = ⟨((l.drop i).take (j - i)).toArray⟩ := by
  apply ByteArray.ext
  rw [ByteArray.data_extract]
  apply Array.ext'
  rw [Array.toList_extract]
section
variable (l : List UInt8) (w : World)
theorem sub_lohi (i j : Nat) (h1 : i ≤ j) (h2 : j ≤ l.length) : (Instr.slice 9 (.string ⟨l.toArray⟩) (some (.int .i64 (i : Int))) (some (.int .i64 (j : Int))) none).run Try.prog w = .ok (.string ⟨((l.drop i).take (j - i)).toArray⟩) w := by
  rw [run_slice_string (P := Try.prog) (w := w) 9 ⟨l.toArray⟩ .i64 .i64 i j Try.underlying9 (by omega) (by omega) (by rw [ba_size]; omega)]
  rw [Int.toNat_natCast, Int.toNat_natCast, sub_eq]
theorem at_lohi (i j : Nat) (h1 : i ≤ j) (h2 : j ≤ l.length) : (Instr.sliceAt 9 (.string ⟨l.toArray⟩) (some (.int .i64 (i : Int))) (some (.int .i64 (j : Int))) none).run Try.prog w = .ok (.string ⟨((l.drop i).take (j - i)).toArray⟩) w := by
  rw [run_sliceAt_string (h := Try.underlying9), sub_lohi l w i j h1 h2]
end
theorem preQ_take (t p : List UInt8) (a : Nat) (h : a + p.length ≤ t.length) : preQ (symL t) (symB p) a = decide ((t.drop a).take p.length = p) := by
  rw [Bool.eq_iff_iff, decide_eq_true_eq, preQ_bytes]
  constructor
  · intro h1
    apply List.ext_getElem?
    intro i
    rw [List.getElem?_take]
    split
    · rename_i hi
      have h2 : p[i]? = some p[i] := List.getElem?_eq_getElem hi
      rw [List.getElem?_drop, h1 i _ h2, h2]
    · rename_i hi
      rw [List.getElem?_eq_none (by omega)]
  · intro h1 i c hc
    rw [← h1, List.getElem?_take] at hc
    split at hc
    · rw [List.getElem?_drop] at hc; exact hc
    · cases hc
theorem preQ_far (t p : List UInt8) (a : Nat) (h : ¬ a + p.length ≤ t.length) (ha : a ≤ t.length) : preQ (symL t) (symB p) a = false := by
  cases hh : preQ (symL t) (symB p) a with
  | false => rfl
  | true =>
    have h1 : p.length - 1 < p.length := by omega
    have h3 := (preQ_bytes t p a).1 hh (p.length - 1) _ (List.getElem?_eq_getElem h1)
    have := (List.getElem?_eq_some_iff.1 h3).1
    omega
set_option maxRecDepth 100000 in
set_option maxHeartbeats 1000000 in
theorem begins_any (t p : List UInt8) (a n m : Nat) (w : World) (hn : t.length = n) (hm : p.length = m) (ha : a ≤ n) (hn4 : n ≤ 1000) (hm4 : m ≤ 1000) :
    Calls Try.prog 24 #[.string ⟨t.toArray⟩, .int .i64 (a : Int), .string ⟨p.toArray⟩] w fun e w' => e = .returned (.bool (preQ (symL t) (symB p) a)) ∧ w = w' := by
  have z1 : (⟨t.toArray⟩ : ByteArray).size = n := (ba_size t).trans hn
  have z2 : (⟨p.toArray⟩ : ByteArray).size = m := (ba_size p).trans hm
  obtain ⟨q, hq⟩ : ∃ q, a + m = q := ⟨_, rfl⟩
  have e1 : IntKind.i64.wrap ((a : Int) + (m : Int)) = (q : Int) := by rw [IntKind.wrap_i64]; omega
  by_cases h : q ≤ n
  · have hfin := preQ_take t p a (by omega)
    have k1 := fun w => sub_lohi t w a q (by omega) (by omega)
    have k2 := fun w => at_lohi t w a q (by omega) (by omega)
    rw [hm] at hfin
    rw [show q - a = m by omega] at k1 k2
    have hqI : (q : Int) ≤ (n : Int) := by omega
    rw [hfin]
    clear hm hn hfin hq h
    go_enter Try.func24, Try.ntmps24
    go_wp2
    go_ret
    exact ⟨ret_bool (by rw [Bool.eq_iff_iff]; simp), rfl⟩
  · rw [preQ_far t p a (by omega) (by omega)]
    have hqI : ¬ (q : Int) ≤ (n : Int) := by omega
    clear hm hn hq h
    go_enter Try.func24, Try.ntmps24
    go_wp2
    go_ret
    exact ⟨ret_bool (by rfl), rfl⟩
end Go.Proofs.Ytdpknieiigibfaa
