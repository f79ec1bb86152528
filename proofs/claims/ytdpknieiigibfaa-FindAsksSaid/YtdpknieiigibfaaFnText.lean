/- The walk of the laws' Text: a text of at most so many bytes, of few letters or of all. Conditions: at most 1000 bytes are asked for. -/
import Derived.Test.YtdpknieiigibfaaFnBwt
namespace Go.Proofs.Ytdpknieiigibfaa
open Go.RowKit
set_option linter.unusedVariables false
set_option linter.unusedSimpArgs false
theorem byte_ex (v : Int) (h0 : 0 ≤ v) (h1 : v ≤ 255) : ∃ c : UInt8, (c.toNat : Int) = v := ⟨UInt8.ofNat v.toNat, by
  rw [UInt8.toNat_ofNat']
  omega⟩
def fewOk (few : Bool) (T : List UInt8) : Prop := few = true → ∀ c ∈ T, 97 ≤ c.toNat ∧ c.toNat ≤ 99
/-- What Text hands back. -/
def TextPost (w : World) (most : Nat) (few : Bool) (e : Ending) (w' : World) : Prop := ∃ T A' c', T.length ≤ most ∧ fewOk few T ∧ e = .returned (.slice A' T.length c') ∧ Made w' w.heap.size 5 1 A' T.length c' (T.map bv) ∧ Below w.heap.size w w'
set_option maxRecDepth 100000 in
set_option maxHeartbeats 2000000 in
theorem Text_any (A : Option Addr) (n c B : Nat) (l : List Int) (most : Nat) (few : Bool) (w : World) (hr : Rd w B 1 A n (l.map iv)) (hB : B ≤ w.heap.size) (hn : n ≤ maxLen) (hm : most ≤ 1000) :
    Calls Try.prog 7 #[.slice A n c, .int .i64 (most : Int), .bool few] w (TextPost w most few) := by
  obtain ⟨i0, hi0, hz0, hz1, hz2⟩ := info_parts u8_info
  unfold maxLen at hn
  have Hr := Lib.hid (hr.mono hB)
  have hll : l.length = n := by simpa using hr.1
  have Hll := Lib.hid hll
  clear hr hll
  go_enter Try.func7, Try.ntmps7
  go_wp2_with fail
  go_loopw [7, 8] (fun v i wr => ∃ (k : Nat) (T : List UInt8), k ≤ n ∧ k ≤ most ∧ T.length = k ∧ fewOk few T ∧ i = .int .i64 k ∧ wr.ownsRow w.heap.size 5 1 v k (T.map bv) ∧ Below w.heap.size w wr) (fun _ i _ => n - (intOf i).toNat)
  case atStart => exact ⟨0, [], by omega, by omega, rfl, fun _ c hc => (by cases hc), rfl, World.ownsRow_nil _ _ _ _, Below.refl _ _⟩
  case round =>
    obtain ⟨k, T, hk, hkm, hT, hfew, rfl, hown, hb⟩ := hrel
    have hsz := hb.size
    by_cases hlt : k < n ∧ k < most
    · obtain ⟨hlt1, hlt2⟩ := hlt
      obtain ⟨b, off, u, rfl, hbl, hu, hc⟩ := (Hr.out.below hb).get hlt1
      rw [List.getElem?_map] at hu
      obtain ⟨z, hz, rfl⟩ := Option.map_eq_some_iff.1 hu
      unfold iv at hc
      have Hown := Lib.hid hown
      have Hb := Lib.hid hb
      have Hfew := Lib.hid hfew
      have HT := Lib.hid hT
      clear hown hb hfew hT hu hz hbl
      have hkI : (k : Int) < (n : Int) := by omega
      have hmI : (k : Int) < (most : Int) := by omega
      cases few with
      | true =>
        obtain ⟨q, hq, hq3⟩ := umod_ex z 3 (by omega)
        obtain ⟨ch, hch⟩ := byte_ex (97 + (q : Int)) (by omega) (by omega)
        have e1 : IntKind.u64.wrap (97 + (q : Int)) = 97 + (q : Int) := by rw [IntKind.wrap_u64]; omega
        have e2 : IntKind.u8.wrap (97 + (q : Int)) = 97 + (q : Int) := by rw [IntKind.wrap_u8]; omega
        have Hch := Lib.hid hch
        clear hch
        go_wp2_with (at_builtin; refine wpList_push _ rfl (.tmp 21) (.tmp 30) _ rfl w.heap.size 5 i0 (.int .u8 0) 1 1 Try.underlying23 hi0 hz0 hz1 hz2 rfl (by decide) _ k _ rfl Hown.out rfl rfl (by simp [Value.oneCell']) (by unfold maxLen; omega) (by omega) hsz ?_; intro v2 w2 hown2 hg2 hs2 hat2)
        have hb3 := below_grown Hb.out Hown.out hg2 hsz
        go_roundw
        case rel =>
          refine ⟨k + 1, T ++ [ch], by omega, by omega, by simp [HT.out], fun h c hc => ?_, by go_num, ?_, hb3⟩
          · rcases List.mem_append.1 hc with hc | hc
            · exact Hfew.out h c hc
            · simp at hc
              subst hc
              have := Hch.out
              omega
          · rw [List.map_append]
            have e3 : bv ch = .int .u8 (97 + (q : Int)) := by unfold bv; rw [Hch.out]
            rw [List.map_cons, List.map_nil, e3]
            exact hown2
        case measure => simp [intOf]; omega
      | false =>
        have hwb : 0 ≤ IntKind.u8.wrap z ∧ IntKind.u8.wrap z ≤ 255 := by rw [IntKind.wrap_u8]; omega
        obtain ⟨ch, hch⟩ := byte_ex (IntKind.u8.wrap z) hwb.1 hwb.2
        have Hch := Lib.hid hch
        clear hch hwb
        go_wp2_with (at_builtin; refine wpList_push _ rfl (.tmp 32) (.tmp 38) _ rfl w.heap.size 5 i0 (.int .u8 0) 1 1 Try.underlying23 hi0 hz0 hz1 hz2 rfl (by decide) _ k _ rfl Hown.out rfl rfl (by simp [Value.oneCell']) (by unfold maxLen; omega) (by omega) hsz ?_; intro v2 w2 hown2 hg2 hs2 hat2)
        have hb3 := below_grown Hb.out Hown.out hg2 hsz
        go_roundw
        case rel =>
          refine ⟨k + 1, T ++ [ch], by omega, by omega, by simp [HT.out], fun h c hc => (by cases h), by go_num, ?_, hb3⟩
          rw [List.map_append]
          have e3 : bv ch = .int .u8 (IntKind.u8.wrap z) := by unfold bv; rw [Hch.out]
          rw [List.map_cons, List.map_nil, e3]
          exact hown2
        case measure => simp [intOf]; omega
    · subst hT
      obtain ⟨A', c', rfl, h3⟩ := made_of_own hown
      have H3 := Lib.hid h3
      have H4 := Lib.hid hb
      have H2 := Lib.hid hfew
      clear hown hb hfew h3
      by_cases hkn : T.length < n
      · have hkm' : ¬ T.length < most := fun h => hlt ⟨hkn, h⟩
        have hmI : ¬ (T.length : Int) < (most : Int) := by omega
        clear hlt
        go_wp2_with fail
        go_ret
        exact ⟨T, A', c', hkm, H2.out, rfl, H3.out, H4.out⟩
      · clear hlt
        go_wp2_with fail
        go_ret
        exact ⟨T, A', c', hkm, H2.out, rfl, H3.out, H4.out⟩
end Go.Proofs.Ytdpknieiigibfaa
