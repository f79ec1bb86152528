/- The walks of snap.Save and live's Rate. Conditions: a text of at most 127 bytes, as New makes it. snap.Save where it refuses. No conditions. The walk of snap.Load of what Save tells. Conditions: a text of at most 127 bytes. -/
import Derived.Test.YtnileogagoipiaaGreatDoorPkS
import Derived.Test.YtnileogagoipiaaGreatDoorQTkAll
import Derived.Test.YtnileogagoipiaaGreatDoorPkP
import Derived.Test.YtnileogagoipiaaGreatDoorPkR
import Derived.Test.YtnileogagoipiaaGreatDoorPkL
import Derived.Test.YtnileogagoipiaaGreatDoorPkT
namespace Go.Proofs.YtnileogagoipiaaGreatDoor
open Go.RowKit
set_option linter.unusedVariables false
set_option linter.unusedSimpArgs false
theorem LiveRate_any (Bw gl gk gp ga : Nat) (vl vo vt : Value) (B n rate : Nat) (L : List Nat) (C : List (Nat × Nat)) (tk : List Bool) (w : World) (h : LiveAt w Bw gl gk gp ga vl vo vt B n rate L C tk) :
    Calls Tryz.prog 119 #[.pointer (some ⟨gl, 0, none⟩)] w fun e w' => e = .returned (.int .i64 (rate : Int)) ∧ w = w' := by
  have c2 := h.blk.cell 2
  clear h
  go_enter Tryz.func119, Tryz.ntmps119
  go_wp2_with fail
  go_ret
  exact ⟨rfl, rfl⟩
theorem sv_iv (L : List Nat) : L.map sv = (symsI L).map iv := by
  unfold symsI
  rw [List.map_map]
  rfl
def SavePost (w : World) (Bw : Nat) (bs : List UInt8) (e : Ending) (w' : World) : Prop :=
  ∃ A' c', e = .returned (.tuple #[.slice A' bs.length c', .int .i64 0]) ∧ Made w' w.heap.size 5 1 A' bs.length c' (bs.map bv) ∧ VB Bw w w'
set_option maxRecDepth 100000 in
set_option maxHeartbeats 4000000 in
theorem SnapSave_any (Bw gl gk gp ga : Nat) (vl vo vt : Value) (B rate most : Nat) (t : List UInt8) (rs : List Nat) (tk : List Bool) (w : World) (hl : LiveAt w Bw gl gk gp ga vl vo vt B (t.length + 1) rate (lastL (symL t) rs) (sampC rs rate (t.length + 1)) tk) (hs : IsSuf (symL t) rs) (hn : t.length ≤ 127) (hr1 : 1 ≤ rate) (hr2 : rate ≤ 64) (hm1 : t.length ≤ most) (hm2 : most ≤ 2147483648) :
    Calls Tryz.prog 70 #[.pointer (some ⟨gl, 0, none⟩), .int .i64 (most : Int)] w (SavePost w Bw (snapB (lastL (symL t) rs) rs most rate t.length)) := by
  obtain ⟨i0, hi0, hz0, hz1, hz2⟩ := info_parts num_u8_info
  obtain ⟨L, hL⟩ : ∃ L, lastL (symL t) rs = L := ⟨_, rfl⟩
  have hlt := lastL_lt (rs := rs) (symL_lt t)
  have hlen : L.length = t.length + 1 := by rw [← hL, lastL_len, hs.len, symL_len]
  have hrow : ∀ k w1, VB Bw w w1 → k * rate ≤ t.length → Calls Tryz.prog 63 #[.pointer (some ⟨gl, 0, none⟩), .int .i64 ((k * rate : Nat) : Int)] w1 fun e w' => e = .returned (.int .i64 ((rs.idxOf (k * rate) : Nat) : Int)) ∧ VB Bw w1 w' := fun k w1 hv hk => by
    have hmem : k * rate ∈ rs := hs.mem (by rw [symL_len]; omega)
    exact LiveRow_any Bw gl gk gp ga vl vo vt B rate t rs tk (rs.idxOf (k * rate)) (k * rate) w1 (hl.vis hv.1) hs hn (List.getElem?_eq_some_iff.2 ⟨List.idxOf_lt_length_iff.2 hmem, List.getElem_idxOf _⟩)
  rw [hL] at hl hlt ⊢
  obtain ⟨N, hN⟩ : ∃ N, t.length = N := ⟨_, rfl⟩
  have hil : ∀ x, rs.idxOf x ≤ 128 := fun x => by
    have := List.idxOf_le_length (a := x) (l := rs)
    rw [hs.len, symL_len] at this
    omega
  have hlast := LiveLast_any Bw gl gk gp ga vl vo vt B (t.length + 1) rate L _ tk w hl hlt (by omega)
  unfold WAllPost at hlast
  rw [hN] at hlen hrow hm1 hn ⊢
  rw [hlen] at hlast
  have hlv := hl.lvw
  have hput := firstB_put hlt
  have hfl := firstB_len L
  rw [hlen] at hfl
  have Hl := Lib.hid hl
  have Hlv := Lib.hid hlv
  have Hrow := Lib.hid hrow
  have Hlt := Lib.hid hlt
  have Hlen := Lib.hid hlen
  have Hput := Lib.hid hput
  have Hil := Lib.hid hil
  have n3 : ¬ most < N := by omega
  have n4 : decide (most < N) = false := decide_eq_false n3
  have n5 : ¬ ((most : Int) > 2147483648) := by omega
  have n6 : decide ((most : Int) > 2147483648) = false := decide_eq_false n5
  have hw0 : 0 < w.heap.size := Nat.lt_of_le_of_lt (Nat.zero_le _) hl.blk.lt
  clear hl hlv hrow hlt hlen hput hL hs hN hil
  unfold SavePost
  go_enter Tryz.func70, Tryz.ntmps70
  go_wp2_with fail
  refine (LiveLen_any Bw gl _ N w Hlv.out Hlen.out (by omega)).mono ?_
  rintro e w1 ⟨rfl, rfl⟩
  go_wp2_with fail
  refine hlast.mono ?_
  clear hlast
  rintro e w1 ⟨A1, c1, rfl, hm1', hv1⟩
  have hrp := RunPut_any A1 (N + 1) c1 w1.heap.size (symsI L) w1 (by rw [← sv_iv]; exact hm1'.rd) (Nat.le_refl _) (by omega)
  rw [Hput.out] at hrp
  have Hv1 := Lib.hid hv1
  clear hm1' hv1
  go_wp2_with fail
  refine hrp.mono ?_
  clear hrp
  rintro e w2 ⟨hpt, hb2⟩
  obtain ⟨bs, A2, c2, hbs, rfl, hm2'⟩ := hpt.resolve_right (fun ⟨hno, _⟩ => by cases hno)
  injection hbs with hbs
  obtain ⟨k2, hk2⟩ : ∃ k2, (firstB L).length = k2 := ⟨_, rfl⟩
  rw [← hbs, hk2] at hm2'
  rw [← hbs, hk2]
  rw [hk2] at hfl
  have hv2 : VB Bw w w2 := Hv1.out.below hb2
  have Hv2 := Lib.hid hv2
  have Hm2 := Lib.hid (hm2'.mono (B' := w.heap.size) Hv1.out.1.size)
  have Hk2 := Lib.hid hk2
  clear hb2 hbs hm2' hk2 hv2 Hv1
  go_wp2_with fail
  go_loopw [8, 9] (fun v i wr => ∃ k q : Nat, k ≤ N / rate + 1 ∧ i = .int .i64 ((k * rate : Nat) : Int) ∧ wr.ownsRow w2.heap.size 5 1 v q ((secK rs rate k).map bv) ∧ VB Bw w2 wr) (fun _ i _ => (N + 65 - (intOf i).toNat))
  case atStart => exact ⟨0, 0, Nat.zero_le _, by simp, World.ownsRow_nil _ _ _ _, VisK.refl _ _⟩
  case round =>
    obtain ⟨k, q, hk, rfl, hown, hv⟩ := hrel
    have hq : q ≤ 1500 := by
      have h1 := hown.1
      have h2 := secK_len rs rate k
      have h3 : N / rate ≤ N := Nat.div_le_self _ _
      simp at h1
      omega
    obtain ⟨p, hp⟩ : ∃ p, k * rate = p := ⟨_, rfl⟩
    have hvw := Hv2.out.trans hv
    have hlen1 := LiveLen_any Bw gl _ N wr (Hl.out.vis hvw.1).lvw Hlen.out (by omega)
    have hsz := hvw.1.size
    have hsz2 := hv.1.size
    by_cases hlt : p ≤ N
    · have hrow1 := Hrow.out k wr hvw (by omega)
      have hnext := secK_succ rs rate k
      obtain ⟨x, hx⟩ : ∃ x, rs.idxOf (k * rate) = x := ⟨_, rfl⟩
      have hxl : x ≤ 128 := by rw [← hx]; exact Hil.out _
      have hnk := next_k hr1 (by omega : k * rate ≤ N)
      have hpn : (k + 1) * rate = p + rate := by rw [Nat.add_mul, hp, Nat.one_mul]
      rw [hx] at hrow1 hnext
      rw [hp] at hrow1
      rw [hp]
      obtain ⟨kx, hkx⟩ : ∃ kx, (encB x).length = kx := ⟨_, rfl⟩
      have hkx1 : kx ≤ 11 := by rw [← hkx]; exact encB_len x
      have hpl : p ≤ 127 := by omega
      have Hnext := Lib.hid hnext
      have Hkx := Lib.hid hkx
      have Hv := Lib.hid hv
      have Hown := Lib.hid hown
      clear hnext hkx hv hown hvw hx
      go_wp2_with fail
      refine hlen1.mono ?_
      clear hlen1
      rintro e w3 ⟨rfl, rfl⟩
      go_wp2_with fail
      refine hrow1.mono ?_
      clear hrow1
      rintro e w3 ⟨rfl, hv3⟩
      have hown3 := hv3.1.own Hown.out (by decide) (by decide)
      have Hown3 := Lib.hid hown3
      have hvv3 := Hv.out.trans hv3
      have hsz3 := hv3.1.size
      have Hv3 := Lib.hid hvv3
      clear hown3 hv3 hvv3 Hown Hv
      go_wp2_with fail
      refine (Put_is _ _ _ _ [x] _ (encB x) kx (encAll_one x) Hkx.out (Rd.made _ _ 1 1 _ rfl) (Nat.le_refl _) (by simp; omega) (by omega)).mono ?_
      rintro e w4 ⟨A4, c4, rfl, hm4, hb4⟩
      have hb34 := ((Below.refl w3.heap.size w3).alloc (Nat.le_refl _) (.cells #[.int .u64 (x : Int)] 118)).trans (hb4.mono (by simp))
      have hown4 : w4.ownsRow w2.heap.size 5 1 u8 q ((secK rs rate k).map bv) := own_below (Hown3.out) hb34
      have hs4 := hb34.size
      have Hr4 := Lib.hid hm4.rd
      have Hone := Lib.hid (oneCell_bv (encB x))
      have hv4 := Hv3.out.below hb34
      have hs40 : w2.heap.size ≤ w4.heap.size := by omega
      have Hv4 := Lib.hid hv4
      clear hm4 hb4 hb34 Hown3 Hv3 hv4
      go_wp2_with (at_builtin; refine wpList_append_rd _ rfl (.tmp 41) (.tmp 47) _ rfl w2.heap.size 5 i0 (.int .u8 0) 1 1 Tryz.underlying22 hi0 hz0 hz1 hz2 rfl (by decide) u8 q _ rfl hown4 w4.heap.size A4 kx c4 _ rfl Hr4.out Hone.out (by unfold maxLen; omega) (by omega) hs40 ?_; intro v5 w5 hown5 hg5 hat5)
      have hb45 := below_grown (Below.refl w2.heap.size w4) hown4 hg5 hs40
      have hv5 := VB.grow Hv4.out hb45
      have Hv5 := Lib.hid hv5
      have Hown5 := Lib.hid hown5
      clear hown4 hown5 hg5 hat5 hb45 hv5 Hv4
      have hrate := LiveRate_any Bw gl gk gp ga vl vo vt B _ rate L _ tk w5 (Hl.out.vis (Hv2.out.trans Hv5.out).1)
      go_wp2_with fail
      refine hrate.mono ?_
      clear hrate
      rintro e w6 ⟨rfl, rfl⟩
      have hadd : IntKind.i64.wrap ((p : Int) + (rate : Int)) = ((p + rate : Nat) : Int) := by rw [IntKind.wrap_i64]; omega
      go_wp2_with fail
      go_roundw
      case rel =>
        refine ⟨k + 1, q + kx, hnk, ?_, ?_, Hv5.out⟩
        · rw [hpn]
          first | rfl | exact i64_eq (by omega)
        · rw [Hnext.out, List.map_append]
          exact Hown5.out
      case measure => simp [intOf]; omega
    · go_wp2_with fail
      refine hlen1.mono ?_
      clear hlen1
      rintro e w3 ⟨rfl, rfl⟩
      have hks := last_k hr1 hk (by omega)
      subst hks
      rw [← secB_eq] at hown
      have Hown := Lib.hid hown
      have Hv := Lib.hid hv
      clear hown hv hvw
      go_wp2_with fail
      refine (LiveRate_any Bw gl gk gp ga vl vo vt B _ rate L _ tk wr (Hl.out.vis (Hv2.out.trans Hv.out).1)).mono ?_
      rintro e w3 ⟨rfl, rfl⟩
      go_wp2_with fail
      refine (LiveLen_any Bw gl _ N wr (Hl.out.vis (Hv2.out.trans Hv.out).1).lvw Hlen.out (by omega)).mono ?_
      rintro e w3 ⟨rfl, rfl⟩
      go_wp2_with fail
      obtain ⟨kh, hkh⟩ : ∃ kh, (encAll [most, rate, N]).length = kh := ⟨_, rfl⟩
      have hkh1 : kh ≤ 33 := by
        rw [← hkh]
        have := encAll_len [most, rate, N]
        simpa using this
      have Hkh := Lib.hid hkh
      clear hkh
      refine (Put_is _ _ _ _ [most, rate, N] _ (encAll [most, rate, N]) kh rfl Hkh.out (Rd.made _ _ 1 3 _ rfl) (Nat.le_refl _) (by simp; omega) (by omega)).mono ?_
      rintro e w4 ⟨A4, c4, rfl, hm4, hb4⟩
      have hb34 := ((Below.refl wr.heap.size wr).alloc (Nat.le_refl _) (.cells #[.int .u64 (most : Int), .int .u64 (rate : Int), .int .u64 (N : Int)] 118)).trans (hb4.mono (by simp))
      have hs4 := hb34.size
      have hown4 : w4.ownsRow w2.heap.size 5 1 u8 q ((secB rs rate N).map bv) := own_below (Hown.out) hb34
      have hown2 : w4.ownsRow w.heap.size 5 1 (.slice A2 k2 c2) k2 ((firstB L).map bv) := own_below (Hv.out.1.own Hm2.out.own (by decide) (by decide)) hb34
      obtain ⟨A3, c3, rfl, hm3⟩ := made_of_own hown4
      have Hm3 := Lib.hid hm3.rd
      have Hr2 := Lib.hid (Rd.of_own hown2)
      have Hr4 := Lib.hid hm4.rd
      have Hv4 := Lib.hid ((Hv2.out.trans Hv.out).below hb34)
      have hq3 : (secB rs rate N).length = q := by have := hown4.1; simpa using this
      clear hm4 hb4 hb34 hown4 hown2 hm3 Hown Hm2 Hv
      have kc := str_const w4
      go_wp2_with fail
      have hmk := rd_mark w4 5 #[.int .u8 83, .int .u8 75, .int .u8 82, .int .u8 49] (4, 5) 4 rfl
      obtain ⟨gm, hgm⟩ : ∃ g, w4.heap.size = g := ⟨_, rfl⟩
      rw [hgm] at hmk
      have hb45 : Below w4.heap.size w4 (w4.alloc (.cells #[.int .u8 83, .int .u8 75, .int .u8 82, .int .u8 49] 5 (4, 5))) := (Below.refl w4.heap.size w4).alloc (Nat.le_refl _) _
      have hs45 : (w4.alloc (.cells #[.int .u8 83, .int .u8 75, .int .u8 82, .int .u8 49] 5 (4, 5))).heap.size = gm + 1 := by simp [hgm]
      have hR2 := Hr2.out.below hb45
      have hR3 := Hm3.out.below hb45
      have hR4 := Hr4.out.below hb45
      have hV5 := Hv4.out.below hb45
      rw [hgm] at hR2 hR3 hR4 hb45 hs4 ⊢
      generalize w4.alloc (.cells #[.int .u8 83, .int .u8 75, .int .u8 82, .int .u8 49] 5 (4, 5)) = w5 at hmk hb45 hs45 hR2 hR3 hR4 hV5 ⊢
      have Hmk := Lib.hid hmk
      have HR2 := Lib.hid hR2
      have HR3 := Lib.hid hR3
      have HR4 := Lib.hid hR4
      have HV5 := Lib.hid hV5
      clear hmk hR2 hR3 hR4 hV5 hb45 Hr2 Hm3 Hr4 Hv4 hgm kc
      have hN128 : N / rate ≤ N := Nat.div_le_self _ _
      have hq4 := secK_len rs rate (N / rate + 1)
      rw [← secB_eq, hq3] at hq4
      have hq5 : q ≤ 2000 := by omega
      obtain ⟨n1, hn1⟩ : ∃ n1, (partB (firstB L)).length = n1 := ⟨_, rfl⟩
      obtain ⟨n2, hn2⟩ : ∃ n2, (partB (secB rs rate N)).length = n2 := ⟨_, rfl⟩
      have hn1l : n1 ≤ 3000 := by
        rw [← hn1, partB_len, Hk2.out]
        have := encB_len k2
        omega
      have hn2l : n2 ≤ 3000 := by
        rw [← hn2, partB_len, hq3]
        have := encB_len q
        omega
      have hp1 := SnapPart_any A2 k2 c2 gm (firstB L) w5 HR2.out (by omega) (by omega)
      rw [hn1] at hp1
      refine hp1.mono ?_
      clear hp1
      rintro e w6 ⟨A6, c6, rfl, hm6, hb6⟩
      have hs6 := hb6.size
      have Hmk6 := Lib.hid (Hmk.out.below (hb6.mono (by omega)))
      have HR36 := Lib.hid (HR3.out.below (hb6.mono (by omega)))
      have HR46 := Lib.hid (HR4.out.below (hb6.mono (by omega)))
      have HR6 := Lib.hid hm6.rd
      have HV6 := Lib.hid (HV5.out.below hb6)
      clear hb6 hm6 Hmk HR2 HR3 HR4 HV5
      go_wp2_with fail
      have hp2 := SnapPart_any A3 q c3 gm (secB rs rate N) w6 HR36.out (by omega) (by omega)
      rw [hn2] at hp2
      refine hp2.mono ?_
      clear hp2
      rintro e w7 ⟨A7, c7, rfl, hm7, hb7⟩
      have hs7 := hb7.size
      have Hmk7 := Lib.hid (Hmk6.out.below (hb7.mono (by omega)))
      have HR47 := Lib.hid (HR46.out.below (hb7.mono (by omega)))
      have HR67 := Lib.hid (HR6.out.below hb7)
      have HR7 := Lib.hid hm7.rd
      have HV7 := Lib.hid (HV6.out.below hb7)
      clear hb7 hm7 Hmk6 HR36 HR46 HR6 HV6
      go_wp2_with fail
      obtain ⟨bd, hbd⟩ : ∃ b, bodyB L rs most rate N = b := ⟨_, rfl⟩
      obtain ⟨nb, hnb⟩ : ∃ n, bd.length = n := ⟨_, rfl⟩
      have hnbl : nb ≤ 10000 := by
        rw [← hnb, ← hbd]
        unfold bodyB
        rw [List.length_append, List.length_append, List.length_append, Hkh.out, hn1, hn2]
        have : markB.length = 4 := rfl
        omega
      have hcat := Concat_any (some ⟨w7.heap.size, 0, none⟩) 4 4 (w7.heap.size + 1) [⟨some ⟨gm, 0, none⟩, 4, 4, markB⟩, ⟨A4, kh, c4, encAll [most, rate, N]⟩, ⟨A6, n1, c6, partB (firstB L)⟩, ⟨A7, n2, c7, partB (secB rs rate N)⟩] bd nb (by rw [← hbd]; unfold bodyB; simp [catS]) hnb (w7.alloc (.cells #[.slice (some ⟨gm, 0, none⟩) 4 4, .slice A4 kh c4, .slice A6 n1 c6, .slice A7 n2 c7] 22)) ((Rd.made w7 _ 1 4 _ rfl).mono (by simp)) (by
        intro s hs
        simp at hs
        rcases hs with rfl | rfl | rfl | rfl
        · exact ((Hmk7.out.mono (B' := w7.heap.size) (by omega)).alloc (Nat.le_refl _) _).mono (by omega)
        · exact ((HR47.out.mono (B' := w7.heap.size) (by omega)).alloc (Nat.le_refl _) _).mono (by omega)
        · exact ((HR67.out.mono (B' := w7.heap.size) (by omega)).alloc (Nat.le_refl _) _).mono (by omega)
        · exact (HR7.out.alloc (Nat.le_refl _) _).mono (by omega)) (by simp) (by omega) (by omega)
      refine hcat.mono ?_
      clear hcat
      rintro e w8 ⟨A8, c8, rfl, hm8, hb8⟩
      have hb78 := ((Below.refl w7.heap.size w7).alloc (Nat.le_refl _) (.cells #[.slice (some ⟨gm, 0, none⟩) 4 4, .slice A4 kh c4, .slice A6 n1 c6, .slice A7 n2 c7] 22)).trans (hb8.mono (by simp))
      have HV8 := Lib.hid (HV7.out.below hb78)
      have hs8 := HV8.out.1.size
      have Hm8 := Lib.hid (hm8.mono (B' := w.heap.size) (by simp; have := HV7.out.1.size; omega))
      clear hm8 hb8 hb78 HV7 Hmk7 HR47 HR67 HR7
      go_wp2_with fail
      refine (CrcOf_any A8 _ nb c8 _ bd _ ((Hm8.out.rd.alloc (by omega) _).mono (by simp)) (by omega) (Rd.made _ _ 1 1 _ rfl)).mono ?_
      rintro e w9 ⟨rfl, hb9⟩
      have hb89 := ((Below.refl w8.heap.size w8).alloc (Nat.le_refl _) (.cells #[.slice A8 nb c8] 22)).trans (hb9.mono (by simp))
      have Hm9 := Lib.hid (Hm8.out.below hb89)
      have HV9 := Lib.hid (HV8.out.below hb89)
      have hs9 := HV9.out.1.size
      clear hb9 hb89 Hm8 HV8
      go_wp2_with fail
      refine (Fixed_any (crcB bd) _).mono ?_
      rintro e w10 ⟨A10, c10, rfl, hm10, hb10⟩
      have Hm9b := Lib.hid (Hm9.out.below hb10)
      have HV10 := Lib.hid (HV9.out.below hb10)
      have hs10 := HV10.out.1.size
      have HR10 := Lib.hid hm10.rd
      have hown10 := Hm9b.out.own
      have Hone := Lib.hid (oneCell_bv (fixB (crcB bd)))
      clear hm10 hb10 Hm9 HV9
      go_wp2_with (at_builtin; refine wpList_append_rd _ rfl (.tmp 68) (.tmp 72) _ rfl w.heap.size 5 i0 (.int .u8 0) 1 1 Tryz.underlying22 hi0 hz0 hz1 hz2 rfl (by decide) (.slice A8 nb c8) nb _ rfl hown10 w10.heap.size A10 4 c10 _ rfl HR10.out Hone.out (by unfold maxLen; omega) (by omega) hs10 ?_; intro v11 w11 hown11 hg11 hat11)
      have hV11 := VB.grow HV10.out (below_grown (Below.refl w.heap.size w10) hown10 hg11 hs10)
      obtain ⟨A11, c11, rfl, hm11⟩ := made_of_own hown11
      go_ret2
      have hsn : snapB L rs most rate N = bd ++ fixB (crcB bd) := by unfold snapB; rw [hbd]
      have hsl : (snapB L rs most rate N).length = nb + 4 := by rw [hsn, List.length_append, hnb, fixB_len]
      rw [hsl, hsn, List.map_append]
      exact ⟨A11, c11, rfl, hm11, hV11⟩
end Go.Proofs.YtnileogagoipiaaGreatDoor
namespace Go.Proofs.YtnileogagoipiaaGreatDoor
open Go.RowKit
set_option linter.unusedVariables false
set_option linter.unusedSimpArgs false
set_option maxRecDepth 100000 in
theorem SaveLow_any (Bw gl N : Nat) (L : List Nat) (most : Int) (w : World) (hlv : LvW w Bw gl L) (hL : L.length = N + 1) (hN : N ≤ 1000000) (hm : most < (N : Int)) :
    Calls Tryz.prog 70 #[.pointer (some ⟨gl, 0, none⟩), .int .i64 most] w fun e w' => e = .returned (.tuple #[.slice none 0 0, .int .i64 1]) ∧ w = w' := by
  have n1 : decide (most < (N : Int)) = true := decide_eq_true hm
  go_enter Tryz.func70, Tryz.ntmps70
  go_wp2_with fail
  refine (LiveLen_any Bw gl L N w hlv hL hN).mono ?_
  rintro e w1 ⟨rfl, rfl⟩
  go_wp2_with fail
  go_ret2
  exact ⟨rfl, rfl⟩
set_option maxRecDepth 100000 in
theorem SaveHigh_any (Bw gl N : Nat) (L : List Nat) (most : Int) (w : World) (hlv : LvW w Bw gl L) (hL : L.length = N + 1) (hN : N ≤ 1000000) (hm : most > 2147483648) :
    Calls Tryz.prog 70 #[.pointer (some ⟨gl, 0, none⟩), .int .i64 most] w fun e w' => e = .returned (.tuple #[.slice none 0 0, .int .i64 1]) ∧ w = w' := by
  have n0 : ¬ (most < (N : Int)) := by omega
  have n1 : decide (most < (N : Int)) = false := decide_eq_false n0
  have n2 : decide (most > 2147483648) = true := decide_eq_true hm
  go_enter Tryz.func70, Tryz.ntmps70
  go_wp2_with fail
  refine (LiveLen_any Bw gl L N w hlv hL hN).mono ?_
  rintro e w1 ⟨rfl, rfl⟩
  go_wp2_with fail
  go_ret2
  exact ⟨rfl, rfl⟩
theorem SaveNil_any (most : Int) (w : World) :
    Calls Tryz.prog 70 #[.pointer none, .int .i64 most] w fun e w' => e = .returned (.tuple #[.slice none 0 0, .int .i64 1]) ∧ w = w' := by
  go_enter Tryz.func70, Tryz.ntmps70
  go_wp2_with fail
  go_ret2
  exact ⟨rfl, rfl⟩
end Go.Proofs.YtnileogagoipiaaGreatDoor
namespace Go.Proofs.YtnileogagoipiaaGreatDoor
open Go.RowKit
set_option linter.unusedVariables false
set_option linter.unusedSimpArgs false
def headC (most rate N : Nat) : Array Value := #[.int .i64 (most : Int), .int .i64 (rate : Int), .int .i64 (N : Int)]
theorem results_tct {P : Program} {fn : Func} {a p b : Tmp} {ty : TypeId} (h : fn.results = #[.tmp a, .cell p ty, .tmp b]) (tmps : Array Value) (w : World) (g : Nat) (t : TypeId) (cs : Array Value) (fr : Nat × Nat) (d : TypeDesc)
    (hp : tmps.getD p undef = .pointer (some ⟨g, 0, none⟩)) (hg : w.heap[g]? = some (.cells cs t fr))
    (hu : P.underlying ty = some d) (hd : (match d with | .struct _ | .array _ _ => true | _ => false) = true) (hi : (P.info? ty).map (·.size) = some cs.size) :
    (results fn tmps).run P w = .ok (.tuple #[tmps.getD a undef, .agg cs, tmps.getD b undef]) w := by
  have hp' : tmps[p]?.getD undef = .pointer (some ⟨g, 0, none⟩) := by simpa using hp
  simp [results, h, hp', asAddr, run_loadVar_row w g t ty cs fr d hg hu hd hi]
theorem results_ct {P : Program} {fn : Func} {p b : Tmp} {ty : TypeId} (h : fn.results = #[.cell p ty, .tmp b]) (tmps : Array Value) (w : World) (g : Nat) (t : TypeId) (cs : Array Value) (fr : Nat × Nat) (d : TypeDesc)
    (hp : tmps.getD p undef = .pointer (some ⟨g, 0, none⟩)) (hg : w.heap[g]? = some (.cells cs t fr))
    (hu : P.underlying ty = some d) (hd : (match d with | .struct _ | .array _ _ => true | _ => false) = true) (hi : (P.info? ty).map (·.size) = some cs.size) :
    (results fn tmps).run P w = .ok (.tuple #[.agg cs, tmps.getD b undef]) w := by
  have hp' : tmps[p]?.getD undef = .pointer (some ⟨g, 0, none⟩) := by simpa using hp
  simp [results, h, hp', asAddr, run_loadVar_row w g t ty cs fr d hg hu hd hi]
def LoadPost (w : World) (t : List UInt8) (rate most : Nat) (e : Ending) (w' : World) : Prop :=
  ∃ gl, e = .returned (.tuple #[.pointer (some ⟨gl, 0, none⟩), .agg (headC most rate t.length), .int .i64 0]) ∧ TpAt w' w.heap.size gl t rate ∧ VB w.heap.size w w'
theorem ShelfRow.sameH {w w' : World} {B : Nat} {v : Value} {L : List Nat} {lv m : Nat} (h : ShelfRow w B v L lv m) (k : ∀ b t cs, t ≠ 112 → Bk w b t cs → Bk w' b t cs) : ShelfRow w' B v L lv m := by
  obtain ⟨G, h1, h2⟩ := h
  exact ⟨G, own_same h1 fun b cs _ hb => k _ _ _ (by decide) hb, fun p hp => ⟨(h2 p hp).1, (h2 p hp).2.same fun b t cs ht hb => k _ _ _ (by rintro rfl; revert ht; decide) hb⟩⟩
theorem WalkAt.sameH {w w' : World} {B gk : Nat} {L : List Nat} (h : WalkAt w B gk L) (k : ∀ b t cs, t ≠ 112 → Bk w b t cs → Bk w' b t cs) : WalkAt w' B gk L := by
  obtain ⟨gv, gt, h1, ⟨hB, S, v, h2, h3⟩, h4⟩ := h
  exact ⟨gv, gt, k _ _ _ (by decide) h1, ⟨hB, S, v, k _ _ _ (by decide) h2, fun lv hl => (h3 lv hl).sameH k⟩, k _ _ _ (by decide) h4⟩
theorem PermAt.sameH {w w' : World} {B gp ga : Nat} {vl vo vt vf : Value} {R P : Nat} {ks : List Nat} {C : List (Nat × Nat)} {tk : List Bool} {fr : List Nat} (h : PermAt w B gp ga vl vo vt vf R P ks C tk fr) (k : ∀ b t cs, t ≠ 112 → Bk w b t cs → Bk w' b t cs) : PermAt w' B gp ga vl vo vt vf R P ks C tk fr :=
  ⟨k _ _ _ (by decide) h.blk, own_same h.lrow fun b cs _ hb => k _ _ _ (by decide) hb, own_same h.orow fun b cs _ hb => k _ _ _ (by decide) hb, k _ _ _ (by decide) h.ar, own_same h.trow fun b cs _ hb => k _ _ _ (by decide) hb, own_same h.frow fun b cs _ hb => k _ _ _ (by decide) hb, h.apart, h.lt, h.lo⟩
theorem TpAt.sameH {w w' : World} {Bw gl rate : Nat} {t : List UInt8} (h : TpAt w Bw gl t rate) (k : ∀ b t cs, t ≠ 112 → Bk w b t cs → Bk w' b t cs) : TpAt w' Bw gl t rate := by
  obtain ⟨rs, gk, gp, ga, vl, vo, vt, B, tk, h1, h2, h3⟩ := h
  exact ⟨rs, gk, gp, ga, vl, vo, vt, B, tk, h1, ⟨k _ _ _ (by decide) h2.blk, h2.walk.sameH k, h2.perm.sameH k⟩, h3⟩
theorem bk_type {w : World} {b : Nat} {t t' : TypeId} {cs cs' : Array Value} (h : Bk w b t cs) (h' : Bk w b t' cs') : t = t' := by
  unfold Bk at h h'
  rw [h] at h'
  injection h' with h'
  injection h' with _ ht
theorem load_ret {w w' : World} {tmps : Array Value} {g gl rate most N : Nat} {t : List UInt8} (hp : tmps.getD 3 undef = .pointer (some ⟨g, 0, none⟩)) (h2 : tmps.getD 2 undef = .pointer (some ⟨gl, 0, none⟩)) (h4 : tmps.getD 4 undef = .int .i64 0) (hb : Bk w' g 112 (headC most rate N))
    (ht : TpAt w' w.heap.size gl t rate) (hv : VB w.heap.size w w') :
    bodyPost Tryz.prog Tryz.f71 (fun e w' => ∃ gl, e = .returned (.tuple #[.pointer (some ⟨gl, 0, none⟩), .agg (headC most rate N), .int .i64 0]) ∧ TpAt w' w.heap.size gl t rate ∧ VB w.heap.size w w') .ret ⟨tmps, []⟩ w' := by
  have hr := results_tct (P := Tryz.prog) (fn := Tryz.f71) (a := 2) (p := 3) (b := 4) (ty := 112) rfl tmps w' g 112 (headC most rate N) (0, 0) _ hp hb Tryz.underlying112 rfl (by kernel_rfl)
  rw [h2, h4] at hr
  exact bodyPost_ret hr rfl ⟨gl, rfl, ht, hv⟩
set_option maxRecDepth 100000 in
set_option maxHeartbeats 4000000 in
theorem SnapLoad_any (A : Option Addr) (c Bs most rate : Nat) (t : List UInt8) (rs : List Nat) (w : World) (hs : IsSuf (symL t) rs) (hn : t.length ≤ 127) (hr1 : 1 ≤ rate) (hr2 : rate ≤ 64) (hm1 : t.length ≤ most) (hm2 : most ≤ 2147483648)
    (hr : Rd w Bs 1 A (snapB (lastL (symL t) rs) rs most rate t.length).length ((snapB (lastL (symL t) rs) rs most rate t.length).map bv)) (hB : Bs ≤ w.heap.size) (hcl : (snapB (lastL (symL t) rs) rs most rate t.length).length ≤ c) (hcm : c ≤ maxLen) :
    Calls Tryz.prog 71 #[.slice A (snapB (lastL (symL t) rs) rs most rate t.length).length c] w (LoadPost w t rate most) := by
  obtain ⟨L, hL⟩ : ∃ L, lastL (symL t) rs = L := ⟨_, rfl⟩
  rw [hL] at hr hcl ⊢
  have hlt := lastL_lt (rs := rs) (symL_lt t)
  have hlen : L.length = t.length + 1 := by rw [← hL, lastL_len, hs.len, symL_len]
  rw [hL] at hlt
  obtain ⟨N, hN⟩ : ∃ N, t.length = N := ⟨_, rfl⟩
  unfold LoadPost
  rw [hN] at hr hcl hlen hm1 hn ⊢
  obtain ⟨bd, hbd⟩ : ∃ b, bodyB L rs most rate N = b := ⟨_, rfl⟩
  obtain ⟨p1, p2, p3, p4, p5, hat, hp5⟩ := SnAt.of L rs most rate N
  rw [hbd] at hat hp5
  have hsn : snapB L rs most rate N = bd ++ fixB (crcB bd) := by unfold snapB; rw [hbd]
  have hsl : (snapB L rs most rate N).length = p5 + 4 := by rw [hsn, List.length_append, hp5, fixB_len]
  rw [hsl] at hr hcl ⊢
  have hp54 : 4 ≤ p5 := by
    have := hat.h1
    have := hat.h2
    have := hat.h3
    have := hat.h4
    have := hat.h5
    omega
  have h8 : ¬ (p5 + 4 < 8) := by omega
  have hp5m : p5 ≤ 10000 := by
    have h1 := hat.h1
    have h2 := hat.h2
    have h3 := hat.h3
    have h4 := hat.h4
    have h5 := hat.h5
    have e1 := encB_len most
    have e2 := encB_len rate
    have e3 := encB_len N
    have e4 := encB_len (firstB L).length
    have e5 := encB_len (secB rs rate N).length
    have e6 := firstB_len L
    have e7 := secK_len rs rate (N / rate + 1)
    have e8 : N / rate ≤ N := Nat.div_le_self _ _
    rw [← secB_eq] at e7
    rw [partB_len] at h4 h5
    omega
  have hrb := (hr.cut_hi0 (k := p5) (cap := c) (by omega))
  have hcr := crcB_lt bd
  have htk : ((snapB L rs most rate N).map bv).take (p5 * 1) = bd.map bv := by
    rw [← List.map_take, hsn, Nat.mul_one, List.take_left' hp5]
  rw [htk] at hrb
  have hofb := ofB_fix bd [] (crcB bd) hcr
  rw [List.append_nil, ← hsn, hp5] at hofb
  have hcof : ∀ (A AP : Option Addr) (n c cp : Nat) (w : World), Rd w w.heap.size 1 A n (bd.map bv) → n ≤ 1099511627776 → Rd w w.heap.size 1 AP 1 [.slice A n c] → Calls Tryz.prog 123 #[.slice AP 1 cp] w fun e w' => e = .returned (.int .u32 ((crcB bd : Nat) : Int)) ∧ Below w.heap.size w w' := fun A AP n c cp w h1 h2 h3 => CrcOf_any A AP n c cp bd w h1 h2 h3
  obtain ⟨sm, hsm⟩ : ∃ x, crcB bd = x := ⟨_, rfl⟩
  rw [hsm] at hofb hcof
  have Hcof := Lib.hid hcof
  clear hcof
  have Hr := Lib.hid hr
  have Hrb := Lib.hid hrb
  have Hat := Lib.hid hat
  have Hlt := Lib.hid hlt
  have Hlen := Lib.hid hlen
  have HL := Lib.hid hL
  have HN := Lib.hid hN
  have Hs := Lib.hid hs
  have Hsn := Lib.hid hsn
  have Hbd := Lib.hid hbd
  have Hp5 := Lib.hid hp5
  have Hofb := Lib.hid hofb
  have Hsl := Lib.hid hsl
  clear hr hrb hat hlt hlen hL hN hs hsn hbd hp5 htk hofb hsl hcr hsm
  have kc := run_cut_hi (P := Tryz.prog) 22 5 1 Tryz.underlying22 (fun w => by kernel_rfl) A (p5 + 4) c p5 (by omega)
  have e1 : IntKind.i64.wrap (((p5 + 4 : Nat) : Int) - 4) = (p5 : Int) := by rw [IntKind.wrap_i64]; omega
  go_enter Tryz.func71, Tryz.ntmps71
  go_wp2_with fail
  obtain ⟨gh, hgh⟩ : ∃ g, w.heap.size = g := ⟨_, rfl⟩
  have hh0 : Bk (w.alloc (.cells #[.int .i64 0, .int .i64 0, .int .i64 0] 112)) gh 112 #[.int .i64 0, .int .i64 0, .int .i64 0] := hgh ▸ Bk.new _ _ _
  have hbl0 : Below w.heap.size w (w.alloc (.cells #[.int .i64 0, .int .i64 0, .int .i64 0] 112)) := (Below.refl _ _).alloc (Nat.le_refl _) _
  have hs0 : (w.alloc (.cells #[.int .i64 0, .int .i64 0, .int .i64 0] 112)).heap.size = gh + 1 := by simp [hgh]
  rw [hgh] at hbl0 hB ⊢
  generalize w.alloc (.cells #[.int .i64 0, .int .i64 0, .int .i64 0] 112) = W0 at hh0 hbl0 hs0 ⊢
  have Hh0 := Lib.hid hh0
  have Hb0 := Lib.hid hbl0
  clear hh0 hbl0
  refine (Of_is A (p5 + 4) c (snapB L rs most rate N) (p5 : Int) Bs W0 sm 0 Hofb.out (Hr.out.below (Hb0.out.mono hB)) (by unfold maxLen; omega)).mono ?_
  rintro e w1 ⟨rfl, rfl⟩
  go_wp2_with fail
  have hR1 := Hrb.out.below (Hb0.out.mono hB)
  refine (Hcof.out (cutA A c 0 1) _ p5 c _ _ (((hR1.mono (by omega : Bs ≤ W0.heap.size)).alloc (Nat.le_refl _) _).mono (by simp)) (by omega) (Rd.made' _ _ 1 1 _ _ rfl hs0.symm)).mono ?_
  rintro e w2 ⟨rfl, hb2⟩
  have hb02 := ((Below.refl W0.heap.size W0).alloc (Nat.le_refl _) (.cells #[.slice (cutA A c 0 1) p5 c] 22)).trans (hb2.mono (by simp))
  have hs2 := hb02.size
  have Hb2 := Lib.hid (Hb0.out.trans (hb02.mono (by omega)))
  have Hh2 := Lib.hid (Hh0.out.below hb02 Hh0.out.lt)
  clear hb2 hb02 Hb0 Hh0 hR1
  go_wp2_with fail
  have hrd : ∀ wX, Below gh w wX → Rd wX Bs 1 (cutA A c 0 1) p5 (bd.map bv) := fun wX h => Hrb.out.below (h.mono hB)
  have Hrd := Lib.hid hrd
  obtain ⟨gr, hgr⟩ : ∃ g, w2.heap.size = g := ⟨_, rfl⟩
  have hr0 : Bk (w2.alloc (.cells #[.slice (cutA A c 0 1) p5 c, .int .i64 4, .bool false] 157)) gr 157 (rdrC (cutA A c 0 1) p5 c 4) := hgr ▸ Bk.new _ _ _
  have hbl3 := Hb2.out.alloc (by omega) (.cells #[.slice (cutA A c 0 1) p5 c, .int .i64 4, .bool false] 157)
  have hh3 := Hh2.out.alloc (.cells #[.slice (cutA A c 0 1) p5 c, .int .i64 4, .bool false] 157)
  have hsz3 : gr < (w2.alloc (.cells #[.slice (cutA A c 0 1) p5 c, .int .i64 4, .bool false] 157)).heap.size := hr0.lt
  have hgrg : gh < gr := by omega
  rw [hgr]
  generalize w2.alloc (.cells #[.slice (cutA A c 0 1) p5 c, .int .i64 4, .bool false] 157) = W2 at hr0 hbl3 hh3 hsz3 ⊢
  have Hr0 := Lib.hid hr0
  have Hbl3 := Lib.hid hbl3
  have Hh3 := Lib.hid hh3
  have hkb : ∀ (wX wY : World), Below gh w wX → gr < wX.heap.size → Keep (fun b => b = gr) wX wY → Below gh w wY := fun wX wY h1 h2 h3 => h1.trans (h3.to_below (by omega) (fun b hb e => by omega))
  have Hkb := Lib.hid hkb
  clear hrd hgr hr0 hbl3 hh3 hkb Hb2 Hh2 Hcof hs2 hs0
  have hmx : p5 ≤ c := by omega
  refine (Number_any gr (cutA A c 0 1) p5 c Bs 4 p1 most 2147483648 bd W2 Hr0.out (Hrd.out _ Hbl3.out) hmx hcm (Hat.out.n1 (by omega)) (by omega) (by omega)).mono ?_
  rintro e w3 ⟨rfl, hr3, hk3⟩
  have Hr3 := Lib.hid hr3
  have Hbl4 := Lib.hid (Hkb.out _ _ Hbl3.out hsz3 hk3)
  have Hh4 := Lib.hid (hk3.bk Hh3.out (by omega))
  have hsz4 : gr < w3.heap.size := hr3.lt
  clear hr3 hk3 Hr0 Hbl3 Hh3 hsz3
  go_wp2_with fail
  refine (Number_any gr (cutA A c 0 1) p5 c Bs p1 p2 rate 64 bd w3 Hr3.out (Hrd.out _ Hbl4.out) hmx hcm (Hat.out.n2 (by omega)) (by omega) (by omega)).mono ?_
  rintro e w4 ⟨rfl, hr4, hk4⟩
  have Hr4 := Lib.hid hr4
  have Hbl5 := Lib.hid (Hkb.out _ _ Hbl4.out hsz4 hk4)
  have Hh5 := Lib.hid (hk4.bk Hh4.out (by omega))
  have hsz5 : gr < w4.heap.size := hr4.lt
  clear hr4 hk4 Hr3 Hbl4 Hh4 hsz4
  go_wp2_with fail
  refine (Number_any gr (cutA A c 0 1) p5 c Bs p2 p3 N 2147483648 bd w4 Hr4.out (Hrd.out _ Hbl5.out) hmx hcm (Hat.out.n3 (by omega)) (by omega) (by omega)).mono ?_
  rintro e w5 ⟨rfl, hr5, hk5⟩
  have Hr5 := Lib.hid hr5
  have Hbl6 := Lib.hid (Hkb.out _ _ Hbl5.out hsz5 hk5)
  have Hh6 := Lib.hid (hk5.bk Hh5.out (by omega))
  have hsz6 : gr < w5.heap.size := hr5.lt
  clear hr5 hk5 Hr4 Hbl5 Hh5 hsz5
  go_wp2_with fail
  obtain ⟨gH, hgH⟩ : ∃ g, w5.heap.size = g := ⟨_, rfl⟩
  have hH0 : Bk (w5.alloc (.cells #[.int .i64 (most : Int), .int .i64 (rate : Int), .int .i64 (N : Int)] 112)) gH 112 (headC most rate N) := hgH ▸ Bk.new _ _ _
  have hbl7 := Hbl6.out.alloc (by omega) (.cells #[.int .i64 (most : Int), .int .i64 (rate : Int), .int .i64 (N : Int)] 112)
  have hh7 := Hh6.out.alloc (.cells #[.int .i64 (most : Int), .int .i64 (rate : Int), .int .i64 (N : Int)] 112)
  have hr7 := Hr5.out.alloc (.cells #[.int .i64 (most : Int), .int .i64 (rate : Int), .int .i64 (N : Int)] 112)
  have hgHr : gr < gH := by omega
  rw [hgH]
  generalize w5.alloc (.cells #[.int .i64 (most : Int), .int .i64 (rate : Int), .int .i64 (N : Int)] 112) = W5 at hH0 hbl7 hh7 hr7 ⊢
  have hsz7 : gr < W5.heap.size := hr7.lt
  have HH0 := Lib.hid hH0
  have Hbl7 := Lib.hid hbl7
  have Hh7 := Lib.hid hh7
  have Hr7 := Lib.hid hr7
  clear hgH hH0 hbl7 hh7 hr7 Hbl6 Hh6 Hr5 hsz6
  obtain ⟨k1, hk1⟩ : ∃ k, (firstB L).length = k := ⟨_, rfl⟩
  obtain ⟨k2, hk2⟩ : ∃ k, (secB rs rate N).length = k := ⟨_, rfl⟩
  have hk1l := firstB_len L
  have hk2l := secK_len rs rate (N / rate + 1)
  have hk2g := secK_ge rs rate (N / rate + 1)
  have hNd : N / rate ≤ N := Nat.div_le_self _ _
  rw [← secB_eq, hk2] at hk2l hk2g
  rw [hk1, Hlen.out] at hk1l
  obtain ⟨q1, hq1, hq1e, hq1t, hq1l⟩ := Hat.out.f1 (by omega)
  obtain ⟨q2, hq2, hq2e, hq2t, hq2l⟩ := Hat.out.f2 (by omega)
  rw [hk1] at hq1 hq1e hq1t
  rw [hk2] at hq2 hq2e hq2t
  rw [Hp5.out] at hq1l hq2l
  refine (ReadPart_any gr (cutA A c 0 1) p5 c Bs p3 q1 k1 p4 bd W5 Hr7.out (Hrd.out _ Hbl7.out) hmx hcm (by omega) hq1 hq1e (by omega)).mono ?_
  rintro e w6 ⟨rfl, hr6, hk6⟩
  have Hr6 := Lib.hid hr6
  have Hbl8 := Lib.hid (Hkb.out _ _ Hbl7.out hsz7 hk6)
  have Hh8 := Lib.hid (hk6.bk Hh7.out (by omega))
  have HH8 := Lib.hid (hk6.bk HH0.out (by omega))
  have hsz8 : gr < w6.heap.size := hr6.lt
  clear hr6 hk6 Hr7 Hbl7 Hh7 HH0 hsz7
  go_wp2_with fail
  refine (ReadPart_any gr (cutA A c 0 1) p5 c Bs p4 q2 k2 p5 bd w6 Hr6.out (Hrd.out _ Hbl8.out) hmx hcm (by omega) hq2 (by omega) (by omega)).mono ?_
  rintro e w7 ⟨rfl, hr7, hk7⟩
  have d2 : w7.cell? ⟨gr, 2, none⟩ = some (.bool false) := hr7.cell 2
  have Hbl9 := Lib.hid (Hkb.out _ _ Hbl8.out hsz8 hk7)
  have Hh9 := Lib.hid (hk7.bk Hh8.out (by omega))
  have hH9 := hk7.bk HH8.out (by omega)
  have HH9 := Lib.hid hH9
  have g0 : w7.cell? ⟨gH, 0, none⟩ = some (.int .i64 (most : Int)) := hH9.cell 0
  have g1 : w7.cell? ⟨gH, 1, none⟩ = some (.int .i64 (rate : Int)) := hH9.cell 1
  have g2 : w7.cell? ⟨gH, 2, none⟩ = some (.int .i64 (N : Int)) := hH9.cell 2
  clear hr7 hk7 Hr6 Hbl8 Hh8 HH8 hsz8 hH9
  have r1 : ¬ ((rate : Int) < 1) := by omega
  have r2 : decide ((rate : Int) < 1) = false := decide_eq_false r1
  have r3 : ¬ ((N : Int) > (most : Int)) := by omega
  have r4 : decide ((N : Int) > (most : Int)) = false := decide_eq_false r3
  have r5 : decide (most < N) = false := decide_eq_false (by omega)
  go_wp2_with fail
  have hrf := ((Hrd.out _ Hbl9.out).cut (k := q1) (cap := c) (by omega) hmx).cut_hi (k := k1) (by omega)
  have hft : ((bd.map bv).drop (q1 * 1)).take (k1 * 1) = (firstB L).map bv := by
    rw [Nat.mul_one, Nat.mul_one, ← List.map_drop, ← List.map_take, hq1t]
  rw [hft] at hrf
  have hgb := getRuns_back (symsI L) (symsI_ok Hlt.out) (by rw [symsI_len, Hlen.out]; omega) ((N : Int) + 1) (by rw [symsI_len, Hlen.out]; omega) []
  rw [List.append_nil, if_pos rfl] at hgb
  refine (RunGet_is (cutA (cutA A c 0 1) c q1 1) k1 (c - q1) Bs (firstB L) ((N : Int) + 1) w7 (symsI L) (N + 1) 0 hgb (by rw [symsI_len, Hlen.out]) hrf (by have := Hbl9.out.size; omega) (by omega) (by omega) (by omega) (by omega)).mono ?_
  rintro e w8 ⟨A8, c8, rfl, hm8, hb8⟩
  have hm8r := hm8.rd
  rw [← sv_iv] at hm8r
  have hbk := SortedBack_any A8 c8 w8.heap.size t rs w8 Hs.out (by rw [HL.out, HN.out]; exact hm8r) (Nat.le_refl _) (by rw [HN.out]; omega)
  rw [HN.out] at hbk
  have hgHl : gH < w7.heap.size := HH9.out.lt
  have Hbl10 := Lib.hid (Hbl9.out.trans (hb8.mono (by have := Hbl9.out.size; omega)))
  have Hh10 := Lib.hid (Hh9.out.below hb8 Hh9.out.lt)
  have HH10 := Lib.hid (HH9.out.below hb8 HH9.out.lt)
  clear hm8 hb8 hm8r hgb hft hrf g0 g1 g2 d2 r1 r2 r3 r4 r5 hq1 hq2 hq1t hq2t HH9 Hh9 Hbl9 Hrd Hkb Hat hgHl
  go_wp2_with fail
  refine hbk.mono ?_
  clear hbk
  rintro e w9 ⟨A9, c9, rfl, hm9, hb9⟩
  have hH11 := HH10.out.below hb9 HH10.out.lt
  have Hbl11 := Lib.hid (Hbl10.out.trans (hb9.mono (by have := Hbl10.out.size; omega)))
  have Hh11 := Lib.hid (Hh10.out.below hb9 Hh10.out.lt)
  have HH11 := Lib.hid hH11
  have Hm9 := Lib.hid hm9.rd
  have g1 : w9.cell? ⟨gH, 1, none⟩ = some (.int .i64 (rate : Int)) := hH11.cell 1
  clear hb9 hm9 hH11 Hbl10 Hh10 HH10
  go_wp2_with fail
  have hnew := LiveNew_any rate (some ⟨w9.heap.size, 0, none⟩) 1 1 (w9.heap.size + 1) [(⟨A9, N, c9, t⟩ : Sl)] t N (by simp [catS]) HN.out (w9.alloc (.cells #[.slice A9 N c9] 22)) ((Rd.made w9 _ 1 1 _ rfl).mono (by simp)) (by
    intro s hs
    simp at hs
    subst hs
    exact (Hm9.out.alloc (Nat.le_refl _) _).mono (by omega)) (by simp) (by omega) hn hr1 hr2
  refine hnew.mono ?_
  clear hnew
  rintro e w10 ⟨gl, gk, gp, ga, vl, vo, vt, B', tk, rs', hs', rfl, hgl, hla, htk, hb10⟩
  have hrs := hs'.unique Hs.out
  subst hrs
  rw [HL.out] at hla
  have hb910 := ((Below.refl w9.heap.size w9).alloc (Nat.le_refl _) (.cells #[.slice A9 N c9] 22)).trans (hb10.mono (by simp))
  have hH12 := HH11.out.below hb910 HH11.out.lt
  have Hbl12 := Lib.hid (Hbl11.out.trans (hb910.mono (by have := Hbl11.out.size; omega)))
  have Hh12 := Lib.hid (Hh11.out.below hb910 Hh11.out.lt)
  have HH12 := Lib.hid hH12
  have g0 : w10.cell? ⟨gH, 0, none⟩ = some (.int .i64 (most : Int)) := hH12.cell 0
  have hgl9 : gH < w9.heap.size := HH11.out.lt
  have hgh9 : gh < w9.heap.size := Hh11.out.lt
  have Hla := Lib.hid hla
  have Hs' := Lib.hid hs'
  rw [World.size_alloc] at hla
  have hs910 : w9.heap.size + 1 ≤ w10.heap.size := by have := hb10.size; simpa using this
  have hsave := SnapSave_any (w9.heap.size + 1) gl gk gp ga vl vo vt B' rate most t rs' tk w10 (by rw [HL.out, HN.out]; exact hla) hs' (by rw [HN.out]; omega) hr1 hr2 (by rw [HN.out]; omega) hm2
  unfold SavePost at hsave
  rw [HL.out, HN.out, Hsl.out] at hsave
  have hb8s := Hbl12.out.size
  clear hla hs' htk hb10 hb910 hH12 g1 Hbl11 Hh11 HH11 Hm9 hgl
  go_wp2_with fail
  refine hsave.mono ?_
  clear hsave
  rintro e w11 ⟨A11, c11, rfl, hm11, hv11⟩
  have hk11 : Below (w9.heap.size + 1) w10 w11 := hv11.2.to_below hs910 (fun b hb e => by omega)
  have hw11 := hv11.1.size
  have hH13 : Bk w11 gH 112 (headC most rate N) := HH12.out.below hk11 (by omega)
  have hh13 : Bk w11 gh 112 #[.int .i64 0, .int .i64 0, .int .i64 0] := Hh12.out.below hk11 (by omega)
  have Hbl13 := Lib.hid (Hbl12.out.trans (hk11.mono (by omega)))
  have heq := BytesEqual_any A11 A (p5 + 4) (p5 + 4) c11 c w11.heap.size (snapB L rs' most rate N) (snapB L rs' most rate N) w11 hm11.rd ((Hr.out.below (Hbl13.out.mono hB)).mono (by omega))
  rw [beq_self_eq_true] at heq
  have HH13 := Lib.hid hH13
  have Hh13 := Lib.hid hh13
  have Hla13 := Lib.hid (Hla.out.vis hv11.1)
  clear hm11 hv11 hk11 hH13 hh13 Hbl12 Hh12 HH12 g0 Hla
  go_wp2_with fail
  refine heq.mono ?_
  clear heq
  rintro e w12 ⟨rfl, hb12⟩
  have hH14 := HH13.out.below hb12 HH13.out.lt
  have hh14 := Hh13.out.below hb12 Hh13.out.lt
  have Hbl14 := Lib.hid (Hbl13.out.trans (hb12.mono (by omega)))
  have Hla14 := Lib.hid (Hla13.out.vis (Vis.of_below hb12))
  have HH14 := Lib.hid hH14
  have Hh14 := Lib.hid hh14
  clear hb12 hH14 hh14 Hbl13 HH13 Hh13 Hla13
  go_wp2_with fail
  have g0 : w12.cell? ⟨gH, 0, none⟩ = some (.int .i64 (most : Int)) := HH14.out.cell 0
  have g1 : w12.cell? ⟨gH, 1, none⟩ = some (.int .i64 (rate : Int)) := HH14.out.cell 1
  have g2 : w12.cell? ⟨gH, 2, none⟩ = some (.int .i64 (N : Int)) := HH14.out.cell 2
  have j0 : w12.cell? ⟨gh, 0, none⟩ = some (.int .i64 0) := Hh14.out.cell 0
  have j1 : w12.cell? ⟨gh, 1, none⟩ = some (.int .i64 0) := Hh14.out.cell 1
  have j2 : w12.cell? ⟨gh, 2, none⟩ = some (.int .i64 0) := Hh14.out.cell 2
  have f0 := Hh14.out.frozen 0
  have f1 := Hh14.out.frozen 1
  have f2 := Hh14.out.frozen 2
  have hfin : Bk ((((w12.setCell ⟨gh, 0, none⟩ (.int .i64 (most : Int))).setCell ⟨gh, 1, none⟩ (.int .i64 (rate : Int))).setCell ⟨gh, 2, none⟩ (.int .i64 (N : Int))).drew) gh 112 (headC most rate N) := by
    have := (((Hh14.out.set 0 (.int .i64 (most : Int))).set 1 (.int .i64 (rate : Int))).set 2 (.int .i64 (N : Int))).drew
    simpa [headC] using this
  have hbfin : Below gh w ((((w12.setCell ⟨gh, 0, none⟩ (.int .i64 (most : Int))).setCell ⟨gh, 1, none⟩ (.int .i64 (rate : Int))).setCell ⟨gh, 2, none⟩ (.int .i64 (N : Int))).drew) :=
    (((Hbl14.out.setCell (p := ⟨gh, 0, none⟩) (Nat.le_refl _) _).setCell (p := ⟨gh, 1, none⟩) (Nat.le_refl _) _).setCell (p := ⟨gh, 2, none⟩) (Nat.le_refl _) _).drew
  have hsame : ∀ b t cs, t ≠ 112 → Bk w12 b t cs → Bk ((((w12.setCell ⟨gh, 0, none⟩ (.int .i64 (most : Int))).setCell ⟨gh, 1, none⟩ (.int .i64 (rate : Int))).setCell ⟨gh, 2, none⟩ (.int .i64 (N : Int))).drew) b t cs := fun b t cs ht hb => by
    have hne : b ≠ gh := fun e => by
      subst e
      exact ht (bk_type hb Hh14.out)
    exact (((hb.far (p := ⟨gh, 0, none⟩) hne _).far (p := ⟨gh, 1, none⟩) hne _).far (p := ⟨gh, 2, none⟩) hne _).drew
  have hlaf : TpAt w12 gh gl t rate := by
    refine TpAt.mono ⟨rs', gk, gp, ga, vl, vo, vt, B', tk, Hs'.out, ?_, by rw [HN.out]; omega⟩ (B := (w9.alloc (.cells #[.slice A9 N c9] 22)).heap.size) (by rw [World.size_alloc]; omega)
    rw [HL.out, HN.out]
    exact Hla14.out
  have Hfin := Lib.hid hfin
  have Hbfin := Lib.hid hbfin
  have Htfin := Lib.hid (hlaf.sameH hsame)
  clear hfin hbfin hsame hlaf
  go_region
  go_wp2_with fail
  subst hgh
  refine load_ret rfl rfl rfl Hfin.out Htfin.out (VisK.of_below Hbfin.out)
end Go.Proofs.YtnileogagoipiaaGreatDoor
