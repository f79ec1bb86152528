/- The walks of take.Piece and take.Text. Conditions: a text of at most 127 bytes, as New makes it; the table of math/bits stands in its variable. The walks of take.Piece where it refuses and of take.Text. Conditions: a text of at most 127 bytes, as New makes it; the table of math/bits stands in its variable. The walk of law15's told. Conditions: the table of math/bits stands in its variable. -/
import Derived.Test.YthkkcelfgcholaaGreatDoorPkO
import Derived.Test.YthkkcelfgcholaaGreatDoorPkK
import Derived.Test.YthkkcelfgcholaaGreatDoorPkL
namespace Go.Proofs.YthkkcelfgcholaaGreatDoor
open Go.RowKit
set_option linter.unusedVariables false
set_option linter.unusedSimpArgs false
def PiecePost (w : World) (Bw : Nat) (t : List UInt8) (at_ n : Nat) (e : Ending) (w' : World) : Prop :=
  ∃ A c, e = .returned (.tuple #[.slice A n c, .int .i64 0]) ∧ Made w' w.heap.size 5 1 A n c (((t.drop at_).take n).map bv) ∧ VB Bw w w'
set_option maxRecDepth 100000 in
set_option maxHeartbeats 4000000 in
theorem Piece_any (Bw gl rate : Nat) (t : List UInt8) (at_ n : Nat) (w : World) (h : TpAt w Bw gl t rate) (hT : TabW w) (hB0 : 0 < Bw) (hr : at_ + n ≤ t.length) :
    Calls Tryz.prog 8 #[.pointer (some ⟨gl, 0, none⟩), .int .i64 (at_ : Int), .int .i64 (n : Int)] w (PiecePost w Bw t at_ n) := by
  obtain ⟨i0, hi0, hz0, hz1, hz2⟩ := info_parts u8_info
  obtain ⟨rs, gk, gp, pr, hs, hl, hrt, hz0, hn127⟩ := h
  have hlen : rs.length = t.length + 1 := by rw [hs.len, symL_len]
  have hL : (lastL (symL t) rs).length = t.length + 1 := by rw [lastL_len, hlen]
  have hrow : ∀ p, p ≤ t.length → ∃ j, rs[j]? = some p := fun p hp => by
    obtain ⟨j, hj, e⟩ := hs.row (p := p) (by rw [symL_len]; omega)
    exact ⟨j, List.getElem?_eq_some_iff.2 ⟨hj, e⟩⟩
  have hon : ∀ (i j p : Nat) (c : UInt8), rs[i]? = some (p + 1) → rs[j]? = some p → t[p]? = some c → (lastL (symL t) rs)[i]? = some (c.toNat + 1) ∧ narL (lastL (symL t) rs) (c.toNat + 1) i = j := fun i j p c h1 h2 h3 => on_row hs h1 h2 h3
  obtain ⟨i, hi⟩ := hrow at_ (by omega)
  have hrowat := LiveRowG_any Bw gl gk gp rate t rs pr i at_ w hl hrt hs hn127 hi
  obtain ⟨mv0, hblk0⟩ := hl.blk
  clear hrt hz0
  obtain ⟨N, hN⟩ : ∃ N, t.length = N := ⟨_, rfl⟩
  rw [hN] at hL hrow hr hn127
  have hw0 : 0 < w.heap.size := hT.pos
  have hgl := hblk0.lt
  have n1 : decide ((at_ : Int) < 0) = false := by simp
  have n2 : decide ((n : Int) < 0) = false := by simp
  have n3 : ¬ N < at_ := by omega
  have n4 : decide (N < at_) = false := decide_eq_false n3
  obtain ⟨d, hd⟩ : ∃ d, N - at_ = d := ⟨_, rfl⟩
  have n5 : IntKind.i64.wrap ((N : Int) - (at_ : Int)) = (d : Int) := by rw [IntKind.wrap_i64]; omega
  have n6 : ¬ d < n := by omega
  have n7 : decide (d < n) = false := decide_eq_false n6
  have Hlv := Lib.hid hl.lvw
  have Hwalk := Lib.hid hl.walk
  have Hblk0 := Lib.hid hblk0
  have Hrow := Lib.hid hrow
  have Hon := Lib.hid hon
  have HL := Lib.hid hL
  have HLt := Lib.hid (lastL_lt (symL_lt t) (rs := rs))
  have Hi := Lib.hid hi
  have HT := Lib.hid hT
  have HN := Lib.hid hN
  clear hblk0 hl hrow hon hL hi hT hs hlen hN hd
  unfold PiecePost
  go_enter Tryz.func8, Tryz.ntmps8
  go_wp2_with fail
  refine (LiveLen_any Bw gl _ N w Hlv.out HL.out (by omega)).mono ?_
  rintro e w1 ⟨rfl, rfl⟩
  go_wp2_with fail
  refine (LiveLen_any Bw gl _ N w Hlv.out HL.out (by omega)).mono ?_
  rintro e w1 ⟨rfl, rfl⟩
  go_wp2_with fail
  refine hrowat.mono ?_
  rintro e w2 ⟨rfl, hv2⟩
  have Hv2 := Lib.hid hv2
  clear hrowat hv2 n1 n2 n3 n4 n5 n6 n7
  go_wp2_with fail
  go_loopw [8, 9, 40] (fun v x i wr => ∃ k row : Nat, k ≤ n ∧ i = .int .i64 (k : Int) ∧ x = .int .i64 (row : Int) ∧ rs[row]? = some (at_ + k) ∧ wr.ownsRow w.heap.size 5 1 v k (((t.drop at_).take k).map bv) ∧ VB Bw w wr) (fun _ _ i _ => n - (intOf i).toNat)
  case atStart => exact ⟨0, i, Nat.zero_le _, rfl, rfl, Hi.out, World.ownsRow_nil _ _ _ _, Hv2.out⟩
  case round =>
    obtain ⟨k, row, hk, rfl, rfl, hrw, hown, hv⟩ := hrel
    by_cases hlt : k < n
    · obtain ⟨c, hc⟩ : ∃ c, t[at_ + k]? = some c := ⟨_, List.getElem?_eq_getElem (by rw [HN.out]; omega)⟩
      obtain ⟨row', hrw2⟩ := Hrow.out (at_ + k + 1) (by omega)
      obtain ⟨hs1, hs2⟩ := Hon.out row' row (at_ + k) c hrw2 hrw hc
      obtain ⟨s, hsc⟩ : ∃ s, s = c.toNat + 1 := ⟨_, rfl⟩
      rw [← hsc] at hs1 hs2
      have hnext : ((t.drop at_).take (k + 1)).map bv = ((t.drop at_).take k).map bv ++ [bv c] := by
        rw [List.take_add_one, List.getElem?_drop, hc, List.map_append]
        rfl
      have hblk := hv.1.bk Hblk0.out (by decide) (by decide)
      have c40 := hblk.cell 0
      have l40 := hblk.lt
      have hsz := hv.1.size
      have hwk := Hwalk.out.vis hv.1
      have Hwk := Lib.hid hwk
      have Hsc := Lib.hid hsc
      have Hs1 := Lib.hid hs1
      have Hs2 := Lib.hid hs2
      have Hown0 := Lib.hid hown
      have Hv0 := Lib.hid hv
      have Hnext := Lib.hid hnext
      have Hrow2 := Lib.hid hrw2
      clear hrw2 hs1 hs2 hown hv hnext hblk hwk hrw hc hsc
      go_wp2_with fail
      refine (WalkFirst_any Bw gk _ row' row s wr Hwk.out Hs1.out Hs2.out HLt.out (by rw [HL.out]; omega)).mono ?_
      rintro e w3 ⟨rfl, hb3⟩
      go_wp2_with fail
      refine (SymByte_any c s Hsc.out w3).mono ?_
      rintro e W1 ⟨rfl, hb4⟩
      have hb5 : Below wr.heap.size wr W1 := hb3.trans (hb4.mono hb3.size)
      have hown1 := (VisK.of_below (F := fun b => Bw ≤ b) hb5).1.own Hown0.out (by decide) (by decide)
      have hv1 := Hv0.out.below hb5
      have hblk1 := hv1.1.bk Hblk0.out (by decide) (by decide)
      have hltr : ∀ b, u8.ownBlock = some b → b < W1.heap.size := fun b hb => (hown1.lt b hb).2
      have hlt0 : ∀ b, u8.ownBlock = some b → w.heap.size ≤ b := fun b hb => (hown1.lt b hb).1
      have hng : ¬ u8.ownBlock = some gl := fun e => own_bk_ne hown1 hblk1 (by decide) e.symm
      have hsz1 := hv1.1.size
      have Hown := Lib.hid hown1
      have Hv := Lib.hid hv1
      have Hblk := Lib.hid hblk1
      have Hltr := Lib.hid hltr
      have Hlt := Lib.hid hlt0
      have Hng := Lib.hid hng
      clear hb3 hb4 hb5 hown1 hv1 hblk1 hltr hlt0 hng c40 l40 Hown0 Hv0 Hwk
      go_wp2_with fail
      refine wp_region_any (by kernel_rfl) ?_
      refine wpAny_vis_tail Bw 10 [52, 53, 54, 55, 56, 57, 58, 59, 60, 61] (fun b => u8.ownBlock = some b) 3 [3] (fun w2 => w2.ownsRow w.heap.size 5 1 u8 k (((t.drop at_).take k).map bv)) (fun x w2 => w2.ownsRow w.heap.size 5 1 x (k + 1) (((t.drop at_).take k).map bv ++ [bv c])) [is (u8), is (bv c), fun x w2 => ∃ g, x = .slice (some ⟨g, 0, none⟩) 1 1 ∧ Bk w2 g 5 #[bv c] ∧ u8.ownBlock ≠ some g, anyV, is (.pointer (some ⟨gl, 0, none⟩)), is (.pointer (some ⟨gl, 0, none⟩)), is (.pointer (some ⟨gl, 0, none⟩)), is (.pointer (some ⟨gk, 0, none⟩)), is (.int .i64 (row : Int)), is (.int .i64 (row' : Int))] _ _ rfl (by decide) (by kernel_rfl) (by kernel_rfl) (by kernel_rfl) (Hown.out) (fun w1 w2 h _ k => k.1.own h (by decide) (by decide)) (fun _ _ _ h k => k.1.own h (by decide) (by decide)) (by repeat' (first | exact stbs_is _ _ | exact stbs_any _ | exact fun _ _ _ ⟨g, h1, h2, h3⟩ k => ⟨g, h1, k.1.bk h2 (by decide) (by decide) h3, h3⟩ | (refine List.forall_mem_cons.2 ⟨?_, ?_⟩) | (intro p hp; cases hp))) ?_ ?_
      · refine steps_of_n ?_
        refine steps_cons ?_ ?_
        · refine step_on3 rfl rfl ?_
          intro ev w5 hS hU hc hf hold hval a K ha hK
          replace hS : VFB Bw (fun b => u8.ownBlock = some b) W1 w5 := ⟨⟨hS.1.os, hS.1.tape, hS.1.output, hS.1.size, hS.1.block⟩, ⟨hS.2.os, hS.2.tape, hS.2.output, hS.2.size, hS.2.block⟩⟩
          clear hU
          have e8 : ev (.tmp 8) = u8 := hold 8 (by kernel_rfl)
          go_simp
          exact hK _ _ (vstep_vis (VisK.refl _ _)) rfl
        refine steps_cons ?_ ?_
        · refine step_on3 rfl rfl ?_
          intro ev w5 hS hU hc hf hold hval a K ha hK
          replace hS : VFB Bw (fun b => u8.ownBlock = some b) W1 w5 := ⟨⟨hS.1.os, hS.1.tape, hS.1.output, hS.1.size, hS.1.block⟩, ⟨hS.2.os, hS.2.tape, hS.2.output, hS.2.size, hS.2.block⟩⟩
          clear hU
          have e10 : ev (.tmp 10) = bv c := hold 10 (by kernel_rfl)
          go_simp
          exact hK _ _ (vstep_vis (VisK.refl _ _)) rfl
        refine steps_cons ?_ ?_
        · refine step_on3 rfl rfl ?_
          intro ev w5 hS hU hc hf hold hval a K ha hK
          replace hS : VFB Bw (fun b => u8.ownBlock = some b) W1 w5 := ⟨⟨hS.1.os, hS.1.tape, hS.1.output, hS.1.size, hS.1.block⟩, ⟨hS.2.os, hS.2.tape, hS.2.output, hS.2.size, hS.2.block⟩⟩
          clear hU
          have e53 : ev (.tmp 53) = bv c := hval 1 53 (by kernel_rfl) rfl
          go_simp
          exact hK _ _ (vstep_vis ((VisK.refl _ _).alloc _)) ⟨_, rfl, Bk.new _ _ _, fun h => by have := (Hltr.out _ h); have := hS.1.size; omega⟩
        refine steps_cons ?_ ?_
        · refine step_on3 rfl rfl ?_
          intro ev w5 hS hU hc hf hold hval a K ha hK
          replace hS : VFB Bw (fun b => u8.ownBlock = some b) W1 w5 := ⟨⟨hS.1.os, hS.1.tape, hS.1.output, hS.1.size, hS.1.block⟩, ⟨hS.2.os, hS.2.tape, hS.2.output, hS.2.size, hS.2.block⟩⟩
          have hpre := hU rfl
          clear hU
          have e52 : ev (.tmp 52) = u8 := hval 0 52 (by kernel_rfl) rfl
          have p54 : (fun x w2 => ∃ g, x = .slice (some ⟨g, 0, none⟩) 1 1 ∧ Bk w2 g 5 #[bv c] ∧ u8.ownBlock ≠ some g) (ev (.tmp 54)) w5 := hval 2 54 (by kernel_rfl) rfl
          obtain ⟨g53, e53, hb53, hn53⟩ := p54
          subst ha
          have hws5 := hS.1.size
          refine wp_append_rd w5 (.tmp 52) (.tmp 54) _ rfl w.heap.size 5 i0 (.int .u8 0) 1 1 Tryz.underlying23 hi0 hz0 hz1 hz2 rfl (by decide) u8 k _ e52 hpre w5.heap.size (some ⟨g53, 0, none⟩) 1 1 [bv c] e53 (rd_one hb53) (by simp [Value.oneCell', bv]) (by unfold maxLen; omega) (by omega) (Nat.le_trans hsz1 hws5) ?_
          intro v6 w6 hown6 hg6 hat6
          refine hK _ _ (vstep_at ⟨VisF.of_keep ⟨hg6.os, hg6.tape, hg6.output, hg6.size, fun k hk hn => hg6.block k hk (fun e => hn e.symm)⟩, ⟨hg6.os, hg6.tape, hg6.output, hg6.size, fun k hk hn => hg6.block k hk (fun e => hn (.inl e.symm))⟩⟩) hown6
        refine steps_cons ?_ ?_
        · refine step_on3 rfl rfl ?_
          intro ev w5 hS hU hc hf hold hval a K ha hK
          replace hS : VFB Bw (fun b => u8.ownBlock = some b) W1 w5 := ⟨⟨hS.1.os, hS.1.tape, hS.1.output, hS.1.size, hS.1.block⟩, ⟨hS.2.os, hS.2.tape, hS.2.output, hS.2.size, hS.2.block⟩⟩
          clear hU
          have e0 : ev (.tmp 0) = .pointer (some ⟨gl, 0, none⟩) := hold 0 (by kernel_rfl)
          go_simp
          exact hK _ _ (vstep_vis (VisK.refl _ _)) rfl
        refine steps_cons ?_ ?_
        · refine step_on3 rfl rfl ?_
          intro ev w5 hS hU hc hf hold hval a K ha hK
          replace hS : VFB Bw (fun b => u8.ownBlock = some b) W1 w5 := ⟨⟨hS.1.os, hS.1.tape, hS.1.output, hS.1.size, hS.1.block⟩, ⟨hS.2.os, hS.2.tape, hS.2.output, hS.2.size, hS.2.block⟩⟩
          clear hU
          have e56 : ev (.tmp 56) = .pointer (some ⟨gl, 0, none⟩) := hval 4 56 (by kernel_rfl) rfl
          go_simp
          exact hK _ _ (vstep_vis (VisK.refl _ _)) rfl
        refine steps_cons ?_ ?_
        · refine step_on3 rfl rfl ?_
          intro ev w5 hS hU hc hf hold hval a K ha hK
          replace hS : VFB Bw (fun b => u8.ownBlock = some b) W1 w5 := ⟨⟨hS.1.os, hS.1.tape, hS.1.output, hS.1.size, hS.1.block⟩, ⟨hS.2.os, hS.2.tape, hS.2.output, hS.2.size, hS.2.block⟩⟩
          clear hU
          have e57 : ev (.tmp 57) = .pointer (some ⟨gl, 0, none⟩) := hval 5 57 (by kernel_rfl) rfl
          go_simp
          exact hK _ _ (vstep_vis (VisK.refl _ _)) rfl
        refine steps_cons ?_ ?_
        · refine step_on3 rfl rfl ?_
          intro ev w5 hS hU hc hf hold hval a K ha hK
          replace hS : VFB Bw (fun b => u8.ownBlock = some b) W1 w5 := ⟨⟨hS.1.os, hS.1.tape, hS.1.output, hS.1.size, hS.1.block⟩, ⟨hS.2.os, hS.2.tape, hS.2.output, hS.2.size, hS.2.block⟩⟩
          clear hU
          have e58 : ev (.tmp 58) = .pointer (some ⟨gl, 0, none⟩) := hval 6 58 (by kernel_rfl) rfl
          have hb5 := hS.1.bk Hblk.out (by decide) (by decide) Hng.out
          have c59 := hb5.cell 0
          have l59 := hb5.lt
          go_simp
          exact hK _ _ (vstep_vis (VisK.refl _ _)) rfl
        refine steps_cons ?_ ?_
        · refine step_on3 rfl rfl ?_
          intro ev w5 hS hU hc hf hold hval a K ha hK
          replace hS : VFB Bw (fun b => u8.ownBlock = some b) W1 w5 := ⟨⟨hS.1.os, hS.1.tape, hS.1.output, hS.1.size, hS.1.block⟩, ⟨hS.2.os, hS.2.tape, hS.2.output, hS.2.size, hS.2.block⟩⟩
          clear hU
          have e9 : ev (.tmp 9) = .int .i64 (row : Int) := hold 9 (by kernel_rfl)
          go_simp
          exact hK _ _ (vstep_vis (VisK.refl _ _)) rfl
        refine steps_cons ?_ ?_
        · refine step_on3 rfl rfl ?_
          intro ev w5 hS hU hc hf hold hval a K ha hK
          replace hS : VFB Bw (fun b => u8.ownBlock = some b) W1 w5 := ⟨⟨hS.1.os, hS.1.tape, hS.1.output, hS.1.size, hS.1.block⟩, ⟨hS.2.os, hS.2.tape, hS.2.output, hS.2.size, hS.2.block⟩⟩
          clear hU
          have e59 : ev (.tmp 59) = .pointer (some ⟨gk, 0, none⟩) := hval 7 59 (by kernel_rfl) rfl
          have e60 : ev (.tmp 60) = .int .i64 (row : Int) := hval 8 60 (by kernel_rfl) rfl
          go_simp
          have hvw := (VFB.trans (VFB.of_vb Hv.out) hS).to_vb (fun b hb hf => by have := (Hlt.out b hf); omega)
          refine (WalkOn_any Bw gk _ row' row s w5 (Hwalk.out.vis hvw.1) Hs1.out Hs2.out HLt.out (by rw [HL.out]; omega) (HT.out.vb hvw hB0 HT.out.pos) hB0).mono ?_
          rintro e w8 ⟨rfl, hv8⟩
          exact hK _ _ (vstep_vis hv8) rfl
        exact steps_nil
      · intro ev w6 f hS hval hall
        replace hS : VFB Bw (fun b => u8.ownBlock = some b) W1 w6 := ⟨⟨hS.1.os, hS.1.tape, hS.1.output, hS.1.size, hS.1.block⟩, ⟨hS.2.os, hS.2.tape, hS.2.output, hS.2.size, hS.2.block⟩⟩
        have p55 : (fun x w2 => w2.ownsRow w.heap.size 5 1 x (k + 1) (((t.drop at_).take k).map bv ++ [bv c])) (ev (.tmp 55)) w6 := hval 3 55 (by decide) rfl
        have e61 : ev (.tmp 61) = .int .i64 (row' : Int) := hval 9 61 (by decide) rfl
        obtain ⟨vJ, pJ0⟩ := hall 3 (by decide)
        have pJ : (fun x w2 => w2.ownsRow w.heap.size 5 1 x (k + 1) (((t.drop at_).take k).map bv ++ [bv c])) vJ w6 := pJ0
        clear pJ0 hall
        simp only [putsOf, List.foldl_cons, List.foldl_nil, Act.put, List.setIfInBounds_toArray, List.set_cons_zero, List.set_cons_succ]
        rw [e61]
        clear hval
        have hvw := (VFB.trans (VFB.of_vb Hv.out) hS).to_vb (fun b hb hf => by have := (Hlt.out b hf); omega)
        change wpAny Tryz.prog Region.Mode.any _ _ (2 + f) (firstN 10 12) _ w6
        rw [show 2 + f = f + 1 + 1 by omega]
        generalize ev (.tmp 55) = v6 at p55 ⊢
        have Hown6 := Lib.hid p55
        have Hv6 := Lib.hid hvw
        clear p55 hvw hS pJ
        refine wpAny_one (f := f + 1) (i := 10) (by kernel_rfl) ?_
        refine wpOp_run rfl rfl ?_
        generalize hK : wpAny Tryz.prog _ _ _ (f + 1) _ = K5
        go_simp
        subst hK
        refine wpAny_one (f := f) (i := 11) (by kernel_rfl) ?_
        refine wpOp_run rfl rfl ?_
        generalize hK : wpAny Tryz.prog _ _ _ f _ = K5
        go_simp
        subst hK
        refine wpAny_all (by kernel_rfl) ?_
        go_wp2_with fail
        go_roundw
        case rel => exact ⟨k + 1, row', by omega, by go_num, by first | rfl | trivial, Hrow2.out, by rw [Hnext.out]; exact Hown6.out, Hv6.out⟩
        case measure => simp [intOf]; omega
    · obtain rfl : k = n := by omega
      obtain ⟨A9, c9, rfl, hm9⟩ := made_of_own hown
      have Hm9 := Lib.hid hm9
      have Hv := Lib.hid hv
      clear hown hm9 hv hrw
      go_wp2_with fail
      go_ret2
      exact ⟨A9, c9, rfl, Hm9.out, Hv.out⟩
end Go.Proofs.YthkkcelfgcholaaGreatDoor
namespace Go.Proofs.YthkkcelfgcholaaGreatDoor
open Go.RowKit
set_option linter.unusedVariables false
set_option linter.unusedSimpArgs false
theorem strOfT {w : World} {B n : Nat} {A : Option Addr} {l : List UInt8} (hr : Rd w B 1 A n (l.map bv)) : ∀ c, (convert 23 9 (.slice A n c)).run Tryz.prog w = .ok (.string ⟨l.toArray⟩) w :=
  fun c => run_str_rd (P := Tryz.prog) 23 9 5 Tryz.underlying23 Tryz.underlying5 Tryz.underlying9 hr
set_option maxRecDepth 100000 in
set_option maxHeartbeats 1000000 in
theorem PieceErr_any (Bw gl rate : Nat) (t : List UInt8) (at_ n : Nat) (w : World) (h : TpAt w Bw gl t rate) (hr : at_ ≤ t.length) (hn : t.length - at_ < n) (hm : n ≤ 9223372036854775808) :
    Calls Tryz.prog 8 #[.pointer (some ⟨gl, 0, none⟩), .int .i64 (at_ : Int), .int .i64 (n : Int)] w fun e w' => e = .returned (.tuple #[.slice none 0 0, .int .i64 2]) ∧ w = w' := by
  obtain ⟨rs, gk, gp, pr, hs, hl, hrt, hz0, hn127⟩ := h
  clear hrt hz0
  have hlen : rs.length = t.length + 1 := by rw [hs.len, symL_len]
  have hL : (lastL (symL t) rs).length = t.length + 1 := by rw [lastL_len, hlen]
  obtain ⟨N, hN⟩ : ∃ N, t.length = N := ⟨_, rfl⟩
  rw [hN] at hL hr hn hn127
  have n1 : decide ((at_ : Int) < 0) = false := by simp
  have n2 : decide ((n : Int) < 0) = false := by simp
  have n3 : ¬ N < at_ := by omega
  have n4 : decide (N < at_) = false := decide_eq_false n3
  obtain ⟨d, hd⟩ : ∃ d, N - at_ = d := ⟨_, rfl⟩
  rw [hd] at hn
  have n5 : IntKind.i64.wrap ((N : Int) - (at_ : Int)) = (d : Int) := by rw [IntKind.wrap_i64]; omega
  have n7 : decide (d < n) = true := decide_eq_true hn
  have Hlv := Lib.hid hl.lvw
  have HL := Lib.hid hL
  clear hl hL hs hlen hN hd
  go_enter Tryz.func8, Tryz.ntmps8
  go_wp2_with fail
  refine (LiveLen_any Bw gl _ N w Hlv.out HL.out (by omega)).mono ?_
  rintro e w1 ⟨rfl, rfl⟩
  go_wp2_with fail
  refine (LiveLen_any Bw gl _ N w Hlv.out HL.out (by omega)).mono ?_
  rintro e w1 ⟨rfl, rfl⟩
  go_wp2_with fail
  go_ret2
  exact ⟨rfl, rfl⟩
set_option maxRecDepth 100000 in
theorem PieceNil_any (a n : Int) (w : World) :
    Calls Tryz.prog 8 #[.pointer none, .int .i64 a, .int .i64 n] w fun e w' => e = .returned (.tuple #[.slice none 0 0, .int .i64 6]) ∧ w = w' := by
  go_enter Tryz.func8, Tryz.ntmps8
  go_wp2_with fail
  go_ret2
  exact ⟨rfl, rfl⟩
def TakePost (w : World) (Bw : Nat) (t : List UInt8) (e : Ending) (w' : World) : Prop :=
  ∃ A c, e = .returned (.slice A t.length c) ∧ Made w' w.heap.size 5 1 A t.length c (t.map bv) ∧ VB Bw w w'
set_option maxRecDepth 100000 in
set_option maxHeartbeats 1000000 in
theorem TakeText_any (Bw gl rate : Nat) (t : List UInt8) (w : World) (h : TpAt w Bw gl t rate) (hT : TabW w) (hB0 : 0 < Bw) :
    Calls Tryz.prog 10 #[.pointer (some ⟨gl, 0, none⟩)] w (TakePost w Bw t) := by
  have hp := Piece_any Bw gl rate t 0 t.length w h hT hB0 (by omega)
  unfold PiecePost at hp
  rw [List.drop_zero, List.take_length] at hp
  obtain ⟨rs, gk, gp, pr, hs, hl, hrt, hz0, hn127⟩ := h
  clear hrt hz0
  have hlen : rs.length = t.length + 1 := by rw [hs.len, symL_len]
  have hL : (lastL (symL t) rs).length = t.length + 1 := by rw [lastL_len, hlen]
  have Hlv := Lib.hid hl.lvw
  have HL := Lib.hid hL
  obtain ⟨N, hN⟩ : ∃ N, t.length = N := ⟨_, rfl⟩
  unfold TakePost
  rw [hN] at hp ⊢
  have HN := Lib.hid hN
  rw [hN] at hn127
  have Hp := Lib.hid hp
  clear hl hL hs hlen hN hp hT
  go_enter Tryz.func10, Tryz.ntmps10
  go_wp2_with fail
  refine (LiveLen_any Bw gl _ N w Hlv.out (by rw [HL.out, HN.out]) (by omega)).mono ?_
  rintro e w1 ⟨rfl, rfl⟩
  go_wp2_with fail
  refine Hp.out.mono ?_
  rintro e w2 ⟨A, c, rfl, hm, hv⟩
  have Hm := Lib.hid hm
  have Hv := Lib.hid hv
  clear hm hv
  go_wp2_with fail
  go_ret
  exact ⟨A, c, rfl, Hm.out, Hv.out⟩
set_option maxRecDepth 100000 in
theorem LiveLenNil_any (w : World) : Calls Tryz.prog 20 #[.pointer none] w fun e w' => e = .returned (.int .i64 0) ∧ w = w' := by
  go_enter Tryz.func20, Tryz.ntmps20
  go_wp2_with fail
  go_ret
  exact ⟨rfl, rfl⟩
set_option maxRecDepth 100000 in
theorem TakeTextNil_any (w : World) : Calls Tryz.prog 10 #[.pointer none] w fun e w' => e = .returned (.slice none 0 0) ∧ w = w' := by
  go_enter Tryz.func10, Tryz.ntmps10
  go_wp2_with fail
  refine (LiveLenNil_any w).mono ?_
  rintro e w1 ⟨rfl, rfl⟩
  go_wp2_with fail
  refine (PieceNil_any 0 0 w).mono ?_
  rintro e w1 ⟨rfl, rfl⟩
  go_wp2_with fail
  go_ret
  exact ⟨rfl, rfl⟩
end Go.Proofs.YthkkcelfgcholaaGreatDoor
namespace Go.Proofs.YthkkcelfgcholaaGreatDoor
open Go.RowKit
set_option linter.unusedVariables false
set_option linter.unusedSimpArgs false
set_option maxRecDepth 100000 in
set_option maxHeartbeats 4000000 in
theorem Told15_any (w : World) (hT : TabW w) : Calls Tryz.prog 9 #[] w fun e w' => e = .returned (.bool true) ∧ Below w.heap.size w w' := by
  have hw := hT.pos
  have HT := Lib.hid hT
  clear hT
  have kc := str_const
  have kc1 := str_const1
  go_enter Tryz.func9, Tryz.ntmps9
  go_wp2_with fail
  have hp := parts_one w #[.int .u8 97, .int .u8 98, .int .u8 99] (3, 4) [97, 98, 99] 3 rfl rfl
  refine (TpNew_any 2 _ 1 1 (w.heap.size + 2) [(⟨some ⟨w.heap.size, 0, none⟩, 3, 3, [97, 98, 99]⟩ : Sl)] [97, 98, 99] rfl _ hp.1 hp.2 (by simp) (by omega) (by simp) (by omega) (by omega)).mono ?_
  rintro e w1 ⟨gl, rfl, _, ht, hb⟩
  have hv : Below w.heap.size w w1 := (((Below.refl w.heap.size w).alloc (Nat.le_refl _) _).alloc (by simp) _).trans (hb.mono (by simp; omega))
  have Ht := Lib.hid (TpAt.mono ht (B' := w.heap.size) (by simp; omega))
  have HT1 := Lib.hid (HT.out.below hv hw)
  have Hv := Lib.hid hv
  clear ht hv hb hp
  go_wp2_with fail
  have hp1 := Piece_any w.heap.size gl 2 [97, 98, 99] 1 2 w1 Ht.out HT1.out hw (by simp)
  unfold PiecePost at hp1
  refine hp1.mono ?_
  rintro e w2 ⟨A2, c2, rfl, hm2, hu2⟩
  clear hp1
  have HT2 := Lib.hid (HT1.out.vb hu2 hw HT1.out.pos)
  have Ht2 := Lib.hid (Ht.out.vis hu2.1)
  have Hv2 := Lib.hid (Hv.out.trans (VB.to_below hu2 Hv.out.size))
  have Hm2 := Lib.hid hm2
  clear hm2 hu2 HT1 Ht Hv
  go_wp2_with fail
  have hp1 := Piece_any w.heap.size gl 2 [97, 98, 99] 3 0 w2 Ht2.out HT2.out hw (by simp)
  unfold PiecePost at hp1
  refine hp1.mono ?_
  rintro e w3 ⟨A3, c3, rfl, hm3, hu3⟩
  clear hp1
  have HT3 := Lib.hid (HT2.out.vb hu3 hw HT2.out.pos)
  have Ht3 := Lib.hid (Ht2.out.vis hu3.1)
  have Hv3 := Lib.hid (Hv2.out.trans (VB.to_below hu3 Hv2.out.size))
  have Hm23 := Lib.hid (hu3.1.made Hm2.out (by decide) (by decide))
  clear hm3 hu3 HT2 Ht2 Hv2 Hm2
  go_wp2_with fail
  refine (PieceErr_any w.heap.size gl 2 [97, 98, 99] 2 2 w3 Ht3.out (by simp) (by simp) (by omega)).mono ?_
  rintro e w4 ⟨rfl, rfl⟩
  go_wp2_with fail
  refine (PieceErr_any w.heap.size gl 2 [97, 98, 99] 1 4611686018427387904 w3 Ht3.out (by simp) (by simp) (by omega)).mono ?_
  rintro e w4 ⟨rfl, rfl⟩
  go_wp2_with fail
  refine (PieceNil_any 0 0 w3).mono ?_
  rintro e w4 ⟨rfl, rfl⟩
  have s1 : (convert 23 9 (.slice A2 2 c2)).run Tryz.prog w3 = .ok (.string ⟨#[98, 99]⟩) w3 := (strOfT Hm23.out.rd c2).trans rfl
  go_wp2_with fail
  have htx := TakeText_any w.heap.size gl 2 [97, 98, 99] w3 Ht3.out HT3.out hw
  unfold TakePost at htx
  refine htx.mono ?_
  rintro e w5 ⟨A5, c5, rfl, hm5, hu5⟩
  have s2 : (convert 23 9 (.slice A5 3 c5)).run Tryz.prog w5 = .ok (.string ⟨#[97, 98, 99]⟩) w5 := (strOfT hm5.rd c5).trans rfl
  have Hv5 := Lib.hid (Hv3.out.trans (VB.to_below hu5 Hv3.out.size))
  clear htx hm5 hu5 s1
  go_wp2_with fail
  refine (TakeTextNil_any w5).mono ?_
  rintro e w6 ⟨rfl, rfl⟩
  go_wp2_with fail
  go_ret
  exact ⟨rfl, Hv5.out⟩
end Go.Proofs.YthkkcelfgcholaaGreatDoor
