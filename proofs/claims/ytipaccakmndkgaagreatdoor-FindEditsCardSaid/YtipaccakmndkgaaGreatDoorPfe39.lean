/- Plain laws for an edit: the start behind a change of a letter (plain Lean). No conditions. The walk of law13's told. Conditions: none. Places of a pattern: they rise, the pattern stands at each, there are as many as are counted (plain Lean). No conditions. -/
import Derived.Test.YtipaccakmndkgaaGreatDoorPfe37
import Derived.Test.YtipaccakmndkgaaGreatDoorPfe38
import Derived.Test.YtipaccakmndkgaaGreatDoorPfe36
import Derived.Test.YtipaccakmndkgaaGreatDoorPfe26
namespace Go.Proofs.YtipaccakmndkgaaGreatDoor
set_option linter.unusedVariables false
set_option linter.unusedSimpArgs false
section
variable {S R : List Nat} {N : Nat}
end
end Go.Proofs.YtipaccakmndkgaaGreatDoor
namespace Go.Proofs.YtipaccakmndkgaaGreatDoor
open Go.RowKit
set_option linter.unusedVariables false
set_option linter.unusedSimpArgs false
set_option maxRecDepth 100000 in
theorem RowsNil_any (A:Option Addr) (m c:Nat) (w:World):
 Calls Tryz.prog 52 #[.pointer none,.slice A m c] w fun e w'=>e=.returned (.tuple #[.int .i64 0,.int .i64 0])∧Below w.heap.size w w':=by
 go_enter Tryz.func52,Tryz.ntmps52
 go_wp2_with fail
 go_ret2
 exact ⟨rfl,(Below.refl _ _).alloc (Nat.le_refl _) _⟩
set_option maxRecDepth 100000 in
theorem CountNil_any (A:Option Addr) (m c:Nat) (w:World):
 Calls Tryz.prog 16 #[.pointer none,.slice A m c] w fun e w'=>e=.returned (.int .i64 0)∧Below w.heap.size w w':=by
 go_enter Tryz.func16,Tryz.ntmps16
 go_wp2_with fail
 refine (RowsNil_any A m c _).mono ?_
 rintro e w' ⟨rfl,hv⟩
 go_wp2_with fail
 go_ret
 exact ⟨rfl,hv⟩
theorem told_rows:Nq (symL [97,97,97]) false (symB [])=0∧Nq (symL [97,97,97]) true (symB [])=4∧Nq (symL [97,97,97]) false (symB [98])=4∧Nq (symL [97,97,97]) true (symB [98])=4∧occ (symL [97,97,97]) (symB [97,97])=2∧occ (symL [97,97,97]) (symB [97,97,97])=1∧occ (symL [97,97,97]) (symB [])=4:=by decide
set_option maxRecDepth 100000 in
set_option maxHeartbeats 2000000 in
theorem Told13_any (w:World):Calls Tryz.prog 19 #[] w fun e w'=>e=.returned (.bool true)∧Below w.heap.size w w':=by
 obtain ⟨t1,t2,t3,t4,t5,t6,t7⟩:=told_rows
 have T5:=Lib.hid t5
 have T6:=Lib.hid t6
 have T7:=Lib.hid t7
 have T1:=Lib.hid t1
 have T2:=Lib.hid t2
 have T3:=Lib.hid t3
 have T4:=Lib.hid t4
 clear t1 t2 t3 t4 t5 t6 t7
 have kc:=str_const
 have kc1:=str_const1
 go_enter Tryz.func19,Tryz.ntmps19
 go_wp2_with fail
 have hp:=parts_one w #[.int .u8 97,.int .u8 97,.int .u8 97] (3,4) [97,97,97] 3 rfl rfl
 refine (TxtNew_any 2 _ 1 1 (w.heap.size+2) [(⟨some ⟨w.heap.size,0,none⟩,3,3, [97,97,97]⟩:Sl)] [97,97,97] rfl _ hp.1 hp.2 (by simp) (by omega) (by simp) (by omega) (by omega)).mono ?_
 rintro e w1 ⟨gl,rfl,_,ht,hb⟩
 have hv:Below w.heap.size w w1:=(((Below.refl w.heap.size w).alloc (Nat.le_refl _) _).alloc (by simp) _).trans (hb.mono (by simp;omega))
 have Ht:=Lib.hid (TxtAt.mono ht (B':=w.heap.size) (by simp;omega))
 have Hv:=Lib.hid hv
 clear ht hv hb hp
 go_wp2_with fail
 refine (TxtRows_any w.heap.size gl [97,97,97] none 0 0 0 [] [] rfl w1 Ht.out (Rd.nil _ _ _ _) (fun s hs=>by cases hs) (Nat.zero_le _) (by omega) (by simp)).mono ?_
 rintro e w2 ⟨rfl,hu1⟩
 have hx1:VB w.heap.size w1 w2:=hu1
 replace Ht:=Lib.hid (Ht.out.vis hx1.1)
 replace Hv:=Lib.hid (Hv.out.trans (VB.to_below hx1 Hv.out.size))
 clear hx1 hu1
 rw [T1.out,T2.out]
 go_wp2_with fail
 have hp2:=parts_one w2 #[.int .u8 98] (1,2) [98] 1 rfl rfl
 have hv2:Below w2.heap.size w2 ((w2.alloc (.cells #[.int .u8 98] 5 (1,2))).alloc (.cells #[.slice (some ⟨w2.heap.size,0,none⟩) 1 1] 23)):=((Below.refl _ _).alloc (Nat.le_refl _) _).alloc (by simp) _
 refine (TxtRows_any w.heap.size gl [97,97,97] _ 1 1 (w2.heap.size+2) [(⟨some ⟨w2.heap.size,0,none⟩,1,1, [98]⟩:Sl)] [98] rfl ((w2.alloc (.cells #[.int .u8 98] 5 (1,2))).alloc (.cells #[.slice (some ⟨w2.heap.size,0,none⟩) 1 1] 23)) (Ht.out.vis (Vis.of_below hv2)) hp2.1 hp2.2 (by simp) (by omega) (by simp)).mono ?_
 rintro e w3 ⟨rfl,hu2⟩
 have hx2:VB w.heap.size w2 w3:=(VisK.of_below hv2).trans hu2
 replace Ht:=Lib.hid (Ht.out.vis hx2.1)
 replace Hv:=Lib.hid (Hv.out.trans (VB.to_below hx2 Hv.out.size))
 clear hx2 hu2 hv2 hp2
 rw [T3.out,T4.out]
 go_wp2_with fail
 have hp3:=parts_one w3 #[.int .u8 97,.int .u8 97] (2,3) [97,97] 2 rfl rfl
 have hv3:Below w3.heap.size w3 ((w3.alloc (.cells #[.int .u8 97,.int .u8 97] 5 (2,3))).alloc (.cells #[.slice (some ⟨w3.heap.size,0,none⟩) 2 2] 23)):=((Below.refl _ _).alloc (Nat.le_refl _) _).alloc (by simp) _
 refine (TxtCount_any w.heap.size gl [97,97,97] _ 1 1 (w3.heap.size+2) [(⟨some ⟨w3.heap.size,0,none⟩,2,2, [97,97]⟩:Sl)] [97,97] rfl ((w3.alloc (.cells #[.int .u8 97,.int .u8 97] 5 (2,3))).alloc (.cells #[.slice (some ⟨w3.heap.size,0,none⟩) 2 2] 23)) (Ht.out.vis (Vis.of_below hv3)) hp3.1 hp3.2 (by simp) (by omega) (by simp)).mono ?_
 rintro e w4 ⟨rfl,hu3⟩
 have hx3:VB w.heap.size w3 w4:=(VisK.of_below hv3).trans hu3
 replace Ht:=Lib.hid (Ht.out.vis hx3.1)
 replace Hv:=Lib.hid (Hv.out.trans (VB.to_below hx3 Hv.out.size))
 clear hx3 hu3 hv3 hp3
 rw [T5.out]
 go_wp2_with fail
 have hp4:=parts_two w4 #[.int .u8 97] #[.int .u8 97,.int .u8 97] (1,2) (2,3) [97] [97,97] 1 2 rfl rfl rfl rfl
 have hv4:Below w4.heap.size w4 (((w4.alloc (.cells #[.int .u8 97] 5 (1,2))).alloc (.cells #[.int .u8 97,.int .u8 97] 5 (2,3))).alloc (.cells #[.slice (some ⟨w4.heap.size,0,none⟩) 1 1,.slice (some ⟨w4.heap.size+1,0,none⟩) 2 2] 23)):=(((Below.refl _ _).alloc (Nat.le_refl _) _).alloc (by simp) _).alloc (by simp;omega) _
 refine (TxtCount_any w.heap.size gl [97,97,97] _ 2 2 (w4.heap.size+3) [(⟨some ⟨w4.heap.size,0,none⟩,1,1, [97]⟩:Sl),(⟨some ⟨w4.heap.size+1,0,none⟩,2,2, [97,97]⟩:Sl)] [97,97,97] rfl (((w4.alloc (.cells #[.int .u8 97] 5 (1,2))).alloc (.cells #[.int .u8 97,.int .u8 97] 5 (2,3))).alloc (.cells #[.slice (some ⟨w4.heap.size,0,none⟩) 1 1,.slice (some ⟨w4.heap.size+1,0,none⟩) 2 2] 23)) (Ht.out.vis (Vis.of_below hv4)) hp4.1 hp4.2 (by simp) (by omega) (by simp)).mono ?_
 rintro e w5 ⟨rfl,hu4⟩
 have hx4:VB w.heap.size w4 w5:=(VisK.of_below hv4).trans hu4
 replace Ht:=Lib.hid (Ht.out.vis hx4.1)
 replace Hv:=Lib.hid (Hv.out.trans (VB.to_below hx4 Hv.out.size))
 clear hx4 hu4 hv4 hp4
 rw [T6.out]
 go_wp2_with fail
 refine (TxtCount_any w.heap.size gl [97,97,97] none 0 0 0 [] [] rfl w5 Ht.out (Rd.nil _ _ _ _) (fun s hs=>by cases hs) (Nat.zero_le _) (by omega) (by simp)).mono ?_
 rintro e w6 ⟨rfl,hu5⟩
 have hx5:VB w.heap.size w5 w6:=hu5
 replace Ht:=Lib.hid (Ht.out.vis hx5.1)
 replace Hv:=Lib.hid (Hv.out.trans (VB.to_below hx5 Hv.out.size))
 clear hx5 hu5
 rw [T7.out]
 go_wp2_with fail
 refine (CountNil_any _ 1 1 _).mono ?_
 rintro e w9 ⟨rfl,hu9⟩
 have hx9:Below w6.heap.size w6 w9:=(((Below.refl _ _).alloc (Nat.le_refl _) _).alloc (by simp) _).trans (hu9.mono (by simp;omega))
 replace Hv:=Lib.hid (Hv.out.trans (hx9.mono Hv.out.size))
 clear hx9 hu9
 go_wp2_with fail
 go_ret
 exact ⟨rfl,Hv.out⟩
end Go.Proofs.YtipaccakmndkgaaGreatDoor
namespace Go.Proofs.YtipaccakmndkgaaGreatDoor
open Go.RowKit
set_option linter.unusedVariables false
set_option linter.unusedSimpArgs false
theorem placesT_le (t q:List UInt8):(placesT t q).length≤t.length+1:=by
 have:=List.length_filter_le (preQ (symL t) (symB q)) (List.range (t.length+1))
 rw [List.length_range] at this
 exact this
theorem places_len (t q:List UInt8):(placesT t q).length=occ (symL t) (symB q):=by
 unfold placesT occ
 rw [List.countP_eq_length_filter,symL_len]
theorem places_rise (t q:List UInt8):(placesT t q).Pairwise (· < ·):=List.Pairwise.filter _ List.pairwise_lt_range
end Go.Proofs.YtipaccakmndkgaaGreatDoor
