/- The walks of store's edit: bytes put in, taken out, set. Conditions: at most 127 bytes behind it; the table of math/bits stands in its variable. -/
import Derived.Test.YtipaccakmndkgaaGreatDoorPsl43
import Derived.Test.YtipaccakmndkgaaGreatDoorPsl4
import Derived.Test.YtipaccakmndkgaaGreatDoorPsl42
import Derived.Test.YtipaccakmndkgaaGreatDoorPsl41
import Derived.Test.YtipaccakmndkgaaGreatDoorPsl13
import Derived.BigQuiet
set_option linter.unusedVariables false
set_option linter.unusedSimpArgs false
set_option maxRecDepth 100000
set_option maxHeartbeats 1000000
namespace Go.Proofs.YtipaccakmndkgaaGreatDoor
open Go.RowKit
def EdPost (w:World) (B:Nat) (own:Nat→Nat) (gs gl most rate:Nat) (T:List UInt8) (e:Ending) (w':World):Prop:=
 e=.returned (.int .i64 0)∧∃own',StAt w' B own' gs gl most rate T∧LFS B gs w w' own own'
theorem StAt.edited {w w':World} {B gs gl most rate:Nat} {own own':Nat→Nat} {t t':List UInt8} (h:StAt w B own gs gl most rate t) (h2:LiveE w' B own' gl t' rate) (k:LF B w w' own own') (h127:t'.length≤127) (hm:t'.length≤most):StAt w' B own' gs gl most rate t'∧LFS B gs w w' own own':=
 ⟨⟨k.vis.bk h.blk (by decide) (by decide) (fun f=>f h.col),h.low,(k.old _ h.blk.lt).trans h.col,h2,h127,hm,h.max,h.r1,h.r2⟩,LFS.of_lf gs k⟩
structure EdW (w W:World) (B:Nat) (own:Nat→Nat) (gs gl most rate:Nat) (t:List UInt8) (kind p n:Int) (A:Option Addr) (m c:Nat):Prop where
 low:Below w.heap.size w W
 box:Bk W w.heap.size 57 #[.int .i64 kind,.int .i64 p,.int .i64 n,.slice A m c]
 st:StAt W B own gs gl most rate t
 ap:Ap own gs w.heap.size
theorem EdW.mk' {w:World} {B:Nat} {own:Nat→Nat} {gs gl most rate:Nat} {t:List UInt8} (kind p n:Int) (A:Option Addr) (m c:Nat) (h:StAt w B own gs gl most rate t):
 EdW w (w.alloc (.cells #[.int .i64 kind,.int .i64 p,.int .i64 n,.slice A m c] 57)) B own gs gl most rate t kind p n A m c:=by
 have hb:Below w.heap.size w (w.alloc (.cells #[.int .i64 kind,.int .i64 p,.int .i64 n,.slice A m c] 57)):=(Below.refl _ _).alloc (Nat.le_refl _) _
 exact ⟨hb,Bk.new w _ _,h.vb (Vis.of_below hb),⟨h.fresh (Nat.le_refl _),by have:=h.blk.lt;omega⟩⟩
theorem StEditIns_any (B:Nat) (own:Nat→Nat) (gs gl most rate N:Nat) (t D:List UInt8) (p:Nat) (n:Int) (A:Option Addr) (m c:Nat) (w:World) (h:StAt w B own gs gl most rate t) (hN:t.length=N) (hD:ArgZ w B own gs A m D) (hp:p≤N) (hroom:N+m≤most) (h127:N+m≤127):
 Calls Tryz.prog 99 #[.pointer (some ⟨gs,0,none⟩),.agg #[.int .i64 1,.int .i64 (p:Int),.int .i64 n,.slice A m c]] w (EdPost w B own gs gl most rate (midT t p D)):=by
 have hDl:D.length=m:=by simpa using hD.1.1
 have hdw:=EdW.mk' 1 (p:Int) n A m c h
 have hD1:=hD.vis hdw.low
 have hl1:=LFS.of_below B gs own hdw.low
 have hh:=StHas_any B own gs gl most rate N t p 0 _ hdw.st hN
 have hhas:hasB N (p:Int) 0=true:=decide_eq_true (by omega)
 rw [hhas] at hh
 have c0:=hdw.box.cell 0
 have c1:=hdw.box.cell 1
 have c2:=hdw.box.cell 2
 have c3:=hdw.box.cell 3
 have Hnm:=lhd hroom
 have hmx:=h.max
 have g1:IntKind.i64.wrap ((most:Int) -(N:Int))=(most:Int) -(N:Int):=by rw [IntKind.wrap_i64];omega
 have g2:decide ((m:Int) > (most:Int) -(N:Int))=false:=decide_eq_false (by omega)
 have Hst:=lhd hdw.st
 have HD:=lhd hD1
 have Hl1:=lhd hl1
 have Hap:=lhd hdw.ap
 have HH:=lhd hh
 have Hbk:=lhd hdw.box
 have HN:=lhd hN
 have HDl:=lhd hDl
 have G1:=lhd g1
 have G2:=lhd g2
 clear h hD hdw hD1 hl1 hh hhas hN hDl hmx g1 g2
 go_enter Tryz.func99,Tryz.ntmps99
 go_wp2_with fail
 refine HH.out.mono ?_
 rintro e w1 ⟨rfl,rfl⟩
 clear HH
 go_wp2_with fail
 generalize w.alloc (.cells #[.int .i64 1,.int .i64 (p:Int),.int .i64 n,.slice A m c] 57)=w1 at*
 clear c0 c1 c2 c3
 have Hlen:=lhd (fun w5 (k:VB B w1 w5)=>(Hst.out.vb k.1).llen HN.out)
 refine wp_region_any (by kernel_rfl) ?_
 refine wpAny_loose2 [27,28,29,30,31,32,33,34,35,36,37,38,39,40,41,42,43,44,45,26] (VB B) (Vs [is (.pointer (some ⟨w.heap.size,0,none⟩)),is (.int .i64 1),is (.bool true),is (.bool true),is (.pointer (some ⟨w.heap.size,3,none⟩)),is (.slice A m c),is (.int .i64 (m:Int)),is (.pointer (some ⟨gs,0,none⟩)),is (.pointer (some ⟨gs,0,none⟩)),is (.pointer (some ⟨gs,1,none⟩)),is (.int .i64 (most:Int)),is (.pointer (some ⟨gs,0,none⟩)),is (.pointer (some ⟨gs,0,none⟩)),is (.pointer (some ⟨gs,0,none⟩)),is (.pointer (some ⟨gl,0,none⟩)),is (.int .i64 (N:Int)),is (.int .i64 ((most:Int) -(N:Int))),is (.bool false),is (.bool false),is (.bool false)]) _ _ rfl (by kernel_rfl) (VisK.refl _ _) (fun _ _=>VisK.trans) (stbs_all (by repeat' (first | exact stbs_is _ _ | exact stbs_any _ |(refine List.forall_mem_cons.2 ⟨?_,?_⟩)|(intro p hp;cases hp)))) ?_ ?_
 · refine steps_of ?_
   refine steps_cons (step_on rfl rfl fun ev _ _ _ _ hold _ _ _ _ hK=>?_) ?_
   · have e3:ev (.tmp 3)=.pointer (some ⟨w.heap.size,0,none⟩):=hold 3 (by kernel_rfl)
     go_simp
     exact hK _ _ ((VisK.refl _ _)) rfl
   refine steps_cons (step_on rfl rfl fun _ w5 hS _ _ _ hval _ _ _ hK=>?_) ?_
   · have e27:_=_:=hval 0 27 (by kernel_rfl) rfl
     replace hS:(VB B) w1 w5:=⟨⟨hS.1.os,hS.1.tape,hS.1.output,hS.1.size,hS.1.block⟩,⟨hS.2.os,hS.2.tape,hS.2.output,hS.2.size,hS.2.block⟩⟩
     have hbx5:=hS.1.bk Hbk.out (by decide) (by decide)
     have c9:=hbx5.cell 0
     go_simp
     exact hK _ _ ((VisK.refl _ _)) rfl
   refine steps_cons (step_on rfl rfl fun _ _ _ _ _ _ hval _ _ _ hK=>?_) ?_
   · have e28:_=_:=hval 1 28 (by kernel_rfl) rfl
     go_simp
     exact hK _ _ ((VisK.refl _ _)) rfl
   refine steps_cons (step_on rfl rfl fun _ _ _ _ _ _ hval _ _ _ hK=>?_) ?_
   · have e29:_=_:=hval 2 29 (by kernel_rfl) rfl
     go_simp
     exact hK _ _ ((VisK.refl _ _)) rfl
   refine steps_cons (step_guard (d:=30) (b:=true) rfl rfl rfl (by kernel_rfl) (fun _ _ _ h=>h) fun ev _ _ _ _ hold _ _ _ _ hK=>?_) ?_
   · have e3:ev (.tmp 3)=.pointer (some ⟨w.heap.size,0,none⟩):=hold 3 (by kernel_rfl)
     go_simp
     exact hK _ _ ((VisK.refl _ _)) rfl
   refine steps_cons (step_guard (d:=30) (b:=true) rfl rfl rfl (by kernel_rfl) (fun _ _ _ h=>h) fun _ w5 hS _ _ _ hval _ _ _ hK=>?_) ?_
   · have e31:_=_:=hval 4 31 (by kernel_rfl) rfl
     replace hS:(VB B) w1 w5:=⟨⟨hS.1.os,hS.1.tape,hS.1.output,hS.1.size,hS.1.block⟩,⟨hS.2.os,hS.2.tape,hS.2.output,hS.2.size,hS.2.block⟩⟩
     have hbx5:=hS.1.bk Hbk.out (by decide) (by decide)
     have c9:=hbx5.cell 3
     go_simp
     exact hK _ _ ((VisK.refl _ _)) rfl
   refine steps_cons (step_guard (d:=30) (b:=true) rfl rfl rfl (by kernel_rfl) (fun _ _ _ h=>h) fun _ _ _ _ _ _ hval _ _ _ hK=>?_) ?_
   · have e32:_=_:=hval 5 32 (by kernel_rfl) rfl
     go_simp
     exact hK _ _ ((VisK.refl _ _)) rfl
   refine steps_cons (step_guard (d:=30) (b:=true) rfl rfl rfl (by kernel_rfl) (fun _ _ _ h=>h) fun ev _ _ _ _ hold _ _ _ _ hK=>?_) ?_
   · have e0:ev (.tmp 0)=.pointer (some ⟨gs,0,none⟩):=hold 0 (by kernel_rfl)
     go_simp
     exact hK _ _ ((VisK.refl _ _)) rfl
   refine steps_cons (step_guard (d:=30) (b:=true) rfl rfl rfl (by kernel_rfl) (fun _ _ _ h=>h) fun _ _ _ _ _ _ hval _ _ _ hK=>?_) ?_
   · have e34:_=_:=hval 7 34 (by kernel_rfl) rfl
     go_simp
     exact hK _ _ ((VisK.refl _ _)) rfl
   refine steps_cons (step_guard (d:=30) (b:=true) rfl rfl rfl (by kernel_rfl) (fun _ _ _ h=>h) fun _ _ _ _ _ _ hval _ _ _ hK=>?_) ?_
   · have e35:_=_:=hval 8 35 (by kernel_rfl) rfl
     go_simp
     exact hK _ _ ((VisK.refl _ _)) rfl
   refine steps_cons (step_guard (d:=30) (b:=true) rfl rfl rfl (by kernel_rfl) (fun _ _ _ h=>h) fun _ w5 hS _ _ _ hval _ _ _ hK=>?_) ?_
   · have e36:_=_:=hval 9 36 (by kernel_rfl) rfl
     replace hS:(VB B) w1 w5:=⟨⟨hS.1.os,hS.1.tape,hS.1.output,hS.1.size,hS.1.block⟩,⟨hS.2.os,hS.2.tape,hS.2.output,hS.2.size,hS.2.block⟩⟩
     have hbs5:=hS.1.bk Hst.out.blk (by decide) (by decide)
     have c9:=hbs5.cell 1
     go_simp
     exact hK _ _ ((VisK.refl _ _)) rfl
   refine steps_cons (step_guard (d:=30) (b:=true) rfl rfl rfl (by kernel_rfl) (fun _ _ _ h=>h) fun ev _ _ _ _ hold _ _ _ _ hK=>?_) ?_
   · have e0:ev (.tmp 0)=.pointer (some ⟨gs,0,none⟩):=hold 0 (by kernel_rfl)
     go_simp
     exact hK _ _ ((VisK.refl _ _)) rfl
   refine steps_cons (step_guard (d:=30) (b:=true) rfl rfl rfl (by kernel_rfl) (fun _ _ _ h=>h) fun _ _ _ _ _ _ hval _ _ _ hK=>?_) ?_
   · have e38:_=_:=hval 11 38 (by kernel_rfl) rfl
     go_simp
     exact hK _ _ ((VisK.refl _ _)) rfl
   refine steps_cons (step_guard (d:=30) (b:=true) rfl rfl rfl (by kernel_rfl) (fun _ _ _ h=>h) fun _ _ _ _ _ _ hval _ _ _ hK=>?_) ?_
   · have e39:_=_:=hval 12 39 (by kernel_rfl) rfl
     go_simp
     exact hK _ _ ((VisK.refl _ _)) rfl
   refine steps_cons (step_guard (d:=30) (b:=true) rfl rfl rfl (by kernel_rfl) (fun _ _ _ h=>h) fun _ w5 hS _ _ _ hval _ _ _ hK=>?_) ?_
   · have e40:_=_:=hval 13 40 (by kernel_rfl) rfl
     replace hS:(VB B) w1 w5:=⟨⟨hS.1.os,hS.1.tape,hS.1.output,hS.1.size,hS.1.block⟩,⟨hS.2.os,hS.2.tape,hS.2.output,hS.2.size,hS.2.block⟩⟩
     have hbs5:=hS.1.bk Hst.out.blk (by decide) (by decide)
     have c9:=hbs5.cell 0
     go_simp
     exact hK _ _ ((VisK.refl _ _)) rfl
   refine steps_cons (step_guard (d:=30) (b:=true) rfl rfl rfl (by kernel_rfl) (fun _ _ _ h=>h) fun _ w5 hS _ _ _ hval _ _ _ hK=>?_) ?_
   · have e41:_=_:=hval 14 41 (by kernel_rfl) rfl
     replace hS:(VB B) w1 w5:=⟨⟨hS.1.os,hS.1.tape,hS.1.output,hS.1.size,hS.1.block⟩,⟨hS.2.os,hS.2.tape,hS.2.output,hS.2.size,hS.2.block⟩⟩
     go_simp
     refine (Hlen.out w5 hS).mono ?_
     rintro e w8 ⟨rfl,rfl⟩
     exact hK _ _ (VisK.refl _ _) rfl
   refine steps_cons (step_guard (d:=30) (b:=true) rfl rfl rfl (by kernel_rfl) (fun _ _ _ h=>h) fun _ _ _ _ _ _ hval _ _ _ hK=>?_) ?_
   · have e37:_=_:=hval 10 37 (by kernel_rfl) rfl
     have e42:_=_:=hval 15 42 (by kernel_rfl) rfl
     go_simp
     exact hK _ _ (VisK.refl _ _) (by first | rfl | exact congrArg (Value.int .i64) G1.out)
   refine steps_cons (step_guard (d:=30) (b:=true) rfl rfl rfl (by kernel_rfl) (fun _ _ _ h=>h) fun _ _ _ _ _ _ hval _ _ _ hK=>?_) ?_
   · have e33:_=_:=hval 6 33 (by kernel_rfl) rfl
     have e43:_=_:=hval 16 43 (by kernel_rfl) rfl
     go_simp
     exact hK _ _ (VisK.refl _ _) (by first | rfl | exact congrArg Value.bool G2.out)
   refine steps_cons (step_on rfl rfl fun _ _ _ _ _ _ hval _ _ _ hK=>?_) ?_
   · have e30:_=_:=hval 3 30 (by kernel_rfl) rfl
     have e44:_=_:=hval 17 44 (by kernel_rfl) rfl
     go_simp
     exact hK _ _ ((VisK.refl _ _)) rfl
   refine steps_cons (step_on rfl rfl fun _ _ _ _ _ _ hval _ _ _ hK=>?_) ?_
   · have e45:_=_:=hval 18 45 (by kernel_rfl) rfl
     go_simp
     exact hK _ _ ((VisK.refl _ _)) rfl
   exact steps_nil
 · intro ev w6 hS hval
   replace hS:(VB B) w1 w6:=⟨⟨hS.1.os,hS.1.tape,hS.1.output,hS.1.size,hS.1.block⟩,⟨hS.2.os,hS.2.tape,hS.2.output,hS.2.size,hS.2.block⟩⟩
   have e26:ev (.tmp 26)=.bool false:=hval 19 26 rfl
   simp only [putsOf,List.foldl_cons,List.foldl_nil,Act.put,List.setIfInBounds_toArray,List.set_cons_zero,List.set_cons_succ]
   rw [e26]
   clear hval
   have hst6:=Hst.out.vb hS.1
   have hlf6:=LFS.of_vb gs own hS
   have hbk6:=hS.1.bk Hbk.out (by decide) (by decide)
   have c0:=hbk6.cell 0
   have c3:=hbk6.cell 3
   have Hst6:=lhd hst6
   have Hlf6:=lhd (Hl1.out.trans hlf6)
   have HD6:=lhd (HD.out.step hlf6)
   have Hbk6:=lhd hbk6
   clear hst6 hlf6 hbk6 hS Hlen e26
   go_wp2_with fail
   clear c0 c3
   go_loopw [6,7,65] (fun _ _ i wr=>∃(j:Nat) (own':Nat→Nat),j≤m∧i=.int .i64 (j:Int)∧StAt wr B own' gs gl most rate (midT t p (D.take j))∧LFS B gs w6 wr own own') (fun _ _ i _=>m -(intOf i).toNat)
   case atStart=>exact ⟨0,own,by omega,rfl,by rw [List.take_zero,midT_nil];exact Hst6.out,LFS.refl _ _ _ _⟩
   case round=>
    obtain ⟨j,own',hj,rfl,hst,hlf⟩:=hrel
    have hpt:p≤t.length:=by rw [HN.out];exact hp
    by_cases hlt:j < m
    · obtain ⟨b,hbj⟩:∃b,D[j]?=some b:=⟨_,List.getElem?_eq_getElem (by rw [HDl.out];exact hlt)⟩
      have hjD:j < D.length:=by rw [HDl.out];exact hlt
      have htk:(D.take j).length=j:=by rw [List.length_take];omega
      have hlen:(midT t p (D.take j)).length=N+j:=by rw [midT_len t _ hpt,htk,HN.out]
      have hins:=fun w5 (k:VB B wr w5)=>LInsert_any w5 B own' gl (midT t p (D.take j)) rate (p+j) b (hst.vb k.1).live (by rw [hlen];omega) (by rw [hlen];omega) hst.r1 hst.r2
      have hmi:=midT_ins t (D.take j) b hpt
      rw [htk] at hmi
      have htk1:D.take (j+1)=D.take j++ [b]:=by rw [List.take_add_one,hbj];rfl
      unfold InsE at hins
      rw [hmi,←htk1] at hins
      obtain ⟨bA,off,rfl,hbA,hcell⟩:=((HD6.out.step hlf).1).2 (by omega)
      have d1:wr.cell? ⟨bA,off+j,none⟩=some (.int .u8 (b.toNat:Int)):=hcell j _ (by rw [List.getElem?_map,hbj];rfl)
      have hbk2:=hlf.bk Hbk6.out Hap.out.col Hap.out.ne (by decide) (by decide)
      have Hbk2:=lhd hbk2
      have c0:=hbk2.cell 0
      have e1:IntKind.i64.wrap ((p:Int)+(j:Int))=((p+j:Nat):Int):=by rw [IntKind.wrap_i64];omega
      have hl2:(midT t p (D.take (j+1))).length=N+(j+1):=by rw [midT_len t _ hpt,List.length_take,HN.out];omega
      have Hst:=lhd hst
      have Hlf:=lhd hlf
      have Hins:=lhd hins
      have Hl2:=lhd hl2
      have E1:=lhd e1
      clear e1 hst hlf hins hmi htk1 hlen htk hbj hjD hcell hbk2 hl2 hpt
      go_wp2_with fail
      refine wp_region_any (by kernel_rfl) ?_
      refine wpAny_vis_tail B 9 [83,84,85,86,87,88,89,90,91] (fun _=>False) 3 [] (fun _=>True) (fun v _=>v=.pointer (some ⟨gl,0,none⟩)) [is (.pointer (some ⟨gs,0,none⟩)),is (.pointer (some ⟨gs,0,none⟩)),is (.pointer (some ⟨gs,0,none⟩)),anyV,is (.pointer (some ⟨w.heap.size,1,none⟩)),is (.int .i64 (p:Int)),is (.int .i64 (j:Int)),is (.int .i64 ((p+j:Nat):Int)),is (.int .u8 (b.toNat:Int))] _ _ rfl (by decide) (by kernel_rfl) (by kernel_rfl) (by kernel_rfl) (trivial) (fun _ _ _ _ _=>trivial) (fun _ _ _ h _=>h) (by repeat' (first | exact stbs_is _ _ | exact stbs_any _ |(refine List.forall_mem_cons.2 ⟨?_,?_⟩)|(intro p hp;cases hp))) ?_ ?_
      · refine steps_of_n ?_
        refine steps_cons (step_on3 rfl rfl fun ev _ _ _ _ _ hold _ _ _ _ hK=>?_) ?_
        · have e0:ev (.tmp 0)=.pointer (some ⟨gs,0,none⟩):=hold 0 (by kernel_rfl)
          go_simp
          exact hK _ _ (vstep_vis (VisK.refl _ _)) rfl
        refine steps_cons (step_on3 rfl rfl fun _ _ _ _ _ _ _ hval _ _ _ hK=>?_) ?_
        · have e83:_=_:=hval 0 83 (by kernel_rfl) rfl
          go_simp
          exact hK _ _ (vstep_vis (VisK.refl _ _)) rfl
        refine steps_cons (step_on3 rfl rfl fun _ _ _ _ _ _ _ hval _ _ _ hK=>?_) ?_
        · have e84:_=_:=hval 1 84 (by kernel_rfl) rfl
          go_simp
          exact hK _ _ (vstep_vis (VisK.refl _ _)) rfl
        refine steps_cons (step_on3 rfl rfl fun _ w5 hS _ _ _ _ hval _ _ _ hK=>?_) ?_
        · replace hS:VFB B (fun _=>False) wr w5:=⟨⟨hS.1.os,hS.1.tape,hS.1.output,hS.1.size,hS.1.block⟩,⟨hS.2.os,hS.2.tape,hS.2.output,hS.2.size,hS.2.block⟩⟩
          have e85:_=_:=hval 2 85 (by kernel_rfl) rfl
          have hv5:=hS.to_vb (fun _ _ f=>f)
          have hbs5:=hv5.1.bk Hst.out.blk (by decide) (by decide)
          have c9:=hbs5.cell 0
          go_simp
          exact hK _ _ (vstep_at (VFB.of_vb (VisK.refl _ _))) rfl
        refine steps_cons (step_on3 rfl rfl fun ev _ _ _ _ _ hold _ _ _ _ hK=>?_) ?_
        · have e3:ev (.tmp 3)=.pointer (some ⟨w.heap.size,0,none⟩):=hold 3 (by kernel_rfl)
          go_simp
          exact hK _ _ (vstep_vis (VisK.refl _ _)) rfl
        refine steps_cons (step_on3 rfl rfl fun _ w5 hS _ _ _ _ hval _ _ _ hK=>?_) ?_
        · replace hS:VFB B (fun _=>False) wr w5:=⟨⟨hS.1.os,hS.1.tape,hS.1.output,hS.1.size,hS.1.block⟩,⟨hS.2.os,hS.2.tape,hS.2.output,hS.2.size,hS.2.block⟩⟩
          have e87:_=_:=hval 4 87 (by kernel_rfl) rfl
          have hv5:=hS.to_vb (fun _ _ f=>f)
          have hbx5:=hv5.1.bk Hbk2.out (by decide) (by decide)
          have c9:=hbx5.cell 1
          go_simp
          exact hK _ _ (vstep_vis (VisK.refl _ _)) rfl
        refine steps_cons (step_on3 rfl rfl fun ev _ _ _ _ _ hold _ _ _ _ hK=>?_) ?_
        · have e6:ev (.tmp 6)=.int .i64 (j:Int):=hold 6 (by kernel_rfl)
          go_simp
          exact hK _ _ (vstep_vis (VisK.refl _ _)) rfl
        refine steps_cons (step_on3 rfl rfl fun _ _ _ _ _ _ _ hval _ _ _ hK=>?_) ?_
        · have e88:_=_:=hval 5 88 (by kernel_rfl) rfl
          have e89:_=_:=hval 6 89 (by kernel_rfl) rfl
          go_simp
          exact hK _ _ (vstep_vis (VisK.refl _ _)) (by first | rfl | exact congrArg (Value.int .i64) E1.out)
        refine steps_cons (step_on3 rfl rfl fun ev _ _ _ _ _ hold _ _ _ _ hK=>?_) ?_
        · have e7:ev (.tmp 7)=.int .u8 (b.toNat:Int):=hold 7 (by kernel_rfl)
          go_simp
          exact hK _ _ (vstep_vis (VisK.refl _ _)) rfl
        exact steps_nil
      · intro ev w6 f hS hval hall
        replace hS:VFB B (fun _=>False) wr w6:=⟨⟨hS.1.os,hS.1.tape,hS.1.output,hS.1.size,hS.1.block⟩,⟨hS.2.os,hS.2.tape,hS.2.output,hS.2.size,hS.2.block⟩⟩
        have p86:(fun v _=>v=.pointer (some ⟨gl,0,none⟩)) (ev (.tmp 86)) w6:=hval 3 86 (by decide) rfl
        have e90:ev (.tmp 90)=.int .i64 ((p+j:Nat):Int):=hval 7 90 (by decide) rfl
        have e91:ev (.tmp 91)=.int .u8 (b.toNat:Int):=hval 8 91 (by decide) rfl
        obtain ⟨vJ,pJ0⟩:=hall 3 (by decide)
        have pJ:(fun v _=>v=.pointer (some ⟨gl,0,none⟩)) vJ w6:=pJ0
        clear pJ0 hall
        simp only [putsOf,List.foldl_cons,List.foldl_nil,Act.put,List.setIfInBounds_toArray,List.set_cons_zero,List.set_cons_succ]
        rw [e90]
        rw [e91]
        clear hval
        have hv6:=hS.to_vb (fun _ _ f=>f)
        rw [show ev (.tmp 86)=_ from p86]
        clear pJ hS p86
        change wpAny Tryz.prog Region.Mode.any _ _ (1+f) (firstN 9 10) _ w6
        rw [Nat.add_comm 1 f]
        refine wpAny_one (f:=f) (i:=9) (by kernel_rfl) ?_
        refine wpOp_run rfl rfl ?_
        generalize hK:wpAny Tryz.prog _ _ _ f _=K5
        go_simp
        refine (Hins.out w6 hv6).mono ?_
        rintro e w7 ⟨rfl,own5,hle5,hlf5⟩
        subst hK
        refine wpAny_all (by kernel_rfl) ?_
        have hed:=(Hst.out.vb hv6.1).edited hle5 hlf5 (by rw [Hl2.out];omega) (by rw [Hl2.out];have:=Hnm.out;omega)
        have Hst5:=lhd hed.1
        have Hlf5:=lhd (Hlf.out.trans ((LFS.of_vb gs own' hv6).trans hed.2))
        clear hed hle5 hlf5 hv6 Hst Hlf Hins
        go_wp2_with fail
        go_roundw
        case rel=>exact ⟨j+1,own5,by omega,by go_num,Hst5.out,Hlf5.out⟩
        case measure=>simp [intOf];omega
    · obtain rfl:j=m:=by omega
      rw [List.take_of_length_le (by rw [HDl.out];exact Nat.le_refl _)] at hst
      have Hst5:=lhd hst
      have Hlf5:=lhd (Hlf6.out.trans hlf)
      clear hst hlf
      go_wp2_with fail
      go_ret
      exact ⟨rfl,own',Hst5.out,Hlf5.out⟩
theorem StEditFull_any (B:Nat) (own:Nat→Nat) (gs gl most rate N:Nat) (t:List UInt8) (p:Nat) (n:Int) (A:Option Addr) (m c:Nat) (w:World) (h:StAt w B own gs gl most rate t) (hN:t.length=N) (hp:p≤N) (hroom:most < N+m):
 Calls Tryz.prog 99 #[.pointer (some ⟨gs,0,none⟩),.agg #[.int .i64 1,.int .i64 (p:Int),.int .i64 n,.slice A m c]] w fun e w'=>e=.returned (.int .i64 3)∧VB B w w':=by
 have hdw:=EdW.mk' 1 (p:Int) n A m c h
 have hh:=StHas_any B own gs gl most rate N t p 0 _ hdw.st hN
 have hhas:hasB N (p:Int) 0=true:=decide_eq_true (by omega)
 rw [hhas] at hh
 have c0:=hdw.box.cell 0
 have c1:=hdw.box.cell 1
 have c2:=hdw.box.cell 2
 have c3:=hdw.box.cell 3
 have hmx:=h.max
 have hnm:N≤most:=by have:=h.len;omega
 have g1:IntKind.i64.wrap ((most:Int) -(N:Int))=(most:Int) -(N:Int):=by rw [IntKind.wrap_i64];omega
 have g2:decide ((m:Int) > (most:Int) -(N:Int))=true:=decide_eq_true (by omega)
 have Hst:=lhd hdw.st
 have Hlow:=lhd hdw.low
 have HH:=lhd hh
 have Hbk:=lhd hdw.box
 have HN:=lhd hN
 have G1:=lhd g1
 have G2:=lhd g2
 clear h hdw hh hhas hN hmx g1 g2 hnm hroom
 go_enter Tryz.func99,Tryz.ntmps99
 go_wp2_with fail
 refine HH.out.mono ?_
 rintro e w1 ⟨rfl,rfl⟩
 clear HH
 go_wp2_with fail
 generalize w.alloc (.cells #[.int .i64 1,.int .i64 (p:Int),.int .i64 n,.slice A m c] 57)=w1 at*
 clear c0 c1 c2 c3
 have Hlen:=lhd (fun w5 (k:VB B w1 w5)=>(Hst.out.vb k.1).llen HN.out)
 refine wp_region_any (by kernel_rfl) ?_
 refine wpAny_loose2 [27,28,29,30,31,32,33,34,35,36,37,38,39,40,41,42,43,44,45,26] (VB B) (Vs [is (.pointer (some ⟨w.heap.size,0,none⟩)),is (.int .i64 1),is (.bool true),is (.bool true),is (.pointer (some ⟨w.heap.size,3,none⟩)),is (.slice A m c),is (.int .i64 (m:Int)),is (.pointer (some ⟨gs,0,none⟩)),is (.pointer (some ⟨gs,0,none⟩)),is (.pointer (some ⟨gs,1,none⟩)),is (.int .i64 (most:Int)),is (.pointer (some ⟨gs,0,none⟩)),is (.pointer (some ⟨gs,0,none⟩)),is (.pointer (some ⟨gs,0,none⟩)),is (.pointer (some ⟨gl,0,none⟩)),is (.int .i64 (N:Int)),is (.int .i64 ((most:Int) -(N:Int))),is (.bool true),is (.bool true),is (.bool true)]) _ _ rfl (by kernel_rfl) (VisK.refl _ _) (fun _ _=>VisK.trans) (stbs_all (by repeat' (first | exact stbs_is _ _ | exact stbs_any _ |(refine List.forall_mem_cons.2 ⟨?_,?_⟩)|(intro p hp;cases hp)))) ?_ ?_
 · refine steps_of ?_
   refine steps_cons (step_on rfl rfl fun ev _ _ _ _ hold _ _ _ _ hK=>?_) ?_
   · have e3:ev (.tmp 3)=.pointer (some ⟨w.heap.size,0,none⟩):=hold 3 (by kernel_rfl)
     go_simp
     exact hK _ _ ((VisK.refl _ _)) rfl
   refine steps_cons (step_on rfl rfl fun _ w5 hS _ _ _ hval _ _ _ hK=>?_) ?_
   · have e27:_=_:=hval 0 27 (by kernel_rfl) rfl
     replace hS:(VB B) w1 w5:=⟨⟨hS.1.os,hS.1.tape,hS.1.output,hS.1.size,hS.1.block⟩,⟨hS.2.os,hS.2.tape,hS.2.output,hS.2.size,hS.2.block⟩⟩
     have hbx5:=hS.1.bk Hbk.out (by decide) (by decide)
     have c9:=hbx5.cell 0
     go_simp
     exact hK _ _ ((VisK.refl _ _)) rfl
   refine steps_cons (step_on rfl rfl fun _ _ _ _ _ _ hval _ _ _ hK=>?_) ?_
   · have e28:_=_:=hval 1 28 (by kernel_rfl) rfl
     go_simp
     exact hK _ _ ((VisK.refl _ _)) rfl
   refine steps_cons (step_on rfl rfl fun _ _ _ _ _ _ hval _ _ _ hK=>?_) ?_
   · have e29:_=_:=hval 2 29 (by kernel_rfl) rfl
     go_simp
     exact hK _ _ ((VisK.refl _ _)) rfl
   refine steps_cons (step_guard (d:=30) (b:=true) rfl rfl rfl (by kernel_rfl) (fun _ _ _ h=>h) fun ev _ _ _ _ hold _ _ _ _ hK=>?_) ?_
   · have e3:ev (.tmp 3)=.pointer (some ⟨w.heap.size,0,none⟩):=hold 3 (by kernel_rfl)
     go_simp
     exact hK _ _ ((VisK.refl _ _)) rfl
   refine steps_cons (step_guard (d:=30) (b:=true) rfl rfl rfl (by kernel_rfl) (fun _ _ _ h=>h) fun _ w5 hS _ _ _ hval _ _ _ hK=>?_) ?_
   · have e31:_=_:=hval 4 31 (by kernel_rfl) rfl
     replace hS:(VB B) w1 w5:=⟨⟨hS.1.os,hS.1.tape,hS.1.output,hS.1.size,hS.1.block⟩,⟨hS.2.os,hS.2.tape,hS.2.output,hS.2.size,hS.2.block⟩⟩
     have hbx5:=hS.1.bk Hbk.out (by decide) (by decide)
     have c9:=hbx5.cell 3
     go_simp
     exact hK _ _ ((VisK.refl _ _)) rfl
   refine steps_cons (step_guard (d:=30) (b:=true) rfl rfl rfl (by kernel_rfl) (fun _ _ _ h=>h) fun _ _ _ _ _ _ hval _ _ _ hK=>?_) ?_
   · have e32:_=_:=hval 5 32 (by kernel_rfl) rfl
     go_simp
     exact hK _ _ ((VisK.refl _ _)) rfl
   refine steps_cons (step_guard (d:=30) (b:=true) rfl rfl rfl (by kernel_rfl) (fun _ _ _ h=>h) fun ev _ _ _ _ hold _ _ _ _ hK=>?_) ?_
   · have e0:ev (.tmp 0)=.pointer (some ⟨gs,0,none⟩):=hold 0 (by kernel_rfl)
     go_simp
     exact hK _ _ ((VisK.refl _ _)) rfl
   refine steps_cons (step_guard (d:=30) (b:=true) rfl rfl rfl (by kernel_rfl) (fun _ _ _ h=>h) fun _ _ _ _ _ _ hval _ _ _ hK=>?_) ?_
   · have e34:_=_:=hval 7 34 (by kernel_rfl) rfl
     go_simp
     exact hK _ _ ((VisK.refl _ _)) rfl
   refine steps_cons (step_guard (d:=30) (b:=true) rfl rfl rfl (by kernel_rfl) (fun _ _ _ h=>h) fun _ _ _ _ _ _ hval _ _ _ hK=>?_) ?_
   · have e35:_=_:=hval 8 35 (by kernel_rfl) rfl
     go_simp
     exact hK _ _ ((VisK.refl _ _)) rfl
   refine steps_cons (step_guard (d:=30) (b:=true) rfl rfl rfl (by kernel_rfl) (fun _ _ _ h=>h) fun _ w5 hS _ _ _ hval _ _ _ hK=>?_) ?_
   · have e36:_=_:=hval 9 36 (by kernel_rfl) rfl
     replace hS:(VB B) w1 w5:=⟨⟨hS.1.os,hS.1.tape,hS.1.output,hS.1.size,hS.1.block⟩,⟨hS.2.os,hS.2.tape,hS.2.output,hS.2.size,hS.2.block⟩⟩
     have hbs5:=hS.1.bk Hst.out.blk (by decide) (by decide)
     have c9:=hbs5.cell 1
     go_simp
     exact hK _ _ ((VisK.refl _ _)) rfl
   refine steps_cons (step_guard (d:=30) (b:=true) rfl rfl rfl (by kernel_rfl) (fun _ _ _ h=>h) fun ev _ _ _ _ hold _ _ _ _ hK=>?_) ?_
   · have e0:ev (.tmp 0)=.pointer (some ⟨gs,0,none⟩):=hold 0 (by kernel_rfl)
     go_simp
     exact hK _ _ ((VisK.refl _ _)) rfl
   refine steps_cons (step_guard (d:=30) (b:=true) rfl rfl rfl (by kernel_rfl) (fun _ _ _ h=>h) fun _ _ _ _ _ _ hval _ _ _ hK=>?_) ?_
   · have e38:_=_:=hval 11 38 (by kernel_rfl) rfl
     go_simp
     exact hK _ _ ((VisK.refl _ _)) rfl
   refine steps_cons (step_guard (d:=30) (b:=true) rfl rfl rfl (by kernel_rfl) (fun _ _ _ h=>h) fun _ _ _ _ _ _ hval _ _ _ hK=>?_) ?_
   · have e39:_=_:=hval 12 39 (by kernel_rfl) rfl
     go_simp
     exact hK _ _ ((VisK.refl _ _)) rfl
   refine steps_cons (step_guard (d:=30) (b:=true) rfl rfl rfl (by kernel_rfl) (fun _ _ _ h=>h) fun _ w5 hS _ _ _ hval _ _ _ hK=>?_) ?_
   · have e40:_=_:=hval 13 40 (by kernel_rfl) rfl
     replace hS:(VB B) w1 w5:=⟨⟨hS.1.os,hS.1.tape,hS.1.output,hS.1.size,hS.1.block⟩,⟨hS.2.os,hS.2.tape,hS.2.output,hS.2.size,hS.2.block⟩⟩
     have hbs5:=hS.1.bk Hst.out.blk (by decide) (by decide)
     have c9:=hbs5.cell 0
     go_simp
     exact hK _ _ ((VisK.refl _ _)) rfl
   refine steps_cons (step_guard (d:=30) (b:=true) rfl rfl rfl (by kernel_rfl) (fun _ _ _ h=>h) fun _ w5 hS _ _ _ hval _ _ _ hK=>?_) ?_
   · have e41:_=_:=hval 14 41 (by kernel_rfl) rfl
     replace hS:(VB B) w1 w5:=⟨⟨hS.1.os,hS.1.tape,hS.1.output,hS.1.size,hS.1.block⟩,⟨hS.2.os,hS.2.tape,hS.2.output,hS.2.size,hS.2.block⟩⟩
     go_simp
     refine (Hlen.out w5 hS).mono ?_
     rintro e w8 ⟨rfl,rfl⟩
     exact hK _ _ (VisK.refl _ _) rfl
   refine steps_cons (step_guard (d:=30) (b:=true) rfl rfl rfl (by kernel_rfl) (fun _ _ _ h=>h) fun _ _ _ _ _ _ hval _ _ _ hK=>?_) ?_
   · have e37:_=_:=hval 10 37 (by kernel_rfl) rfl
     have e42:_=_:=hval 15 42 (by kernel_rfl) rfl
     go_simp
     exact hK _ _ (VisK.refl _ _) (by first | rfl | exact congrArg (Value.int .i64) G1.out)
   refine steps_cons (step_guard (d:=30) (b:=true) rfl rfl rfl (by kernel_rfl) (fun _ _ _ h=>h) fun _ _ _ _ _ _ hval _ _ _ hK=>?_) ?_
   · have e33:_=_:=hval 6 33 (by kernel_rfl) rfl
     have e43:_=_:=hval 16 43 (by kernel_rfl) rfl
     go_simp
     exact hK _ _ (VisK.refl _ _) (by first | rfl | exact congrArg Value.bool G2.out)
   refine steps_cons (step_on rfl rfl fun _ _ _ _ _ _ hval _ _ _ hK=>?_) ?_
   · have e30:_=_:=hval 3 30 (by kernel_rfl) rfl
     have e44:_=_:=hval 17 44 (by kernel_rfl) rfl
     go_simp
     exact hK _ _ ((VisK.refl _ _)) rfl
   refine steps_cons (step_on rfl rfl fun _ _ _ _ _ _ hval _ _ _ hK=>?_) ?_
   · have e45:_=_:=hval 18 45 (by kernel_rfl) rfl
     go_simp
     exact hK _ _ ((VisK.refl _ _)) rfl
   exact steps_nil
 · intro ev w6 hS hval
   replace hS:(VB B) w1 w6:=⟨⟨hS.1.os,hS.1.tape,hS.1.output,hS.1.size,hS.1.block⟩,⟨hS.2.os,hS.2.tape,hS.2.output,hS.2.size,hS.2.block⟩⟩
   have e26:ev (.tmp 26)=.bool true:=hval 19 26 rfl
   simp only [putsOf,List.foldl_cons,List.foldl_nil,Act.put,List.setIfInBounds_toArray,List.set_cons_zero,List.set_cons_succ]
   rw [e26]
   clear hval
   clear e26
   have Hb6:=lhd (VisK.trans (VisK.of_below Hlow.out) hS)
   clear hS
   go_wp2_with fail
   go_ret
   exact ⟨rfl,Hb6.out⟩
end Go.Proofs.YtipaccakmndkgaaGreatDoor
