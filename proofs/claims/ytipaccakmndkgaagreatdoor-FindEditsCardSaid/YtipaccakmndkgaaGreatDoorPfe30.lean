/- The walks of the wave's Select: its closure, look with it, Select. Conditions: there is such a symbol; symbols below 257; at most 1000; the table of math/bits stands in its variable. A text and its pairs under lookups; the sampled pairs. No conditions. -/
import Derived.Test.YtipaccakmndkgaaGreatDoorPfe11
import Derived.Test.YtipaccakmndkgaaGreatDoorPfe27
import Derived.Test.YtipaccakmndkgaaGreatDoorPfe23
import Derived.Test.YtipaccakmndkgaaGreatDoorPfe25
import Derived.Test.YtipaccakmndkgaaGreatDoorPfe29
namespace Go.Proofs.YtipaccakmndkgaaGreatDoor
open Go.RowKit
set_option linter.unusedVariables false
set_option linter.unusedSimpArgs false
theorem TabW.vb {B:Nat} {w w':World} (h:TabW w) (k:VB B w w') (hB:1 < B) (hw:1 < w.heap.size):TabW w':=
 fun j hj=>(k.2.cell (p:=⟨1,j,none⟩) hw (by show ¬(B≤1);omega)).trans (h j hj)
set_option maxRecDepth 100000 in
set_option maxHeartbeats 1000000 in
theorem Select1_any (B gt gj gs gv:Nat) (lv:Nat) (p:Int) (bs:List Bool) (r j s:Nat) (w:World) (ht:TreeAt w gt bs) (hj:Bk w gj 3 #[.int .i64 (j:Int)]) (hs:Bk w gs 3 #[.int .i64 (s:Int)]) (hv:Bk w gv 3 #[.int .i64 (lv:Int)]) (hl9:lv < 9) (hs257:s < 257) (hr:bs[r]?=some (bitB s lv)) (hc:(bs.take r).count (bitB s lv)=j) (hT:TabW w) (hB:1 < B) (hBt:B≤gt):
 Calls Tryz.prog 207 #[.agg #[.pointer (some ⟨gt,0,none⟩),.int .i64 (lv:Int),.int .i64 p],.pointer (some ⟨gj,0,none⟩),.pointer (some ⟨gs,0,none⟩),.pointer (some ⟨gv,0,none⟩)] w fun e w'=>e=.returned (.tuple #[])∧
  ∃w1,VB B w w1∧Bk w1 gj 3 #[.int .i64 (j:Int)]∧w'=w1.setCell ⟨gj,0,none⟩ (.int .i64 (r:Int)):=by
 have l1:=hj.lt
 have l2:=hs.lt
 have l3:=hv.lt
 have l0:1 < w.heap.size:=hT.pos
 obtain ⟨b,hb⟩:∃b,bitB s lv=b:=⟨_,rfl⟩
 rw [hb] at hr hc
 obtain ⟨o,ho⟩:∃o,Obj.cells #[.pointer (some ⟨gt,0,none⟩),.int .i64 (lv:Int),.int .i64 p] 177=o:=⟨_,rfl⟩
 have hal:=(Below.refl w.heap.size w).alloc (Nat.le_refl _) o
 have hs1:=Bk.new w 177 #[.pointer (some ⟨gt,0,none⟩),.int .i64 (lv:Int),.int .i64 p]
 rw [ho] at hs1
 have l4:=hs1.lt
 obtain ⟨W,hW⟩:∃x,w.alloc o=x:=⟨_,rfl⟩
 have ht1:=ht.below hal
 have hj1:=hj.below hal l1
 have hss1:=hs.below hal l2
 have hv1:=hv.below hal l3
 have hT1:=hT.below hal l0
 rw [hW] at hal hs1 ht1 hj1 hss1 hv1 hT1 l4
 have l5:=hal.size
 have Hb:=Lib.hid hb
 have Hr:=Lib.hid hr
 have Hc:=Lib.hid hc
 have Ht:=Lib.hid ht1
 have Hj:=Lib.hid hj1
 have Hs:=Lib.hid hss1
 have Hv:=Lib.hid hv1
 have HT:=Lib.hid hT1
 have HA:=Lib.hid hal
 have Hs1:=Lib.hid hs1
 have Ho:=Lib.hid ho
 have HW:=Lib.hid hW
 have Hl5:=Lib.hid l5
 clear hb hr hc ht hj hs hv hT hal hs1 ho ht1 hj1 hss1 hv1 hT1 hW l5
 go_enter Tryz.func207,Tryz.ntmps207
 go_wp2_with fail
 rw [Ho.out,HW.out]
 refine wp_region_any (by kernel_rfl) ?_
 refine wpAny_vis_tail B 7 [5,6,7,8,9,10,11] (fun _=>False) 6 [] (fun _=>True) (is (.int .i64 (r:Int))) [is (.pointer (some ⟨w.heap.size,0,none⟩)),is (.pointer (some ⟨gt,0,none⟩)),is (.int .i64 (j:Int)),is (.int .i64 (s:Int)),is (.int .i64 (lv:Int)),is (.bool b),anyV] _ _ rfl (by decide) (by kernel_rfl) (by kernel_rfl) (by kernel_rfl) (trivial) (fun _ _ _ _ _=>trivial) (stbs_is _ _) (by repeat' (first | exact stbs_is _ _ | exact stbs_any _ |(refine List.forall_mem_cons.2 ⟨?_,?_⟩)|(intro p hp;cases hp))) ?_ ?_
 · refine steps_of_n ?_
   refine steps_cons (step_on3 rfl rfl fun ev _ _ _ _ _ hold _ _ _ _ hK=>?_) ?_
   · have e4:ev (.tmp 4)=.pointer (some ⟨w.heap.size,0,none⟩):=hold 4 (by kernel_rfl)
     go_simp
     exact hK _ _ (vstep_vis (VisK.refl _ _)) rfl
   refine steps_cons (step_on3 rfl rfl fun _ w5 hS _ _ _ _ hval _ _ _ hK=>?_) ?_
   · replace hS:VFB B (fun _=>False) W w5:=⟨⟨hS.1.os,hS.1.tape,hS.1.output,hS.1.size,hS.1.block⟩,⟨hS.2.os,hS.2.tape,hS.2.output,hS.2.size,hS.2.block⟩⟩
     have e5:_=_:=hval 0 5 (by kernel_rfl) rfl
     have k5:w5.cell? ⟨w.heap.size,0,none⟩=some (.pointer (some ⟨gt,0,none⟩)):=((hS.1.bk Hs1.out (by decide) (by decide) (fun h=>h)).cell 0).trans rfl
     go_simp
     exact hK _ _ (vstep_vis (VisK.refl _ _)) rfl
   refine steps_cons (step_on3 rfl rfl fun ev w5 hS _ _ _ hold _ _ _ _ hK=>?_) ?_
   · replace hS:VFB B (fun _=>False) W w5:=⟨⟨hS.1.os,hS.1.tape,hS.1.output,hS.1.size,hS.1.block⟩,⟨hS.2.os,hS.2.tape,hS.2.output,hS.2.size,hS.2.block⟩⟩
     have e1:ev (.tmp 1)=.pointer (some ⟨gj,0,none⟩):=hold 1 (by kernel_rfl)
     have k5:w5.cell? ⟨gj,0,none⟩=some (.int .i64 (j:Int)):=((hS.1.bk Hj.out (by decide) (by decide) (fun h=>h)).cell 0).trans rfl
     go_simp
     exact hK _ _ (vstep_vis (VisK.refl _ _)) rfl
   refine steps_cons (step_on3 rfl rfl fun ev w5 hS _ _ _ hold _ _ _ _ hK=>?_) ?_
   · replace hS:VFB B (fun _=>False) W w5:=⟨⟨hS.1.os,hS.1.tape,hS.1.output,hS.1.size,hS.1.block⟩,⟨hS.2.os,hS.2.tape,hS.2.output,hS.2.size,hS.2.block⟩⟩
     have e2:ev (.tmp 2)=.pointer (some ⟨gs,0,none⟩):=hold 2 (by kernel_rfl)
     have k5:w5.cell? ⟨gs,0,none⟩=some (.int .i64 (s:Int)):=((hS.1.bk Hs.out (by decide) (by decide) (fun h=>h)).cell 0).trans rfl
     go_simp
     exact hK _ _ (vstep_vis (VisK.refl _ _)) rfl
   refine steps_cons (step_on3 rfl rfl fun ev w5 hS _ _ _ hold _ _ _ _ hK=>?_) ?_
   · replace hS:VFB B (fun _=>False) W w5:=⟨⟨hS.1.os,hS.1.tape,hS.1.output,hS.1.size,hS.1.block⟩,⟨hS.2.os,hS.2.tape,hS.2.output,hS.2.size,hS.2.block⟩⟩
     have e3:ev (.tmp 3)=.pointer (some ⟨gv,0,none⟩):=hold 3 (by kernel_rfl)
     have k5:w5.cell? ⟨gv,0,none⟩=some (.int .i64 (lv:Int)):=((hS.1.bk Hv.out (by decide) (by decide) (fun h=>h)).cell 0).trans rfl
     go_simp
     exact hK _ _ (vstep_vis (VisK.refl _ _)) rfl
   refine steps_cons (step_on3 rfl rfl fun _ w5 _ _ _ _ _ hval _ _ _ hK=>?_) ?_
   · have e8:_=_:=hval 3 8 (by kernel_rfl) rfl
     have e9:_=_:=hval 4 9 (by kernel_rfl) rfl
     go_simp
     refine (SymBit_any s lv w5 hs257 hl9).mono ?_
     rintro e w8 ⟨rfl,hb8⟩
     rw [Hb.out]
     exact hK _ _ (vstep_vis (VisK.of_below hb8)) rfl
   refine steps_cons (step_on3 rfl rfl fun _ w5 hS _ _ _ _ hval _ _ _ hK=>?_) ?_
   · replace hS:VFB B (fun _=>False) W w5:=⟨⟨hS.1.os,hS.1.tape,hS.1.output,hS.1.size,hS.1.block⟩,⟨hS.2.os,hS.2.tape,hS.2.output,hS.2.size,hS.2.block⟩⟩
     have e6:_=_:=hval 1 6 (by kernel_rfl) rfl
     have e7:_=_:=hval 2 7 (by kernel_rfl) rfl
     have e10:_=_:=hval 5 10 (by kernel_rfl) rfl
     go_simp
     have hvs:=VFB.to_vb hS (fun b _ h=>h)
     have ht5:=Ht.out.vis hvs.1
     have hT5:=HT.out.vb hvs hB (Nat.lt_of_lt_of_le l0 Hl5.out)
     refine (TreeSelect_any gt bs r j b w5 ht5 Hr.out Hc.out hT5 (by omega)).mono ?_
     rintro e w8 ⟨rfl,hv8⟩
     exact hK _ _ (vstep_vis (hv8.mono fun b hb=>by rcases hb with rfl;exact hBt)) rfl
   exact steps_nil
 · intro ev w6 f hS hval hall
   replace hS:VFB B (fun _=>False) W w6:=⟨⟨hS.1.os,hS.1.tape,hS.1.output,hS.1.size,hS.1.block⟩,⟨hS.2.os,hS.2.tape,hS.2.output,hS.2.size,hS.2.block⟩⟩
   have e11:ev (.tmp 11)=.int .i64 (r:Int):=hval 6 11 (by decide) rfl
   obtain ⟨vJ,pJ0⟩:=hall 6 (by decide)
   have pJ:(is (.int .i64 (r:Int))) vJ w6:=pJ0
   clear pJ0 hall
   simp only [putsOf,List.foldl_cons,List.foldl_nil,Act.put,List.setIfInBounds_toArray,List.set_cons_zero,List.set_cons_succ]
   rw [e11]
   clear hval
   have hvs:=VFB.to_vb hS (fun b _ h=>h)
   have hj6:=hvs.1.bk Hj.out (by decide) (by decide)
   have c6:w6.cell? ⟨gj,0,none⟩=some (.int .i64 (j:Int)):=(hj6.cell 0).trans rfl
   have f6:=hj6.frozen 0
   have hvn:=(VisK.of_below (F:=fun b=>B≤b) HA.out).trans hvs
   have l6:=hj6.lt
   clear hvs hS pJ
   change wpAny Tryz.prog Region.Mode.any _ _ (1+f) (firstN 7 8) _ w6
   rw [Nat.add_comm 1 f]
   refine wpAny_one (f:=f) (i:=7) (by kernel_rfl) ?_
   refine wpOp_run rfl rfl ?_
   generalize hK:wpAny Tryz.prog _ _ _ f _=K5
   go_simp
   subst hK
   refine wpAny_all (by kernel_rfl) ?_
   go_wp2_with fail
   go_end0
   exact ⟨rfl,w6,hvn,hj6,rfl⟩
set_option maxRecDepth 100000 in
set_option maxHeartbeats 1000000 in
theorem LookS_any (B gv gt gn gs gw:Nat) (S:Nat→Value) (n v p:Int) (lv:Nat) (bs:List Bool) (r j s:Nat) (w0 w:World) (hw:Bk w gv 174 (wcells S n v)) (ht0:TreeAt w0 gt bs) (hv0:Vis w0 w) (hg0:w0.heap.size≤gn) (hn:Bk w gn 3 #[.int .i64 (j:Int)]) (hs5:Bk w gs 3 #[.int .i64 (s:Int)]) (hk:Bk w gw 3 #[.int .i64 (lv:Int)]) (hl9:lv < 9) (hs257:s < 257) (hr:bs[r]?=some (bitB s lv)) (hc:(bs.take r).count (bitB s lv)=j) (hT:TabW w) (hB:1 < B) (hBv:B≤gv) (hBt:B≤gt) (hBn:B≤gn):
 Calls Tryz.prog 130 #[.pointer (some ⟨gv,0,none⟩),.agg #[.pointer (some ⟨gt,0,none⟩),.int .i64 (lv:Int),.int .i64 p],.func (.func 207) #[] #[.pointer (some ⟨gn,0,none⟩),.pointer (some ⟨gs,0,none⟩),.pointer (some ⟨gw,0,none⟩)]] w fun e w'=>e=.returned (.tuple #[])∧
  VisF (fun b=>b=gn) w w'∧Keep (fun b=>B≤b) w w'∧Bk w' gn 3 #[.int .i64 (r:Int)]:=by
 have ht:=ht0.vis hv0
 have Ht0:=Lib.hid ht0
 have HV0:=Lib.hid hv0
 have Hr:=Lib.hid hr
 have Hc:=Lib.hid hc
 have HT:=Lib.hid hT
 have Hs5:=Lib.hid hs5
 have l5:=hs5.lt
 have l0:1 < w.heap.size:=hT.pos
 clear ht0 hv0 hr hc hT hs5
 obtain ⟨o,ho⟩:∃o,Obj.cells #[.pointer (some ⟨gt,0,none⟩),.int .i64 (lv:Int),.int .i64 p] 177=o:=⟨_,rfl⟩
 have hal:=(Below.refl w.heap.size w).alloc (Nat.le_refl _) o
 have hs1:=Bk.new w 177 #[.pointer (some ⟨gt,0,none⟩),.int .i64 (lv:Int),.int .i64 p]
 rw [ho] at hs1
 have l1:=hk.lt
 have l3:=hn.lt
 have l4:=hw.lt
 have n1:=Bk.ne hn hw (by decide)
 have Ht:=Lib.hid ht
 have Hn:=Lib.hid hn
 have Hk:=Lib.hid hk
 have Hw:=Lib.hid hw
 have HA:=Lib.hid hal
 have Hs:=Lib.hid hs1
 have Ho:=Lib.hid ho
 clear ht hk hn hw hal hs1 ho
 go_enter Tryz.func130,Tryz.ntmps130
 go_wp2_with fail
 rw [Ho.out]
 refine (Select1_any B gt gn gs gw lv p bs r j s _ (Ht.out.below HA.out) (Hn.out.alloc _) (Hs5.out.alloc _) (Hk.out.alloc _) hl9 hs257 Hr.out Hc.out (HT.out.below HA.out l0) hB hBt).mono ?_
 rintro e w2 ⟨rfl,w1,hv1,hn1,rfl⟩
 obtain ⟨v1,hw1⟩:=((Vis.of_below HA.out).trans hv1.1).waveC Hw.out
 have hw2:=hw1.far (p:=⟨gn,0,none⟩) (fun h=>n1 h.symm) (.int .i64 (r:Int))
 have ht1:=Ht.out.vis ((Vis.of_below HA.out).trans hv1.1)
 have ht2:TreeAt (w1.setCell ⟨gn,0,none⟩ (.int .i64 (r:Int))) gt bs:=Ht0.out.vis (((HV0.out.trans (Vis.of_below HA.out)).trans hv1.1).fresh (p:=⟨gn,0,none⟩) hg0 _)
 obtain ⟨vt,hvt⟩:=ht2.visits
 have hs2:=(hv1.1.bk Hs.out (by decide) (by decide)).far (p:=⟨gn,0,none⟩) (fun h=>absurd (show w.heap.size=gn from h) (by omega)) (.int .i64 (r:Int))
 have hnn:=hn1.set 0 (.int .i64 (r:Int))
 have hfin:VisF (fun b=>b=gn) w (w1.setCell ⟨gn,0,none⟩ (.int .i64 (r:Int))):=VisF.put (F:=fun b=>b=gn) (VisF.of_vis ((Vis.of_below HA.out).trans hv1.1)) (p:=⟨gn,0,none⟩) (.inl rfl) _
 have hkp:Keep (fun b=>B≤b) w (w1.setCell ⟨gn,0,none⟩ (.int .i64 (r:Int))):=Keep.setCell (F:=fun b=>B≤b) ((Keep.of_below HA.out).trans hv1.2) (p:=⟨gn,0,none⟩) (.inl hBn) _
 obtain ⟨W,hW⟩:∃W,w1.setCell ⟨gn,0,none⟩ (.int .i64 (r:Int))=W:=⟨_,rfl⟩
 rw [hW] at hw2 ht2 hvt hs2 hnn hfin hkp⊢
 have s0:W.cell? ⟨w.heap.size,0,none⟩=some (.pointer (some ⟨gt,0,none⟩)):=(hs2.cell 0).trans rfl
 have Hw2:=Lib.hid hw2
 have Hs2:=Lib.hid hs2
 have HN:=Lib.hid hnn
 have HF:=Lib.hid hfin
 have HK:=Lib.hid hkp
 have Ht2:=Lib.hid ht2
 have Hvt:=Lib.hid hvt
 have htlt:=ht2.lt
 have hslt:=hs2.lt
 have hgs:=Bk.ne hw2 hs2 (by decide)
 have hgn:=Bk.ne hw2 hnn (by decide)
 have hgvt:gt≠gv:=by
  rintro rfl
  obtain ⟨ga,v,⟨_,_,h2⟩|⟨_,_,_,_,_,h3⟩⟩:=Ht2.out
  · exact absurd (bk_inj h2 Hw2.out).1 (by decide)
  · exact absurd (bk_inj h3.tree Hw2.out).1 (by decide)
 clear hw2 hs2 hnn hfin hkp ht2 hvt hW hw1 ht1 hn1 hv1 HA Ht Hn Hk Hw Hs s0
 go_wp2_with fail
 refine wp_region_any (by kernel_rfl) ?_
 refine wpAny_keep [9,10,11,12,13,14,15,16,17,18] (fun b=>b=gv) 10 [3,10] (fun w2=>Bk w2 gv 174 (wcells S n v1)) (fun _ w2=>Bk w2 gv 174 (wcells S n (IntKind.i64.wrap (v1+vt)))) [is (.pointer (some ⟨gv,0,none⟩)),is (.pointer (some ⟨gv,0,none⟩)),is (.pointer (some ⟨gv,10,none⟩)),is (.int .i64 v1),is (.pointer (some ⟨w.heap.size,0,none⟩)),is (.pointer (some ⟨gt,0,none⟩)),is (.int .i64 vt),is (.int .i64 (IntKind.i64.wrap (v1+vt))),is (.pointer (some ⟨gv,0,none⟩)),is (.pointer (some ⟨gv,10,none⟩)),anyV] _ _ rfl (by kernel_rfl) (by kernel_rfl) (Hw2.out) (fun w2 w3 h _ hg=>Bk.below h hg h.lt) (fun _ _ _ h k=>Bk.below h k h.lt) (by repeat' (first | exact stbk_is _ _ | exact stbk_any _ |(refine List.forall_mem_cons.2 ⟨?_,?_⟩)|(intro p hp;cases hp))) ?_ ?_
 · refine steps_of ?_
   refine steps_cons (step_on3 rfl rfl fun ev _ _ _ _ _ hold _ _ _ _ hK=>?_) ?_
   · have e0:ev (.tmp 0)=.pointer (some ⟨gv,0,none⟩):=hold 0 (by kernel_rfl)
     go_simp
     exact hK _ _ (kstep_grow (Below.refl _ _)) rfl
   refine steps_cons (step_on3 rfl rfl fun _ _ _ _ _ _ _ hval _ _ _ hK=>?_) ?_
   · have e9:_=_:=hval 0 9 (by kernel_rfl) rfl
     go_simp
     exact hK _ _ (kstep_grow (Below.refl _ _)) rfl
   refine steps_cons (step_on3 rfl rfl fun _ _ _ _ _ _ _ hval _ _ _ hK=>?_) ?_
   · have e10:_=_:=hval 1 10 (by kernel_rfl) rfl
     go_simp
     exact hK _ _ (kstep_grow (Below.refl _ _)) rfl
   refine steps_cons (step_on3 rfl rfl fun _ w5 _ hU _ _ _ hval _ _ _ hK=>?_) ?_
   · have hpre:=hU rfl
     have e11:_=_:=hval 2 11 (by kernel_rfl) rfl
     have c12:w5.cell? ⟨gv,10,none⟩=some (.int .i64 v1):=(hpre.cell 10).trans (wcells_get _ _ _).2.2.2.2.2.2.2.2.2.2
     go_simp
     exact hK _ _ (kstep_grow (Below.refl _ _)) rfl
   refine steps_cons (step_on3 rfl rfl fun ev _ _ _ _ _ hold _ _ _ _ hK=>?_) ?_
   · have e4:ev (.tmp 4)=.pointer (some ⟨w.heap.size,0,none⟩):=hold 4 (by kernel_rfl)
     go_simp
     exact hK _ _ (kstep_grow (Below.refl _ _)) rfl
   refine steps_cons (step_on3 rfl rfl fun _ w5 hS _ _ _ _ hval _ _ _ hK=>?_) ?_
   · replace hS:Keep (fun b=>b=gv) W w5:=⟨hS.os,hS.tape,hS.output,hS.size,hS.block⟩
     have e13:_=_:=hval 4 13 (by kernel_rfl) rfl
     have c14:w5.cell? ⟨w.heap.size,0,none⟩=some (.pointer (some ⟨gt,0,none⟩)):=((hS.bk Hs2.out (fun h=>hgs (show w.heap.size=gv from h).symm)).cell 0).trans rfl
     go_simp
     exact hK _ _ (kstep_grow (Below.refl _ _)) rfl
   refine steps_cons (step_on3 rfl rfl fun _ w5 hS _ _ _ _ hval _ _ _ hK=>?_) ?_
   · replace hS:Keep (fun b=>b=gv) W w5:=⟨hS.os,hS.tape,hS.output,hS.size,hS.block⟩
     have e14:_=_:=hval 5 14 (by kernel_rfl) rfl
     go_simp
     refine (TreeVisits_any gt vt w5 ((hS.cell htlt hgvt).trans Hvt.out)).mono ?_
     rintro e w8 ⟨rfl,hb8⟩
     exact hK _ _ (kstep_grow hb8) rfl
   refine steps_cons (step_on3 rfl rfl fun _ _ _ _ _ _ _ hval _ _ _ hK=>?_) ?_
   · have e12:_=_:=hval 3 12 (by kernel_rfl) rfl
     have e15:_=_:=hval 6 15 (by kernel_rfl) rfl
     go_simp
     exact hK _ _ (kstep_grow (Below.refl _ _)) rfl
   refine steps_cons (step_on3 rfl rfl fun _ _ _ _ _ _ _ hval _ _ _ hK=>?_) ?_
   · have e9:_=_:=hval 0 9 (by kernel_rfl) rfl
     go_simp
     exact hK _ _ (kstep_grow (Below.refl _ _)) rfl
   refine steps_cons (step_on3 rfl rfl fun _ _ _ _ _ _ _ hval _ _ _ hK=>?_) ?_
   · have e17:_=_:=hval 8 17 (by kernel_rfl) rfl
     go_simp
     exact hK _ _ (kstep_grow (Below.refl _ _)) rfl
   refine steps_cons (step_on3 rfl rfl fun _ w5 _ hU _ _ _ hval _ _ _ hK=>?_) ?_
   · have hpre:=hU rfl
     have e18:_=_:=hval 9 18 (by kernel_rfl) rfl
     have e16:_=_:=hval 7 16 (by kernel_rfl) rfl
     have c18:w5.cell? ⟨gv,10,none⟩=some (.int .i64 v1):=(hpre.cell 10).trans (wcells_get _ _ _).2.2.2.2.2.2.2.2.2.2
     have f18:=hpre.frozen 10
     go_simp
     refine hK (.bool true) _ (kstep_keep (Keep.setCell (F:=fun b=>b=gv) (Keep.refl _ _) (p:=⟨gv,10,none⟩) (.inl rfl) _)) ?_
     rw [←wcells_visits S n v1]
     exact hpre.set 10 _
   exact steps_nil
 · intro ev w6 hS hval hall
   replace hS:Keep (fun b=>b=gv) W w6:=⟨hS.os,hS.tape,hS.output,hS.size,hS.block⟩
   obtain ⟨vJ,pJ⟩:∃vJ0,(fun _ w2=>Bk w2 gv 174 (wcells S n (IntKind.i64.wrap (v1+vt)))) vJ0 w6:=hall 10 (by decide)
   simp only [putsOf,List.foldl_cons,List.foldl_nil,Act.put,List.setIfInBounds_toArray,List.set_cons_zero,List.set_cons_succ]
   clear hval hall
   have hv6:=Vis.of_wave hS Hw2.out pJ
   have h1:=VisF.trans HF.out (VisF.of_vis hv6)
   have h2:=HK.out.trans (hS.mono fun b _ (e:b=gv)=>by rw [e];exact hBv)
   have h3:=hS.bk HN.out (fun e=>hgn (show gn=gv from e).symm)
   have H1:=Lib.hid h1
   have H2:=Lib.hid h2
   have H3:=Lib.hid h3
   clear hv6 h1 h2 h3 pJ hS
   go_wp2_with fail
   go_end0
   exact ⟨rfl,H1.out,H2.out,H3.out⟩
end Go.Proofs.YtipaccakmndkgaaGreatDoor
namespace Go.Proofs.YtipaccakmndkgaaGreatDoor
open Go.RowKit
set_option linter.unusedVariables false
set_option linter.unusedSimpArgs false
theorem PermAt.vis {w w':World} {B gp ga:Nat} {vl vo vt vf:Value} {R P:Nat} {ks:List Nat} {C:List (Nat×Nat)} {tk:List Bool} {fr:List Nat} (h:PermAt w B gp ga vl vo vt vf R P ks C tk fr) (k:Vis w w'):PermAt w' B gp ga vl vo vt vf R P ks C tk fr:=
 ⟨k.bk h.blk (by decide) (by decide),k.own h.lrow (by decide) (by decide),k.own h.orow (by decide) (by decide),k.bk h.ar (by decide) (by decide),k.own h.trow (by decide) (by decide),k.own h.frow (by decide) (by decide),h.apart,h.lt,h.lo⟩
theorem LiveAt.vis {w w':World} {Bw gl gk gp ga:Nat} {vl vo vt:Value} {B n rate:Nat} {L:List Nat} {C:List (Nat×Nat)} {tk:List Bool} (h:LiveAt w Bw gl gk gp ga vl vo vt B n rate L C tk) (k:Vis w w'):LiveAt w' Bw gl gk gp ga vl vo vt B n rate L C tk:=
 ⟨k.bk h.blk (by decide) (by decide),h.walk.vis k,h.perm.vis k⟩
theorem sampM (rs:List Nat) (rate n i p:Nat):(i,p)∈sampC rs rate n↔i < n∧rs.getD i 0=p∧p % rate=0:=by
 unfold sampC
 rw [List.mem_map]
 constructor
 · rintro ⟨a,ha,e⟩
   rw [List.mem_filter,List.mem_range] at ha
   cases e
   exact ⟨ha.1,rfl,by simpa using ha.2⟩
 · rintro ⟨h1,rfl,h2⟩
   exact ⟨i,List.mem_filter.2 ⟨List.mem_range.2 h1,by simpa using h2⟩,rfl⟩
theorem range_sorted (C:List (Nat×Nat)) (h:C.Pairwise (fun a b=>a.1 < b.1)):(List.range C.length).Pairwise (fun a b=>rowK C a < rowK C b):=by
 rw [List.pairwise_iff_getElem]
 intro i j hi hj hij
 rw [List.length_range] at hi hj
 rw [List.getElem_range,List.getElem_range]
 have:=List.pairwise_iff_getElem.1 h i j hi hj hij
 unfold rowK
 rw [List.getD_eq_getElem?_getD,List.getD_eq_getElem?_getD,List.getElem?_eq_getElem hi,List.getElem?_eq_getElem hj]
 exact this
theorem sampC_le (rs:List Nat) (rate n:Nat):(sampC rs rate n).length≤n:=by
 unfold sampC
 rw [List.length_map]
 exact Nat.le_trans (List.length_filter_le _ _) (by simp)
end Go.Proofs.YtipaccakmndkgaaGreatDoor
