/- The walk of the wave's Rank. Conditions: symbols below 257. As 'Loose10' (one writer, the last operation waits for all the others), where the other operations may look into trees and waves (Vis). No conditions. -/
import Derived.Test.YtipaccakmndkgaaGreatPwa13
import Derived.Test.YtipaccakmndkgaaGreatPwa5
namespace Go.Proofs.YtipaccakmndkgaaGreat
open Go.RowKit
set_option linter.unusedVariables false
set_option linter.unusedSimpArgs false
theorem ix9 (S:Nat→Value) (lv:Nat) (h:lv < 9) (w:World):(Instr.index 79 (.agg #[S 0,S 1,S 2,S 3,S 4,S 5,S 6,S 7,S 8]) (.int .i64 (lv:Int))).run Tryz.prog w=.ok (S lv) w:=by
 rcases lv with _ | _ | _ | _ | _ | _ | _ | _ | _ | lv
 all_goals first |(exfalso;omega)| kernel_rfl
set_option maxRecDepth 100000 in
set_option maxHeartbeats 2000000 in
theorem WaveRank_any (B gv:Nat) (L:List Nat) (k s:Nat) (w:World) (h:WaveAt w B gv L) (hs:s < 257) (hk:k≤L.length) (hL:∀x∈L,x < 257) (hn:L.length≤1000):
 Calls Tryz.prog 88 #[.pointer (some ⟨gv,0,none⟩),.int .i64 (k:Int),.int .i64 (s:Int)] w fun e w'=>e=.returned (.int .i64 (((L.take k).count s:Nat):Int))∧VB B w w':=by
 have h90:=atLv_zero L k s hk hL hs
 have h99:=atLv_nine L k s
 obtain ⟨hBg,S,v,hb,hrows⟩:=h
 have hset:=hb.set 10 (.int .i64 0)
 rw [wcells_visits] at hset
 have hv1:=VB.set_wave hb hBg 0
 obtain ⟨n,hnn⟩:∃n,L.length=n:=⟨_,rfl⟩
 rw [hnn] at hb hset hk hn
 have m1:max (k:Int) 0=(k:Int):=by omega
 have m2:min (k:Int) (n:Int)=(k:Int):=by omega
 have f10:=hb.frozen 10
 have x10:w.cell? ⟨gv,10,none⟩=some (.int .i64 v):=(hb.cell 10).trans (wcells_get S n v).2.2.2.2.2.2.2.2.2.2
 have hlt:=hb.lt
 obtain ⟨W,hW⟩:∃W,w.setCell ⟨gv,10,none⟩ (.int .i64 0)=W:=⟨_,rfl⟩
 rw [hW] at hset hv1
 have Hset:=Lib.hid hset
 have Hv1:=Lib.hid hv1
 have Hrows:=Lib.hid hrows
 have H0:=Lib.hid h90
 have H9:=Lib.hid h99
 have HL:=Lib.hid hL
 have HN:=Lib.hid hnn
 have HW:=Lib.hid hW
 clear hb hrows hset hv1 h90 h99 hL hnn hW
 go_enter Tryz.func88,Tryz.ntmps88
 go_wp2_with fail
 rw [HW.out]
 refine (SymIs_any s _ hs).mono ?_
 rintro e w1 ⟨rfl,hb1⟩
 have hbk:=Hset.out.below hb1 Hset.out.lt
 have hv2:=Hv1.out.below hb1
 obtain ⟨d0,d1,d2,d3,d4,d5,d6,d7,d8,d9,d10⟩:=wcells_get S (n:Int) 0
 have c0:w1.cell? ⟨gv,0,none⟩=some (S 0):=(hbk.cell 0).trans d0
 have c1:w1.cell? ⟨gv,1,none⟩=some (S 1):=(hbk.cell 1).trans d1
 have c2:w1.cell? ⟨gv,2,none⟩=some (S 2):=(hbk.cell 2).trans d2
 have c3:w1.cell? ⟨gv,3,none⟩=some (S 3):=(hbk.cell 3).trans d3
 have c4:w1.cell? ⟨gv,4,none⟩=some (S 4):=(hbk.cell 4).trans d4
 have c5:w1.cell? ⟨gv,5,none⟩=some (S 5):=(hbk.cell 5).trans d5
 have c6:w1.cell? ⟨gv,6,none⟩=some (S 6):=(hbk.cell 6).trans d6
 have c7:w1.cell? ⟨gv,7,none⟩=some (S 7):=(hbk.cell 7).trans d7
 have c8:w1.cell? ⟨gv,8,none⟩=some (S 8):=(hbk.cell 8).trans d8
 have c9:w1.cell? ⟨gv,9,none⟩=some (.int .i64 (n:Int)):=(hbk.cell 9).trans d9
 have Hbk:=Lib.hid hbk
 have Hv2:=Lib.hid hv2
 clear d0 d1 d2 d3 d4 d5 d6 d7 d8 d9 d10 hbk hv2 hb1 Hset Hv1 x10 f10
 go_wp2_with fail
 go_loopw [1,28] (fun x i wr=>∃lv:Nat,lv≤9∧i=.int .i64 lv∧x=.int .i64 ((atLv L k s lv:Nat):Int)∧VB B w1 wr) (fun _ i _=>9 -(intOf i).toNat)
 case atStart=>exact ⟨0,by omega,rfl,by rw [H0.out],VisK.refl _ _⟩
 case round=>
  obtain ⟨lv,hlv,rfl,rfl,hv⟩:=hrel
  by_cases hl9:lv < 9
  · have hix:=ix9 S lv hl9
    obtain ⟨G,hown,htr⟩:=Hrows.out lv hl9
    obtain ⟨m,hm⟩:∃m,2 ^ lv=m:=⟨_,rfl⟩
    obtain ⟨p,hp⟩:∃p,pathN s lv=p:=⟨_,rfl⟩
    have hpm:p < m:=by rw [←hm,←hp];exact path_lt s lv hs (by omega)
    rw [hm] at hown htr
    obtain ⟨g,cap,hSl,hnc,hgl⟩:=World.ownsRow.form hown (by omega)
    rw [hSl] at hix hown
    obtain ⟨x,hx⟩:∃x,atLv L k s lv=x:=⟨_,rfl⟩
    obtain ⟨y,hy⟩:∃y,atLv L k s (lv+1)=y:=⟨_,rfl⟩
    obtain ⟨b,hbb⟩:∃b,bitB s lv=b:=⟨_,rfl⟩
    have hxy:=atLv_step L k s lv hl9
    have hxl:=atLv_le L k s lv
    rw [hp,hx,hbb,hy] at hxy
    rw [hp,hx] at hxl
    rw [hx]
    have hpI:(p:Int) < (m:Int):=by omega
    have Hxy:=Lib.hid hxy
    have Hxl:=Lib.hid hxl
    have Hown:=Lib.hid hown
    have Htr:=Lib.hid (htr p hpm)
    have Hp:=Lib.hid hp
    have Hb:=Lib.hid hbb
    have Hy:=Lib.hid hy
    have Hv:=Lib.hid hv
    clear hown htr hSl hm hp hx hy hbb hxy hxl hv
    go_wp2_with fail
    refine wp_region_any (by kernel_rfl) ?_
    refine wpAny_loose2 [32,33,34,35,36,37,38,39,40,41,42,43,1] (VB B) (Vs [is (.pointer (some ⟨gv,0,none⟩)),is (.slice (some ⟨g,0,none⟩) m cap),is (.int .i64 (s:Int)),is (.int .i64 (lv:Int)),is (.int .i64 (p:Int)),is (.pointer (some ⟨g,p*3,none⟩)),is (.agg #[.pointer (some ⟨G p,0,none⟩),.int .i64 (lv:Int),.int .i64 (p:Int)]),is (.int .i64 (x:Int)),is (.int .i64 (s:Int)),is (.int .i64 (lv:Int)),is (.bool b),is (.int .i64 (y:Int)),is (.int .i64 (y:Int))]) _ _ rfl (by kernel_rfl) (VisK.refl _ _) (fun _ _=>VisK.trans) (stbs_all (by repeat' (first | exact stbs_is _ _ | exact stbs_any _ |(refine List.forall_mem_cons.2 ⟨?_,?_⟩)|(intro p hp;cases hp)))) ?_ ?_
    · refine steps_of ?_
      refine steps_cons (step_on rfl rfl fun ev _ _ _ _ hold _ _ _ _ hK=>?_) ?_
      · have e0:ev (.tmp 0)=.pointer (some ⟨gv,0,none⟩):=hold 0 (by kernel_rfl)
        go_simp
        exact hK _ _ ((VisK.refl _ _)) rfl
      refine steps_cons (step_on rfl rfl fun ev _ _ _ _ hold _ _ _ _ hK=>?_) ?_
      · have e8:ev (.tmp 8)=.slice (some ⟨g,0,none⟩) m cap:=hold 8 (by kernel_rfl)
        go_simp
        exact hK _ _ ((VisK.refl _ _)) rfl
      refine steps_cons (step_on rfl rfl fun ev _ _ _ _ hold _ _ _ _ hK=>?_) ?_
      · have e2:ev (.tmp 2)=.int .i64 (s:Int):=hold 2 (by kernel_rfl)
        go_simp
        exact hK _ _ ((VisK.refl _ _)) rfl
      refine steps_cons (step_on rfl rfl fun ev _ _ _ _ hold _ _ _ _ hK=>?_) ?_
      · have e7:ev (.tmp 7)=.int .i64 (lv:Int):=hold 7 (by kernel_rfl)
        go_simp
        exact hK _ _ ((VisK.refl _ _)) rfl
      refine steps_cons (step_on rfl rfl fun _ w5 _ _ _ _ hval _ _ _ hK=>?_) ?_
      · have e34:_=_:=hval 2 34 (by kernel_rfl) rfl
        have e35:_=_:=hval 3 35 (by kernel_rfl) rfl
        go_simp
        refine (SymPath_any s lv w5 hs (by omega)).mono ?_
        rintro e w8 ⟨rfl,hb8⟩
        rw [Hp.out]
        exact hK _ _ (VisK.of_below hb8) rfl
      refine steps_cons (step_on rfl rfl fun _ _ _ _ _ _ hval _ _ _ hK=>?_) ?_
      · have e33:_=_:=hval 1 33 (by kernel_rfl) rfl
        have e36:_=_:=hval 4 36 (by kernel_rfl) rfl
        go_simp
        exact hK _ _ ((VisK.refl _ _)) rfl
      refine steps_cons (step_on rfl rfl fun _ w5 hS _ _ _ hval _ _ _ hK=>?_) ?_
      · have e37:_=_:=hval 5 37 (by kernel_rfl) rfl
        replace hS:(VB B) wr w5:=⟨⟨hS.1.os,hS.1.tape,hS.1.output,hS.1.size,hS.1.block⟩,⟨hS.2.os,hS.2.tape,hS.2.output,hS.2.size,hS.2.block⟩⟩
        have hrow5:=(Hv2.out.trans (Hv.out.trans hS)).1.own Hown.out (by decide) (by decide)
        obtain ⟨q0,q1,q2⟩:=shelfL_get G lv m p hpm
        have a0:w5.cell? ⟨g,p*3,none⟩=_:=(World.ownsRow.cellAt hrow5 (p*3) (by omega)).trans q0
        have a1:w5.cell? ⟨g,p*3+1,none⟩=_:=(World.ownsRow.cellAt hrow5 (p*3+1) (by omega)).trans q1
        have a2:w5.cell? ⟨g,p*3+2,none⟩=_:=(World.ownsRow.cellAt hrow5 (p*3+2) (by omega)).trans q2
        go_simp
        exact hK _ _ ((VisK.refl _ _)) rfl
      refine steps_cons (step_on rfl rfl fun ev _ _ _ _ hold _ _ _ _ hK=>?_) ?_
      · have e1:ev (.tmp 1)=.int .i64 (x:Int):=hold 1 (by kernel_rfl)
        go_simp
        exact hK _ _ ((VisK.refl _ _)) rfl
      refine steps_cons (step_on rfl rfl fun ev _ _ _ _ hold _ _ _ _ hK=>?_) ?_
      · have e2:ev (.tmp 2)=.int .i64 (s:Int):=hold 2 (by kernel_rfl)
        go_simp
        exact hK _ _ ((VisK.refl _ _)) rfl
      refine steps_cons (step_on rfl rfl fun ev _ _ _ _ hold _ _ _ _ hK=>?_) ?_
      · have e7:ev (.tmp 7)=.int .i64 (lv:Int):=hold 7 (by kernel_rfl)
        go_simp
        exact hK _ _ ((VisK.refl _ _)) rfl
      refine steps_cons (step_on rfl rfl fun _ w5 _ _ _ _ hval _ _ _ hK=>?_) ?_
      · have e40:_=_:=hval 8 40 (by kernel_rfl) rfl
        have e41:_=_:=hval 9 41 (by kernel_rfl) rfl
        go_simp
        refine (SymBit_any s lv w5 hs hl9).mono ?_
        rintro e w8 ⟨rfl,hb8⟩
        rw [Hb.out]
        exact hK _ _ (VisK.of_below hb8) rfl
      refine steps_cons (step_on rfl rfl fun _ w5 hS _ _ _ hval _ _ _ hK=>?_) ?_
      · have e32:_=_:=hval 0 32 (by kernel_rfl) rfl
        have e38:_=_:=hval 6 38 (by kernel_rfl) rfl
        have e39:_=_:=hval 7 39 (by kernel_rfl) rfl
        have e42:_=_:=hval 10 42 (by kernel_rfl) rfl
        replace hS:(VB B) wr w5:=⟨⟨hS.1.os,hS.1.tape,hS.1.output,hS.1.size,hS.1.block⟩,⟨hS.2.os,hS.2.tape,hS.2.output,hS.2.size,hS.2.block⟩⟩
        go_simp
        obtain ⟨v5,hw5⟩:=(Hv.out.trans hS).1.waveC Hbk.out
        have ht5:=Htr.out.2.vis (Hv2.out.trans (Hv.out.trans hS)).1
        refine (WRank1_any gv (G p) S n v5 lv p (bitsOf L lv p) x b w5 hw5 ht5 Hxl.out).mono ?_
        rintro e w8 ⟨rfl,hv8⟩
        rw [Hxy.out]
        exact hK _ _ (hv8.mono fun b hb=>by rcases hb with rfl | rfl;exact hBg;exact Htr.out.1) rfl
      refine steps_cons (step_on rfl rfl fun _ _ _ _ _ _ hval _ _ _ hK=>?_) ?_
      · have e43:_=_:=hval 11 43 (by kernel_rfl) rfl
        go_simp
        exact hK _ _ ((VisK.refl _ _)) rfl
      exact steps_nil
    · intro ev w6 hS hval
      replace hS:(VB B) wr w6:=⟨⟨hS.1.os,hS.1.tape,hS.1.output,hS.1.size,hS.1.block⟩,⟨hS.2.os,hS.2.tape,hS.2.output,hS.2.size,hS.2.block⟩⟩
      have e1:ev (.tmp 1)=.int .i64 (y:Int):=hval 12 1 rfl
      simp only [putsOf,List.foldl_cons,List.foldl_nil,Act.put,List.setIfInBounds_toArray,List.set_cons_zero,List.set_cons_succ]
      rw [e1]
      clear hval
      have hv6:=Hv.out.trans hS
      go_wp2_with fail
      go_roundw
      case rel=>exact ⟨lv+1,by omega,by go_num,by rw [Hy.out],hv6⟩
      case measure=>simp [intOf];omega
  · have h9:lv=9:=by omega
    subst h9
    rw [H9.out]
    go_wp2_with fail
    go_ret
    exact ⟨rfl,Hv2.out.trans hv⟩
end Go.Proofs.YtipaccakmndkgaaGreat
namespace Go.Proofs.YtipaccakmndkgaaGreat
open Go.RowKit Go
set_option linter.unusedVariables false
section
variable {P : Program} {ops : Array Oper} {Q : Exit → Act → World → Prop} {md : Region.Mode}
theorem wpAny_tail3 (n:Nat) (ds:List Nat) (C:World→Prop) (S:Nat→World→World→Prop) (U:Nat→World→Prop) (V:Nat→Value→World→Prop) (a0:Act)
 (W0:World) (hds:(ops.toList.take n).filterMap (·.dst)=ds) (hn:n≤ops.size) (hlaid:laidB md ops a0.tmps.size=true) (htail:((List.range ops.size).all fun k=>decide (k < n)||(List.range n).all fun i=>upB md ops ops.size k i)=true) (hC0:C W0) (hU0:∀i,U i W0) (hC:∀j w w',j < n→C w→S j w w'→C w')
 (hU:∀i j w w',j < n→i≠j→upB md ops ops.size j i=false→U i w→C w→S j w w'→U i w')
 (hstab:∀i j v w w',j < n→i≠j→aftB md ops i j=false→V i v w→C w→S j w w'→V i v w')
 (hstep:∀j o,j < n→ops[j]?=some o→StepOk3 P ops Q md C S U V a0 j o)
 (hend:∀(ev:Operand→Value) w f,C w→(∀i d,i < n→((ops[i]?).bind (·.dst))=some d→V i (ev (.tmp d)) w)→(∀i,i < n→∃v,V i v w)→wpAny P md ops Q (ops.size - n+f) (firstN n ops.size) (putsOf ev ds a0) w):
 wpAny P md ops Q ops.size (Array.replicate ops.size false) a0 W0:=by
 refine wpAny_tail n C S U V a0 W0 hn hlaid htail hC0 hU0 hC hU hstab hstep fun a w f hS hsz hdf hold hval=>?_
 have h1:=hend a.eval w f hS (fun i d hi hd=>by
  cases ho:ops[i]? with
  | none=>rw [ho] at hd;cases hd
  | some o=>
    rw [ho] at hd
    obtain ⟨v,h1,h2⟩:=hval i o hi ho
    have:=h1 d hd
    change V i (a.tmps.getD d undef) w
    rw [this]
    exact h2) (fun i hi=>by
  obtain ⟨v,_,h2⟩:=hval i _ hi (Array.getElem?_eq_getElem (Nat.lt_of_lt_of_le hi hn))
  exact ⟨v,h2⟩)
 rw [←act_puts a a0 ds hsz hdf fun t ht=>hold t fun k p hk hp hd=>ht ?_] at h1
 · exact h1
 · rw [←hds]
   refine List.mem_filterMap.2 ⟨p,?_,hd⟩
   have hk2:(ops.toList.take n)[k]?=some p:=by
    rw [List.getElem?_take,if_pos hk,Array.getElem?_toList]
    exact hp
   exact List.mem_of_getElem? hk2
end
def VFB (B:Nat) (F:Nat→Prop) (w w':World):Prop:=VisF F w w'∧Keep (fun b=>F b∨B≤b) w w'
section
variable {B : Nat} {F : Nat → Prop} {w w1 w' : World}
theorem VFB.of_vb (h:VB B w w'):VFB B F w w':=⟨VisF.of_vis h.1,h.2.mono fun _ _ f=>.inr f⟩
theorem VFB.trans (h:VFB B F w w1) (k:VFB B F w1 w'):VFB B F w w':=⟨h.1.trans k.1,h.2.trans k.2⟩
theorem VFB.put (h:VFB B F w w1) {p:Addr} (hp:F p.block∨w.heap.size≤p.block) (u:Value):VFB B F w (w1.setCell p u):=⟨VisF.put h.1 hp u,h.2.setCell (hp.elim (fun f=>.inl (.inl f)) .inr) u⟩
theorem VFB.wider {G:Nat→Prop} (h:VFB B F w w') (hf:∀b,F b→G b):VFB B G w w':=⟨⟨h.1.os,h.1.tape,h.1.output,h.1.size,fun b hb hn=>h.1.block b hb (fun f=>hn (hf b f))⟩,h.2.mono fun b _ f=>f.elim (fun f=>.inl (hf b f)) .inr⟩
theorem VFB.to_vb (h:VFB B F w w') (hf:∀b,b < w.heap.size→¬F b):VB B w w':=⟨h.1.to_vis hf,h.2.mono fun b hb f=>f.elim (fun f=>absurd f (hf b hb)) id⟩
end
def VStep (B:Nat) (F:Nat→Prop) (J j:Nat) (w w':World):Prop:=(j=J→VFB B F w w')∧(j≠J→VB B w w')
theorem vstep_any {B:Nat} {F:Nat→Prop} {J j:Nat} {w w':World} (h:VStep B F J j w w'):VFB B F w w':=by
 by_cases hj:j=J
 · exact h.1 hj
 · exact VFB.of_vb (h.2 hj)
theorem vstep_vis {B:Nat} {F:Nat→Prop} {J j:Nat} {w w':World} (h:VB B w w'):VStep B F J j w w':=⟨fun _=>VFB.of_vb h,fun _=>h⟩
theorem vstep_at {B:Nat} {F:Nat→Prop} {J:Nat} {w w':World} (h:VFB B F w w'):VStep B F J J w w':=⟨fun _=>h,fun e=>absurd rfl e⟩
theorem wpAny_vis_tail {P:Program} {ops:Array Oper} {Q:Exit→Act→World→Prop} {md:Region.Mode} (B n:Nat) (ds:List Nat) (F:Nat→Prop) (J:Nat) (rd:List Nat) (pre:World→Prop) (pJ:Value→World→Prop) (l:List (Value→World→Prop)) (a0:Act) (W0:World)
 (hds:(ops.toList.take n).filterMap (·.dst)=ds) (hn:n≤ops.size) (hlaid:laidB md ops a0.tmps.size=true) (htail:((List.range ops.size).all fun k=>decide (k < n)||(List.range n).all fun i=>upB md ops ops.size k i)=true)
 (hrd:(rd.all fun i=>i==J||upB md ops ops.size J i)=true)
 (hp0:pre W0) (hp:∀w w',pre w→VFB B F W0 w→VB B w w'→pre w') (hJ:StbS (VB B) pJ) (hst:∀p∈l,StbS (VFB B F) p)
 (hstep:∀j o,j < n→ops[j]?=some o→StepOk3 P ops Q md (VFB B F W0) (VStep B F J) (fun i w=>rd.contains i=true→pre w) (VsJ J pJ l) a0 j o)
 (hend:∀(ev:Operand→Value) w f,VFB B F W0 w→(∀i d,i < n→((ops[i]?).bind (·.dst))=some d→VsJ J pJ l i (ev (.tmp d)) w)→(∀i,i < n→∃v,VsJ J pJ l i v w)→wpAny P md ops Q (ops.size - n+f) (firstN n ops.size) (putsOf ev ds a0) w):
 wpAny P md ops Q ops.size (Array.replicate ops.size false) a0 W0:=by
 refine wpAny_tail3 n ds (VFB B F W0) (VStep B F J) (fun i w=>rd.contains i=true→pre w) (VsJ J pJ l) a0 W0 hds hn hlaid htail (VFB.of_vb (VisK.refl _ _)) (fun _ _=>hp0) (fun j w w' _ h k=>h.trans (vstep_any k)) (fun i j w w' _ hij hup hi hC k hir=>?_) (fun i j v w w' _ hij _ hv _ k=>?_) hstep hend
 · by_cases hj:j=J
   · exfalso
     subst hj
     have h2:=List.all_eq_true.1 hrd i (by simpa using hir)
     simp only [hup,Bool.or_false,beq_iff_eq] at h2
     exact hij h2
   · exact hp w w' (hi hir) hC (k.2 hj)
 · unfold VsJ at hv⊢
   by_cases hi:i=J
   · rw [if_pos hi] at hv⊢
     exact hJ v w w' hv (k.2 fun e=>hij (hi.trans e.symm))
   · rw [if_neg hi] at hv⊢
     exact stbs_all hst i v w w' hv (vstep_any k)
end Go.Proofs.YtipaccakmndkgaaGreat
