/- The walks of the walk's is and Back. Conditions: at most 1000 rows. The walks of the wave's Select: its closure, look with it, Select. Conditions: there is such a symbol; symbols below 257; at most 1000; the table of math/bits stands in its variable. The walk of the wave's Delete. Conditions: a place that is there; symbols below 257; at most 128. -/
import Derived.Test.YtipaccakmndkgaaGreatDoorPsl25
import Derived.Test.YtipaccakmndkgaaGreatDoorPsl16
import Derived.Test.YtipaccakmndkgaaGreatDoorPsl11
set_option linter.unusedVariables false
set_option linter.unusedSimpArgs false
set_option maxRecDepth 100000
set_option maxHeartbeats 4000000
namespace Go.Proofs.YtipaccakmndkgaaGreatDoor
open Go.RowKit
theorem WalkIs_any (B gk:Nat) (L:List Nat) (i:Nat) (w:World) (h:WalkAt w B gk L) (hi:i < L.length):
 Calls Tryz.prog 194 #[.pointer (some ⟨gk,0,none⟩),.int .i64 (i:Int)] w fun e w'=>e=.returned (.bool true)∧w=w':=by
 obtain ⟨n,hn⟩:∃n,L.length=n:=⟨_,rfl⟩
 rw [hn] at hi
 have hiI:(i:Int) < (n:Int):=by omega
 have Hn:=lhd hn
 have H:=lhd h
 clear hn h
 go_enter Tryz.func194,Tryz.ntmps194
 go_wp2_with fail
 refine (WalkLen_any B gk L w H.out).mono ?_
 rintro e w' ⟨rfl,rfl⟩
 rw [Hn.out]
 go_wp2_with fail
 go_ret
 exact ⟨rfl,rfl⟩
theorem WalkBack_any (B gk:Nat) (L:List Nat) (i s:Nat) (w:World) (h:WalkAt w B gk L) (his:L[i]?=some s) (hL:∀x∈L,x < 257) (hl:L.length≤1000):
 Calls Tryz.prog 129 #[.pointer (some ⟨gk,0,none⟩),.int .i64 (i:Int)] w fun e w'=>e=.returned (.int .i64 ((narL L s i:Nat):Int))∧VB B w w':=by
 have hi:=(List.getElem?_eq_some_iff.1 his).1
 have hs:s < 257:=hL _ (List.mem_of_getElem? his)
 have hH:=h
 obtain ⟨gv,gt,h1,h2,h3⟩:=h
 have c0:=h1.cell 0
 have hlt:=h1.lt
 obtain ⟨j,hj⟩:∃j,narL L s i=j:=⟨_,rfl⟩
 obtain ⟨q1,hq1⟩:∃q,L.countP (fun x=>decide (x < s))=q:=⟨_,rfl⟩
 obtain ⟨q2,hq2⟩:∃q,(L.take i).count s=q:=⟨_,rfl⟩
 have hj2:q1+q2=j:=by rw [←hq1,←hq2,←hj];rfl
 have hb1:q1≤1000:=by rw [←hq1];exact Nat.le_trans List.countP_le_length hl
 have hb2:q2≤1000:=by rw [←hq2];exact Nat.le_trans List.count_le_length (by rw [List.length_take];omega)
 rw [hj]
 have H:=lhd hH
 have H1:=lhd h1
 have H2:=lhd h2
 have Hi:=lhd hi
 have His:=lhd his
 have HL:=lhd hL
 have Hl:=lhd hl
 have Hq1:=lhd hq1
 have Hq2:=lhd hq2
 have Hj:=lhd hj2
 clear hH h1 h2 h3 hi his hL hl hq1 hq2 hj hj2
 go_enter Tryz.func129,Tryz.ntmps129
 go_wp2_with fail
 refine (WalkIs_any B gk L i w H.out Hi.out).mono ?_
 rintro e w1 ⟨rfl,rfl⟩
 go_wp2_with fail
 refine (WaveGet_any B gv L i s w H2.out Hi.out (List.getElem?_eq_some_iff.1 His.out).2 HL.out Hl.out).mono ?_
 rintro e W ⟨rfl,hv⟩
 have hW:=H.out.vis hv.1
 have h1W:=hv.1.bk H1.out (by decide) (by decide)
 have h2W:=H2.out.vis hv.1
 have HW:=lhd hW
 have H1W:=lhd h1W
 have H2W:=lhd h2W
 have Hv:=lhd hv
 clear hW h1W h2W hv c0
 go_wp2_with fail
 refine wp_region_any (by kernel_rfl) ?_
 refine wpAny_loose2 [20,21,22,23,24,25,26,27,28,29,30,4] (VB B) (Vs [is (.pointer (some ⟨gk,0,none⟩)),is (.int .i64 (s:Int)),is (.int .i64 (q1:Int)),is (.pointer (some ⟨gk,0,none⟩)),is (.pointer (some ⟨gk,0,none⟩)),is (.pointer (some ⟨gk,0,none⟩)),is (.pointer (some ⟨gv,0,none⟩)),is (.int .i64 (i:Int)),is (.int .i64 (s:Int)),is (.int .i64 (q2:Int)),is (.int .i64 (j:Int)),is (.int .i64 (j:Int))]) _ _ rfl (by kernel_rfl) (VisK.refl _ _) (fun _ _=>VisK.trans) (stbs_all (by repeat' (first | exact stbs_is _ _ | exact stbs_any _ |(refine List.forall_mem_cons.2 ⟨?_,?_⟩)|(intro p hp;cases hp)))) ?_ ?_
 · refine steps_of ?_
   refine steps_cons (step_on rfl rfl fun ev _ _ _ _ hold _ _ _ _ hK=>?_) ?_
   · have e0:ev (.tmp 0)=.pointer (some ⟨gk,0,none⟩):=hold 0 (by kernel_rfl)
     go_simp
     exact hK _ _ ((VisK.refl _ _)) rfl
   refine steps_cons (step_on rfl rfl fun ev _ _ _ _ hold _ _ _ _ hK=>?_) ?_
   · have e5:ev (.tmp 5)=.int .i64 (s:Int):=hold 5 (by kernel_rfl)
     go_simp
     exact hK _ _ ((VisK.refl _ _)) rfl
   refine steps_cons (step_on rfl rfl fun _ w5 hS _ _ _ hval _ _ _ hK=>?_) ?_
   · have e20:_=_:=hval 0 20 (by kernel_rfl) rfl
     have e21:_=_:=hval 1 21 (by kernel_rfl) rfl
     replace hS:(VB B) W w5:=⟨⟨hS.1.os,hS.1.tape,hS.1.output,hS.1.size,hS.1.block⟩,⟨hS.2.os,hS.2.tape,hS.2.output,hS.2.size,hS.2.block⟩⟩
     go_simp
     refine (WalkBelow_any B gk L s w5 (HW.out.vis hS.1) hs Hl.out).mono ?_
     rintro e w8 ⟨rfl,hb8⟩
     rw [Hq1.out]
     exact hK _ _ (VisK.of_below hb8) rfl
   refine steps_cons (step_on rfl rfl fun ev _ _ _ _ hold _ _ _ _ hK=>?_) ?_
   · have e0:ev (.tmp 0)=.pointer (some ⟨gk,0,none⟩):=hold 0 (by kernel_rfl)
     go_simp
     exact hK _ _ ((VisK.refl _ _)) rfl
   refine steps_cons (step_on rfl rfl fun _ _ _ _ _ _ hval _ _ _ hK=>?_) ?_
   · have e23:_=_:=hval 3 23 (by kernel_rfl) rfl
     go_simp
     exact hK _ _ ((VisK.refl _ _)) rfl
   refine steps_cons (step_on rfl rfl fun _ _ _ _ _ _ hval _ _ _ hK=>?_) ?_
   · have e24:_=_:=hval 4 24 (by kernel_rfl) rfl
     go_simp
     exact hK _ _ ((VisK.refl _ _)) rfl
   refine steps_cons (step_on rfl rfl fun _ w5 hS _ _ _ hval _ _ _ hK=>?_) ?_
   · have e25:_=_:=hval 5 25 (by kernel_rfl) rfl
     replace hS:(VB B) W w5:=⟨⟨hS.1.os,hS.1.tape,hS.1.output,hS.1.size,hS.1.block⟩,⟨hS.2.os,hS.2.tape,hS.2.output,hS.2.size,hS.2.block⟩⟩
     have c26:w5.cell? ⟨gk,0,none⟩=some (.pointer (some ⟨gv,0,none⟩)):=((hS.1.bk H1W.out (by decide) (by decide)).cell 0).trans rfl
     go_simp
     exact hK _ _ ((VisK.refl _ _)) rfl
   refine steps_cons (step_on rfl rfl fun ev _ _ _ _ hold _ _ _ _ hK=>?_) ?_
   · have e1:ev (.tmp 1)=.int .i64 (i:Int):=hold 1 (by kernel_rfl)
     go_simp
     exact hK _ _ ((VisK.refl _ _)) rfl
   refine steps_cons (step_on rfl rfl fun ev _ _ _ _ hold _ _ _ _ hK=>?_) ?_
   · have e5:ev (.tmp 5)=.int .i64 (s:Int):=hold 5 (by kernel_rfl)
     go_simp
     exact hK _ _ ((VisK.refl _ _)) rfl
   refine steps_cons (step_on rfl rfl fun _ w5 hS _ _ _ hval _ _ _ hK=>?_) ?_
   · have e26:_=_:=hval 6 26 (by kernel_rfl) rfl
     have e27:_=_:=hval 7 27 (by kernel_rfl) rfl
     have e28:_=_:=hval 8 28 (by kernel_rfl) rfl
     replace hS:(VB B) W w5:=⟨⟨hS.1.os,hS.1.tape,hS.1.output,hS.1.size,hS.1.block⟩,⟨hS.2.os,hS.2.tape,hS.2.output,hS.2.size,hS.2.block⟩⟩
     go_simp
     refine (WaveRank_any B gv L i s w5 (H2W.out.vis hS.1) hs (Nat.le_of_lt Hi.out) HL.out Hl.out).mono ?_
     rintro e w8 ⟨rfl,hv8⟩
     rw [Hq2.out]
     exact hK _ _ hv8 rfl
   refine steps_cons (step_on rfl rfl fun _ _ _ _ _ _ hval _ _ _ hK=>?_) ?_
   · have e22:_=_:=hval 2 22 (by kernel_rfl) rfl
     have e29:_=_:=hval 9 29 (by kernel_rfl) rfl
     have hx1:IntKind.i64.wrap ((q1:Int)+(q2:Int))=(j:Int):=by rw [IntKind.wrap_i64];have:=Hj.out;omega
     go_simp
     exact hK _ _ ((VisK.refl _ _)) rfl
   refine steps_cons (step_on rfl rfl fun _ _ _ _ _ _ hval _ _ _ hK=>?_) ?_
   · have e30:_=_:=hval 10 30 (by kernel_rfl) rfl
     go_simp
     exact hK _ _ ((VisK.refl _ _)) rfl
   exact steps_nil
 · intro ev w6 hS hval
   replace hS:(VB B) W w6:=⟨⟨hS.1.os,hS.1.tape,hS.1.output,hS.1.size,hS.1.block⟩,⟨hS.2.os,hS.2.tape,hS.2.output,hS.2.size,hS.2.block⟩⟩
   have e4:ev (.tmp 4)=.int .i64 (j:Int):=hval 11 4 rfl
   simp only [putsOf,List.foldl_cons,List.foldl_nil,Act.put,List.setIfInBounds_toArray,List.set_cons_zero,List.set_cons_succ]
   rw [e4]
   clear hval
   have hv6:=Hv.out.trans hS
   go_wp2_with fail
   go_ret
   exact ⟨rfl,hv6⟩
theorem TabW.vb {B:Nat} {w w':World} (h:TabW w) (k:VB B w w') (hB:1 < B) (hw:1 < w.heap.size):TabW w':=
 fun j hj=>(k.2.cell (p:=⟨1,j,none⟩) hw (by show ¬(B≤1);omega)).trans (h j hj)
theorem WaveDelete_any (B gv:Nat) (own:Nat→Nat) (L:List Nat) (k s:Nat) (w:World) (h:WaveE w B own gv L) (hks:L[k]?=some s) (hL:∀x∈L,x < 257) (hn:L.length≤128):
 Calls Tryz.prog 146 #[.pointer (some ⟨gv,0,none⟩),.int .i64 (k:Int)] w fun e w'=>e=.returned (.tuple #[.int .i64 (s:Int),.int .i64 0])∧∃own',WaveE w' B own' gv (delN L k)∧(∀b,b < w.heap.size→own' b=own b)∧(∀b,w.heap.size≤b→own' b≠1)∧Keep (fun b=>b=gv∨16≤own b) w w':=by
 obtain ⟨hk,hkx⟩:=List.getElem?_eq_some_iff.1 hks
 have hs:s < 257:=by rw [←hkx];exact hL _ (List.getElem_mem hk)
 have h90:=atLv_zero L k s (Nat.le_of_lt hk) hL hs
 have p0:=path_zero s hs
 have p9:=path_nine s
 have hat:∀lv,(bitsOf L lv (pathN s lv))[atLv L k s lv]?=some (bitB s lv):=fun lv=>by
  have:=bits_at L k lv hk
  rw [hkx] at this
  exact this
 obtain ⟨S,v,h⟩:=h
 obtain ⟨n,hnn⟩:∃n,L.length=n:=⟨_,rfl⟩
 rw [hnn] at h hk hn
 have hins:(delN L k).length+1=n:=by rw [delN_len _ (by omega),hnn]
 obtain ⟨cc,c9,c10⟩:=h.cells
 have f10:=h.blk.frozen 10
 have hlt:=h.blk.lt
 have hB:B≤w.heap.size:=Nat.le_trans h.base.1 (Nat.le_of_lt hlt)
 obtain ⟨v1,h1⟩:=h.vis ((VisK.alloc (VB.set_wave h.blk h.base.1 0) (.cells #[.int .i64 (k:Int)] 3)).1)
 have hgv_gk:gv≠w.heap.size:=by omega
 have hgk:=Bk.new (w.setCell ⟨gv,10,none⟩ (.int .i64 0)) 3 #[.int .i64 (k:Int)]
 rw [show (w.setCell ⟨gv,10,none⟩ (.int .i64 0)).heap.size=w.heap.size by simp [World.setCell]] at hgk
 have hk1:Keep (fun b=>b=gv∨16≤own b) w ((w.setCell ⟨gv,10,none⟩ (.int .i64 0)).alloc (.cells #[.int .i64 (k:Int)] 3)):=(Keep.setCell (F:=fun b=>b=gv∨16≤own b) (Keep.refl _ _) (p:=⟨gv,10,none⟩) (.inl (.inl rfl)) _).alloc _
 obtain ⟨W,hW⟩:∃W,(w.setCell ⟨gv,10,none⟩ (.int .i64 0)).alloc (.cells #[.int .i64 (k:Int)] 3)=W:=⟨_,rfl⟩
 rw [hW] at h1 hgk hk1
 obtain ⟨cc1,c91,c101⟩:=h1.cells
 have c0:∀q,(W.drewN q).cell? ⟨gv,0,none⟩=some (S 0):=fun q=>cc1 0 (by omega)
 have c1:∀q,(W.drewN q).cell? ⟨gv,1,none⟩=some (S 1):=fun q=>cc1 1 (by omega)
 have c2:∀q,(W.drewN q).cell? ⟨gv,2,none⟩=some (S 2):=fun q=>cc1 2 (by omega)
 have c3:∀q,(W.drewN q).cell? ⟨gv,3,none⟩=some (S 3):=fun q=>cc1 3 (by omega)
 have c4:∀q,(W.drewN q).cell? ⟨gv,4,none⟩=some (S 4):=fun q=>cc1 4 (by omega)
 have c5:∀q,(W.drewN q).cell? ⟨gv,5,none⟩=some (S 5):=fun q=>cc1 5 (by omega)
 have c6:∀q,(W.drewN q).cell? ⟨gv,6,none⟩=some (S 6):=fun q=>cc1 6 (by omega)
 have c7:∀q,(W.drewN q).cell? ⟨gv,7,none⟩=some (S 7):=fun q=>cc1 7 (by omega)
 have c8:∀q,(W.drewN q).cell? ⟨gv,8,none⟩=some (S 8):=fun q=>cc1 8 (by omega)
 have cW9:W.cell? ⟨gv,9,none⟩=some (.int .i64 (n:Int)):=c91
 have cWk:W.cell? ⟨w.heap.size,0,none⟩=some (.int .i64 (k:Int)):=(hgk.cell 0).trans rfl
 have hk0:decide ((k:Int) < 0)=false:=by simp
 have hkn:¬n≤k:=by omega
 have hWgv:=h1.blk.lt
 have hWgk:=hgk.lt
 have H1:=lhd h1
 have Hgk:=lhd hgk
 have Hk1:=lhd hk1
 have H0:=lhd h90
 have HL:=lhd hL
 have HN:=lhd hnn
 have Hins:=lhd hins
 have HW:=lhd hW
 have Hkl:=lhd hk
 have Hbase:=lhd h.base
 have hbnd0:=lhd h.bnd
 have P0:=lhd p0
 have P9:=lhd p9
 have Hat:=lhd hat
 have Hks:=lhd hks
 have cW9q:∀q,(W.drewN q).cell? ⟨gv,9,none⟩=some (.int .i64 (n:Int)):=fun q=>cW9
 have cWkq:∀q,(W.drewN q).cell? ⟨w.heap.size,0,none⟩=some (.int .i64 (k:Int)):=fun q=>cWk
 clear h h1 hgk hk1 h90 hL hnn hins hW cc cc1 c91 c101 hk p0 p9 hat hks hkx
 go_enter Tryz.func146,Tryz.ntmps146
 go_wp2_with fail
 rw [HW.out]
 clear c10 f10 c9
 go_quiet (fail)
 clear cW9 cWk hk0
 go_wp2_with fail
 go_loopw [6,31] (fun z i wr=>∃(lv:Nat) (ow:Nat→Nat) (v3:Int),lv≤9∧i=.int .i64 lv∧z=.int .i64 ((pathN s lv:Nat):Int)∧WaveS wr B ow gv S (fun l=>if l < lv then delN L k else L) (n:Int) v3∧Bk wr w.heap.size 3 #[.int .i64 ((atLv L k s lv:Nat):Int)]∧(∀b,b < w.heap.size→ow b=own b)∧(∀b,w.heap.size≤b→ow b≠1)∧ow w.heap.size=0∧Keep (fun b=>b=gv∨16≤own b) w wr) (fun _ i _=>9 -(intOf i).toNat)
 case atStart=>
  refine ⟨0,own,v1,by omega,rfl,by rw [P0.out];rfl,?_,?_,fun _ _=>rfl,fun b hb e=>?_,?_,?_⟩
  · obtain ⟨v9,h9⟩:=H1.out.vis (Vis.of_below (below_drewN (Below.refl _ _) _))
    have:v9=v1:=by
        have a1:=h9.cells.2.2
        have a2:=H1.out.cells.2.2
        have a3:=a2.symm.trans a1
        injection a3 with a3
        injection a3 with _ a3
        exact a3.symm
    subst this
    simpa using h9
  · rw [H0.out]
    exact Hgk.out.drewN _
  · have:=(hbnd0.out b (by omega)).2
    omega
  · rcases Nat.eq_zero_or_pos (own w.heap.size) with e | e
    · exact e
    · have:=(hbnd0.out w.heap.size (by omega)).2
      omega
  · exact Hk1.out.drewN _
 case round=>
  obtain ⟨lv,ow,v3,hlv,rfl,rfl,hws,hbk,hown1,hown2,hown3,hkp⟩:=hrel
  by_cases hl9:lv < 9
  · have hix:=ix9 S lv hl9
    obtain ⟨G,hown,hoz,htr⟩:=hws.rows lv hl9
    obtain ⟨m,hm⟩:∃m,2 ^ lv=m:=⟨_,rfl⟩
    obtain ⟨p,hp⟩:∃p,pathN s lv=p:=⟨_,rfl⟩
    have hpm:p < m:=by rw [←hm,←hp];exact path_lt s lv hs (by omega)
    have hpp:p < 2 ^ lv:=by rw [hm];exact hpm
    have hG0:=lhd hown
    rw [hm] at hown htr
    obtain ⟨g,cap,hSl,hnc,hgl⟩:=World.ownsRow.form hown (by omega)
    rw [hSl] at hix hown
    obtain ⟨x,hx⟩:∃x,atLv L k s lv=x:=⟨_,rfl⟩
    obtain ⟨y,hy⟩:∃y,atLv L k s (lv+1)=y:=⟨_,rfl⟩
    obtain ⟨b,hbb⟩:∃b,bitB s lv=b:=⟨_,rfl⟩
    have hxy:=atLv_step L k s lv hl9
    have hxa:=Hat.out lv
    have hbi:=bitsOf_del lv Hks.out
    have hbn:=fun q=>bitsOf_del_ne lv q Hks.out
    have hps:=path_step s lv hl9
    rw [hp,hx,hbb,hy] at hxy
    rw [hp,hx,hbb] at hxa
    rw [hp,hx] at hbi
    rw [hp] at hbn
    rw [hp,hbb] at hps
    have hxl:x < (bitsOf L lv p).length:=(List.getElem?_eq_some_iff.1 hxa).1
    have hxd:(bitsOf L lv p).getD x false=b:=by rw [List.getD_eq_getElem?_getD,hxa];rfl
    rw [hx] at hbk
    rw [hp]
    obtain ⟨r,hr⟩:∃r,pathN s (lv+1)=r:=⟨_,rfl⟩
    rw [hr] at hps
    have hp1000:p≤1000:=by
        have:=pow9 hl9 hpp
        omega
    have htp:TreeE wr (fun b=>ow b=TC lv p) (G p) (bitsOf L lv p):=by
        have:=htr p hpm
        rw [if_neg (by omega)] at this
        exact this
    have hpI:(p:Int) < (m:Int):=by omega
    have Hown:=lhd hown
    have Htp:=lhd htp
    have Hxy:=lhd hxy
    have Hxl:=lhd hxl
    have Hbi:=lhd hbi
    have Hbn:=lhd hbn
    have Hxd:=lhd hxd
    have Hps:=lhd hps
    have Hr:=lhd hr
    have Hp:=lhd hp
    have Hbb:=lhd hbb
    have Hy:=lhd hy
    have Hws:=lhd hws
    have Hbk:=lhd hbk
    have Hown1:=lhd hown1
    have Hown2:=lhd hown2
    have Hown3:=lhd hown3
    have Hkp:=lhd hkp
    clear htr hSl hm hp hx hy hbb hxy hxl hxa hbi hbn hxd hps hr hws hbk hown1 hown2 hown3 hkp htp hoz
    obtain ⟨q0,q1,q2⟩:=shelfL_get G lv m p hpm
    have a0:wr.cell? ⟨g,p*3,none⟩=_:=(World.ownsRow.cellAt hown (p*3) (by omega)).trans q0
    have a1:wr.cell? ⟨g,p*3+1,none⟩=_:=(World.ownsRow.cellAt hown (p*3+1) (by omega)).trans q1
    have a2:wr.cell? ⟨g,p*3+2,none⟩=_:=(World.ownsRow.cellAt hown (p*3+2) (by omega)).trans q2
    have kk:wr.cell? ⟨w.heap.size,0,none⟩=some (.int .i64 (x:Int)):=(Hbk.out.cell 0).trans rfl
    have hgkr:=Hbk.out.lt
    clear q0 q1 q2 hown
    go_wp2_with fail
    obtain ⟨W7,hW7⟩:∃W7,(wr.alloc (.cells #[.pointer (some ⟨G p,0,none⟩),.int .i64 (lv:Int),.int .i64 (p:Int)] 177)).alloc (.cells #[.bool false] 4)=W7:=⟨_,rfl⟩
    have hbel7:Below wr.heap.size wr W7:=by rw [←hW7];exact ((Below.refl _ _).alloc (Nat.le_refl _) _).alloc (by simp) _
    have hb97:Bk W7 wr.heap.size 177 #[.pointer (some ⟨G p,0,none⟩),.int .i64 (lv:Int),.int .i64 (p:Int)]:=by rw [←hW7];exact (Bk.new wr _ _).alloc _
    have hb107:Bk W7 (wr.heap.size+1) 4 #[.bool false]:=by
        rw [←hW7]
        have h:=Bk.new (wr.alloc (.cells #[.pointer (some ⟨G p,0,none⟩),.int .i64 (lv:Int),.int .i64 (p:Int)] 177)) 4 #[.bool false]
        rw [World.size_alloc] at h
        exact h
    rw [hW7]
    have Hb97:=lhd hb97
    have Hb107:=lhd hb107
    have Hbel7:=lhd hbel7
    clear hb97 hb107 hbel7 hW7 a0 a1 a2 kk
    obtain ⟨v7,h7⟩:=Hws.out.vis (Vis.of_below Hbel7.out)
    have hgk7:=Hbk.out.below Hbel7.out Hbk.out.lt
    have ht7:=Htp.out.below Hbel7.out
    have hgv0:=Hws.out.base.2
    have hbndr:=Hws.out.bnd
    have hsz7:=Hbel7.out.size
    have hgvr:=Hws.out.blk.lt
    have H7:=lhd h7
    have Hgk7:=lhd hgk7
    have Ht7:=lhd ht7
    have Hgv0:=lhd hgv0
    have Hbndr:=lhd hbndr
    clear h7 hgk7 ht7 hgv0 hbndr
    refine (WRank1_any gv (G p) S n v7 lv p (bitsOf L lv p) x true W7 H7.out.blk Ht7.out.at (Nat.le_of_lt Hxl.out)).mono ?_
    rintro e W8 ⟨rfl,hv8⟩
    obtain ⟨o1,ho1⟩:∃o1,((bitsOf L lv p).take x).count true=o1:=⟨_,rfl⟩
    have ho1y:(if b then o1 else x - o1)=y:=by
        have h1:=count_both ((bitsOf L lv p).take x)
        have h2:((bitsOf L lv p).take x).length=x:=by rw [List.length_take];have:=Hxl.out;omega
        have h3:=Hxy.out
        cases b
        · simp;omega
        · simp;omega
    have ho1x:o1≤x:=by
        rw [←ho1]
        exact Nat.le_trans List.count_le_length (by rw [List.length_take];omega)
    rw [ho1]
    obtain ⟨v8,h8⟩:=H7.out.vis hv8.1
    have ht8:=Ht7.out.vis hv8.1
    have hgk8:=hv8.1.bk Hgk7.out (by decide) (by decide)
    have hb98:=hv8.1.bk Hb97.out (by decide) (by decide)
    have hb108:=hv8.1.bk Hb107.out (by decide) (by decide)
    have hsz8:=hv8.1.size
    have x0:W8.cell? ⟨wr.heap.size,0,none⟩=some (.pointer (some ⟨G p,0,none⟩)):=(hb98.cell 0).trans rfl
    have x1:W8.cell? ⟨wr.heap.size,1,none⟩=some (.int .i64 (lv:Int)):=(hb98.cell 1).trans rfl
    have x2:W8.cell? ⟨wr.heap.size,2,none⟩=some (.int .i64 (p:Int)):=(hb98.cell 2).trans rfl
    have hg98:=hb98.lt
    have hg108:=hb108.lt
    have hgk8l:=hgk8.lt
    have hmf:∀(fn:Fn) (first cap:Array Value) (w:World),(Instr.makeFunc fn first cap).run Tryz.prog w=.ok (.func fn first cap) w:=fun _ _ _ _=>rfl
    have Ho1y:=lhd ho1y
    have H8:=lhd h8
    have Ht8:=lhd ht8
    have Hgk8:=lhd hgk8
    have Hb98:=lhd hb98
    have Hb108:=lhd hb108
    have Hv8:=lhd hv8
    clear ho1 ho1y h8 ht8 hgk8 hb98 hb108 hv8
    go_wp2_with fail
    have nF0:∀y,wr.heap.size≤y→¬(ow y=TC lv p):=fun y hy f=>by
        have:=(Hbndr.out y (by rw [f];unfold TC;omega)).2
        omega
    refine (LookD_any gv (G p) w.heap.size (wr.heap.size+1) S n v8 lv p _ (fun b=>ow b=TC lv p) (bitsOf L lv p) x W8 H8.out.blk Ht8.out (fun f=>by rw [Hgv0.out] at f;unfold TC at f;omega) (nF0 _ (by omega)) (fun y hy=>(H8.out.bnd y (by rw [hy];unfold TC;omega)).2) Hgk8.out Hb108.out (fun y hy e=>nF0 y (by omega) hy) Hxl.out).mono ?_
    rintro e W9 ⟨rfl,ht9,hk9,hbx9,v9,hbk9⟩
    rw [Hxd.out] at hbx9
    have hed:=H8.out.edit (lv:=lv) (p:=p) (gx:=wr.heap.size+1) hl9 hpp (own_same (own_below hG0.out Hbel7.out) fun b cs _ hc=>Hv8.out.1.bk hc (by decide) (by decide)) (by
        rcases Nat.eq_zero_or_pos (ow (wr.heap.size+1)) with e | e
        · omega
        · have:=(Hbndr.out _ (by omega:ow (wr.heap.size+1)≠0)).2
          omega) (fun cs hc=>absurd (bk_inj hc Hb108.out).1 (by decide)) ht9 hk9 hbk9 (L':=delN L k) Hbi.out (fun q hq=>by rw [if_neg (Nat.lt_irrefl _)];exact Hbn.out q (fun e=>hq e.symm))
    have hfun:(fun l=>if l=lv then delN L k else if l < lv then delN L k else L)=fun l=>if l < lv+1 then delN L k else L:=by
        funext l
        by_cases c1:l=lv
        · rw [if_pos c1,if_pos (by omega)]
        · by_cases c2:l < lv
          · rw [if_neg c1,if_pos c2,if_pos (by omega)]
          · rw [if_neg c1,if_neg c2,if_neg (by omega)]
    rw [hfun] at hed
    have hgk9:=hk9.bk Hgk8.out (fun f=>by
        rcases f with f | f | f
        · have f':ow w.heap.size=TC lv p:=f
          rw [Hown3.out] at f'
          unfold TC at f'
          omega
        · exact hgv_gk f.symm
        · omega)
    have hb99:=hk9.bk Hb98.out (fun f=>by
        rcases f with f | f | f
        · exact nF0 _ (Nat.le_refl _) f
        · omega
        · omega)
    have y0:W9.cell? ⟨wr.heap.size,0,none⟩=some (.pointer (some ⟨G p,0,none⟩)):=(hb99.cell 0).trans rfl
    have y1:W9.cell? ⟨wr.heap.size,1,none⟩=some (.int .i64 (lv:Int)):=(hb99.cell 1).trans rfl
    have y2:W9.cell? ⟨wr.heap.size,2,none⟩=some (.int .i64 (p:Int)):=(hb99.cell 2).trans rfl
    have yb:W9.cell? ⟨wr.heap.size+1,0,none⟩=some (.bool b):=(hbx9.cell 0).trans rfl
    have hg99:=hb99.lt
    have hg109:=hbx9.lt
    have hGc:ow (G p)=TC lv p:=Htp.out.1
    have Hed:=lhd hed
    have Hk9:=lhd hk9
    have Hgk9:=lhd hgk9
    have Hbx9:=lhd hbx9
    have HGc:=lhd hGc
    have HnF0:=lhd nF0
    clear ht9 hk9 hbk9 hed hfun hgk9 hb99 hbx9 x0 x1 x2 hmf hGc nF0
    go_wp2_with fail
    refine (Next_any (G p) lv p b W9 hp1000).mono ?_
    rintro e W10 ⟨rfl,hb10⟩
    rw [←Hps.out]
    obtain ⟨v10,h10⟩:=Hed.out.vis (Vis.of_below hb10)
    have hgk10:=Hgk9.out.below hb10 Hgk9.out.lt
    have hbx10:=Hbx9.out.below hb10 Hbx9.out.lt
    have zb:W10.cell? ⟨wr.heap.size+1,0,none⟩=some (.bool b):=(hbx10.cell 0).trans rfl
    have zk:W10.cell? ⟨w.heap.size,0,none⟩=some (.int .i64 (x:Int)):=(hgk10.cell 0).trans rfl
    have fk:=hgk10.frozen 0
    have hgk10l:=hgk10.lt
    have hbx10l:=hbx10.lt
    have hgk11:=hgk10.set 0 (.int .i64 (y:Int))
    have hrc0:recol ow W8.heap.size W9.heap.size (TC lv p) w.heap.size=0:=by
        unfold recol
        rw [if_pos (by omega)]
        exact Hown3.out
    have h11:=h10.far (w':=W10.setCell ⟨w.heap.size,0,none⟩ (.int .i64 (y:Int))) (H:=fun b=>b=w.heap.size) (Keep.setCell (F:=fun b=>b=w.heap.size) (Keep.refl _ _) (p:=⟨w.heap.size,0,none⟩) (.inl rfl) _) (fun b e=>by rw [show b=w.heap.size from e,hrc0];omega)
    have hsw:=Hkp.out.size
    have hkF:Keep (fun b=>b=gv∨16≤own b) w (W10.setCell ⟨w.heap.size,0,none⟩ (.int .i64 (y:Int))):=Keep.setCell (F:=fun b=>b=gv∨16≤own b) ((((Hkp.out.trans (Keep.of_below Hbel7.out)).trans' Hv8.out.2 (fun b hb f=>by
        rcases f with f | f
        · exact .inl f
        · right
          rw [←Hown1.out b hb,f,HGc.out]
          unfold TC
          omega)).trans' Hk9.out (fun b hb f=>by
        rcases f with f | f | f
        · right
          have f':ow b=TC lv p:=f
          rw [←Hown1.out b hb,f']
          unfold TC
          omega
        · exact .inl f
        · omega)).trans (Keep.of_below hb10)) (p:=⟨w.heap.size,0,none⟩) (.inr (Nat.le_refl _)) _
    have H11:=lhd h11
    have Hgk11:=lhd hgk11
    have HkF:=lhd hkF
    have Hrc0:=lhd hrc0
    clear hb10 h10 hgk10 hbx10 hgk11 h11 hkF hrc0 y0 y1 y2 yb
    have hrel:∃(lv':Nat) (ow:Nat→Nat) (v3:Int),lv'≤9∧Value.int .i64 ((lv+1:Nat):Int)=.int .i64 lv'∧Value.int .i64 (r:Int)=.int .i64 ((pathN s lv':Nat):Int)∧WaveS (W10.setCell ⟨w.heap.size,0,none⟩ (.int .i64 (y:Int))) B ow gv S (fun l=>if l < lv' then delN L k else L) (n:Int) v3∧Bk (W10.setCell ⟨w.heap.size,0,none⟩ (.int .i64 (y:Int))) w.heap.size 3 #[.int .i64 ((atLv L k s lv':Nat):Int)]∧(∀b,b < w.heap.size→ow b=own b)∧(∀b,w.heap.size≤b→ow b≠1)∧ow w.heap.size=0∧Keep (fun b=>b=gv∨16≤own b) w (W10.setCell ⟨w.heap.size,0,none⟩ (.int .i64 (y:Int))):=by
        refine ⟨lv+1,recol ow W8.heap.size W9.heap.size (TC lv p),v10,by omega,rfl,by rw [Hr.out],H11.out,?_,fun b hb=>?_,fun b hb=>?_,Hrc0.out,HkF.out⟩
        · rw [Hy.out]
          exact Hgk11.out
        · unfold recol
          rw [if_pos (by omega)]
          exact Hown1.out b hb
        · unfold recol
          by_cases c1:b < W8.heap.size
          · rw [if_pos c1]
            exact Hown2.out b hb
          · rw [if_neg c1]
            unfold TC
            split <;> omega
    have Hrel:=lhd hrel
    clear hrel
    cases b with
    | true=>
      obtain rfl:o1=y:=by have:=Ho1y.out;simpa using this
      go_wp2_with fail
      go_roundw
      case rel=>exact Hrel.out
      case measure=>simp [intOf];omega
    | false=>
      have hoy:x - o1=y:=by have:=Ho1y.out;simpa using this
      have e9:IntKind.i64.wrap ((x:Int) -(o1:Int))=(y:Int):=by
       have h2:=Hxl.out
       have h3:(bitsOf L lv p).length≤L.length:=by rw [bits_len];exact List.countP_le_length
       have h4:=HN.out
       rw [IntKind.wrap_i64]
       omega
      go_wp2_with fail
      go_roundw
      case rel=>exact Hrel.out
      case measure=>simp [intOf];omega
  · obtain rfl:lv=9:=by omega
    have hS9:WaveS wr B ow gv S (fun _=>delN L k) (n:Int) v3:=⟨hws.blk,hws.base,fun l hl=>by have:=hws.rows l hl;simpa [hl] using this,hws.bnd⟩
    obtain ⟨_,x9,_⟩:=hS9.cells
    have f9:=hS9.blk.frozen 9
    have hgvr:=hS9.blk.lt
    have hS10:=hS9.set_n ((n:Int) - 1)
    have e1:IntKind.i64.wrap ((n:Int) - 1)=(n:Int) - 1:=by rw [IntKind.wrap_i64];omega
    have hkf:Keep (fun b=>b=gv∨16≤own b) w (wr.setCell ⟨gv,9,none⟩ (.int .i64 ((n:Int) - 1))):=Keep.setCell (F:=fun b=>b=gv∨16≤own b) hkp (p:=⟨gv,9,none⟩) (.inl (.inl rfl)) _
    rw [P9.out]
    have HS10:=lhd hS10
    have Hkf:=lhd hkf
    have Hown1:=lhd hown1
    have Hown2:=lhd hown2
    clear hws hS9 hS10 hkp hkf hbk hown1 hown2 hown3
    go_wp2_with fail
    go_ret2
    refine ⟨rfl,ow,⟨S,v3,?_⟩,Hown1.out,Hown2.out,Hkf.out⟩
    rw [show (((delN L k).length:Nat):Int)=(n:Int) - 1 by have:=Hins.out;omega]
    exact HS10.out
end Go.Proofs.YtipaccakmndkgaaGreatDoor
