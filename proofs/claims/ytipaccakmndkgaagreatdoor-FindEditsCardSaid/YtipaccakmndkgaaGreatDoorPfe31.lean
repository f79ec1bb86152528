/- The walk of the wave's Delete. Conditions: a place that is there; symbols below 257; at most 128. The walk of the wave's Select. Conditions: there is such a symbol; symbols below 257; at most 1000; the table of math/bits stands in its variable. -/
import Derived.Test.YtipaccakmndkgaaGreatDoorPfe29
import Derived.Test.YtipaccakmndkgaaGreatDoorPfe30
namespace Go.Proofs.YtipaccakmndkgaaGreatDoor
open Go.RowKit
set_option linter.unusedVariables false
set_option linter.unusedSimpArgs false
set_option maxRecDepth 100000 in
set_option maxHeartbeats 4000000 in
theorem WaveDelete_any (B gv:Nat) (own:Nat→Nat) (L:List Nat) (k s:Nat) (w:World) (h:WaveE w B own gv L) (hks:L[k]?=some s) (hL:∀x∈L,x < 257) (hn:L.length≤128):
 Calls Tryz.prog 146 #[.pointer (some ⟨gv,0,none⟩),.int .i64 (k:Int)] w fun e w'=>e=.returned (.tuple #[.int .i64 (s:Int),.int .i64 0])∧∃own',WaveE w' B own' gv (delN L k)∧(∀b,b < w.heap.size→own' b=own b)∧(∀b,w.heap.size≤b→own' b≠1)∧Keep (fun b=>b=gv∨16≤own b) w w':=by
 obtain ⟨hk,hkx⟩:=List.getElem?_eq_some_iff.1 hks
 have hs:s < 257:=by rw [←hkx];exact hL _ (List.getElem_mem hk)
 have h90:=atLv_zero L k s (Nat.le_of_lt hk) hL hs
 have p0:=path_zero s hs
 have p9:=path_nine s
 have hat:∀lv,(bitsOf L lv (pathN s lv))[atLv L k s lv]?=some (bitB s lv):=fun lv=>by
  have:=bits_at L k lv hk
  rw [hkx] at this
  exact this
 obtain ⟨S,v,h⟩:=h
 obtain ⟨n,hnn⟩:∃n,L.length=n:=⟨_,rfl⟩
 rw [hnn] at h hk hn
 have hins:(delN L k).length+1=n:=by rw [delN_len _ (by omega),hnn]
 obtain ⟨cc,c9,c10⟩:=h.cells
 have f10:=h.blk.frozen 10
 have hlt:=h.blk.lt
 have hB:B≤w.heap.size:=Nat.le_trans h.base.1 (Nat.le_of_lt hlt)
 obtain ⟨v1,h1⟩:=h.vis ((VisK.alloc (VB.set_wave h.blk h.base.1 0) (.cells #[.int .i64 (k:Int)] 3)).1)
 have hgv_gk:gv≠w.heap.size:=by omega
 have hgk:=Bk.new (w.setCell ⟨gv,10,none⟩ (.int .i64 0)) 3 #[.int .i64 (k:Int)]
 rw [show (w.setCell ⟨gv,10,none⟩ (.int .i64 0)).heap.size=w.heap.size by simp [World.setCell]] at hgk
 have hk1:Keep (fun b=>b=gv∨16≤own b) w ((w.setCell ⟨gv,10,none⟩ (.int .i64 0)).alloc (.cells #[.int .i64 (k:Int)] 3)):=(Keep.setCell (F:=fun b=>b=gv∨16≤own b) (Keep.refl _ _) (p:=⟨gv,10,none⟩) (.inl (.inl rfl)) _).alloc _
 obtain ⟨W,hW⟩:∃W,(w.setCell ⟨gv,10,none⟩ (.int .i64 0)).alloc (.cells #[.int .i64 (k:Int)] 3)=W:=⟨_,rfl⟩
 rw [hW] at h1 hgk hk1
 obtain ⟨cc1,c91,c101⟩:=h1.cells
 have c0:∀q,(W.drewN q).cell? ⟨gv,0,none⟩=some (S 0):=fun q=>cc1 0 (by omega)
 have c1:∀q,(W.drewN q).cell? ⟨gv,1,none⟩=some (S 1):=fun q=>cc1 1 (by omega)
 have c2:∀q,(W.drewN q).cell? ⟨gv,2,none⟩=some (S 2):=fun q=>cc1 2 (by omega)
 have c3:∀q,(W.drewN q).cell? ⟨gv,3,none⟩=some (S 3):=fun q=>cc1 3 (by omega)
 have c4:∀q,(W.drewN q).cell? ⟨gv,4,none⟩=some (S 4):=fun q=>cc1 4 (by omega)
 have c5:∀q,(W.drewN q).cell? ⟨gv,5,none⟩=some (S 5):=fun q=>cc1 5 (by omega)
 have c6:∀q,(W.drewN q).cell? ⟨gv,6,none⟩=some (S 6):=fun q=>cc1 6 (by omega)
 have c7:∀q,(W.drewN q).cell? ⟨gv,7,none⟩=some (S 7):=fun q=>cc1 7 (by omega)
 have c8:∀q,(W.drewN q).cell? ⟨gv,8,none⟩=some (S 8):=fun q=>cc1 8 (by omega)
 have cW9:W.cell? ⟨gv,9,none⟩=some (.int .i64 (n:Int)):=c91
 have cWk:W.cell? ⟨w.heap.size,0,none⟩=some (.int .i64 (k:Int)):=(hgk.cell 0).trans rfl
 have hk0:decide ((k:Int) < 0)=false:=by simp
 have hkn:¬n≤k:=by omega
 have hWgv:=h1.blk.lt
 have hWgk:=hgk.lt
 have H1:=Lib.hid h1
 have Hgk:=Lib.hid hgk
 have Hk1:=Lib.hid hk1
 have H0:=Lib.hid h90
 have HL:=Lib.hid hL
 have HN:=Lib.hid hnn
 have Hins:=Lib.hid hins
 have HW:=Lib.hid hW
 have Hkl:=Lib.hid hk
 have Hbase:=Lib.hid h.base
 have hbnd0:=Lib.hid h.bnd
 have P0:=Lib.hid p0
 have P9:=Lib.hid p9
 have Hat:=Lib.hid hat
 have Hks:=Lib.hid hks
 have cW9q:∀q,(W.drewN q).cell? ⟨gv,9,none⟩=some (.int .i64 (n:Int)):=fun q=>cW9
 have cWkq:∀q,(W.drewN q).cell? ⟨w.heap.size,0,none⟩=some (.int .i64 (k:Int)):=fun q=>cWk
 clear h h1 hgk hk1 h90 hL hnn hins hW cc cc1 c91 c101 hk p0 p9 hat hks hkx
 go_enter Tryz.func146,Tryz.ntmps146
 go_wp2_with fail
 rw [HW.out]
 clear c10 f10 c9
 go_quiet (fail)
 clear cW9 cWk hk0
 go_wp2_with fail
 go_loopw [6,31] (fun z i wr=>∃(lv:Nat) (ow:Nat→Nat) (v3:Int),lv≤9∧i=.int .i64 lv∧z=.int .i64 ((pathN s lv:Nat):Int)∧WaveS wr B ow gv S (fun l=>if l < lv then delN L k else L) (n:Int) v3∧Bk wr w.heap.size 3 #[.int .i64 ((atLv L k s lv:Nat):Int)]∧(∀b,b < w.heap.size→ow b=own b)∧(∀b,w.heap.size≤b→ow b≠1)∧ow w.heap.size=0∧Keep (fun b=>b=gv∨16≤own b) w wr) (fun _ i _=>9 -(intOf i).toNat)
 case atStart=>
  refine ⟨0,own,v1,by omega,rfl,by rw [P0.out];rfl,?_,?_,fun _ _=>rfl,fun b hb e=>?_,?_,?_⟩
  · obtain ⟨v9,h9⟩:=H1.out.vis (Vis.of_below (below_drewN (Below.refl _ _) _))
    have:v9=v1:=by
        have a1:=h9.cells.2.2
        have a2:=H1.out.cells.2.2
        have a3:=a2.symm.trans a1
        injection a3 with a3
        injection a3 with _ a3
        exact a3.symm
    subst this
    simpa using h9
  · rw [H0.out]
    exact Hgk.out.drewN _
  · have:=(hbnd0.out b (by omega)).2
    omega
  · rcases Nat.eq_zero_or_pos (own w.heap.size) with e | e
    · exact e
    · have:=(hbnd0.out w.heap.size (by omega)).2
      omega
  · exact Hk1.out.drewN _
 case round=>
  obtain ⟨lv,ow,v3,hlv,rfl,rfl,hws,hbk,hown1,hown2,hown3,hkp⟩:=hrel
  by_cases hl9:lv < 9
  · have hix:=ix9 S lv hl9
    obtain ⟨G,hown,hoz,htr⟩:=hws.rows lv hl9
    obtain ⟨m,hm⟩:∃m,2 ^ lv=m:=⟨_,rfl⟩
    obtain ⟨p,hp⟩:∃p,pathN s lv=p:=⟨_,rfl⟩
    have hpm:p < m:=by rw [←hm,←hp];exact path_lt s lv hs (by omega)
    have hpp:p < 2 ^ lv:=by rw [hm];exact hpm
    have hG0:=Lib.hid hown
    rw [hm] at hown htr
    obtain ⟨g,cap,hSl,hnc,hgl⟩:=World.ownsRow.form hown (by omega)
    rw [hSl] at hix hown
    obtain ⟨x,hx⟩:∃x,atLv L k s lv=x:=⟨_,rfl⟩
    obtain ⟨y,hy⟩:∃y,atLv L k s (lv+1)=y:=⟨_,rfl⟩
    obtain ⟨b,hbb⟩:∃b,bitB s lv=b:=⟨_,rfl⟩
    have hxy:=atLv_step L k s lv hl9
    have hxa:=Hat.out lv
    have hbi:=bitsOf_del lv Hks.out
    have hbn:=fun q=>bitsOf_del_ne lv q Hks.out
    have hps:=path_step s lv hl9
    rw [hp,hx,hbb,hy] at hxy
    rw [hp,hx,hbb] at hxa
    rw [hp,hx] at hbi
    rw [hp] at hbn
    rw [hp,hbb] at hps
    have hxl:x < (bitsOf L lv p).length:=(List.getElem?_eq_some_iff.1 hxa).1
    have hxd:(bitsOf L lv p).getD x false=b:=by rw [List.getD_eq_getElem?_getD,hxa];rfl
    rw [hx] at hbk
    rw [hp]
    obtain ⟨r,hr⟩:∃r,pathN s (lv+1)=r:=⟨_,rfl⟩
    rw [hr] at hps
    have hp1000:p≤1000:=by
        have:=pow9 hl9 hpp
        omega
    have htp:TreeE wr (fun b=>ow b=TC lv p) (G p) (bitsOf L lv p):=by
        have:=htr p hpm
        rw [if_neg (by omega)] at this
        exact this
    have hpI:(p:Int) < (m:Int):=by omega
    have Hown:=Lib.hid hown
    have Htp:=Lib.hid htp
    have Hxy:=Lib.hid hxy
    have Hxl:=Lib.hid hxl
    have Hbi:=Lib.hid hbi
    have Hbn:=Lib.hid hbn
    have Hxd:=Lib.hid hxd
    have Hps:=Lib.hid hps
    have Hr:=Lib.hid hr
    have Hp:=Lib.hid hp
    have Hbb:=Lib.hid hbb
    have Hy:=Lib.hid hy
    have Hws:=Lib.hid hws
    have Hbk:=Lib.hid hbk
    have Hown1:=Lib.hid hown1
    have Hown2:=Lib.hid hown2
    have Hown3:=Lib.hid hown3
    have Hkp:=Lib.hid hkp
    clear htr hSl hm hp hx hy hbb hxy hxl hxa hbi hbn hxd hps hr hws hbk hown1 hown2 hown3 hkp htp hoz
    obtain ⟨q0,q1,q2⟩:=shelfL_get G lv m p hpm
    have a0:wr.cell? ⟨g,p*3,none⟩=_:=(World.ownsRow.cellAt hown (p*3) (by omega)).trans q0
    have a1:wr.cell? ⟨g,p*3+1,none⟩=_:=(World.ownsRow.cellAt hown (p*3+1) (by omega)).trans q1
    have a2:wr.cell? ⟨g,p*3+2,none⟩=_:=(World.ownsRow.cellAt hown (p*3+2) (by omega)).trans q2
    have kk:wr.cell? ⟨w.heap.size,0,none⟩=some (.int .i64 (x:Int)):=(Hbk.out.cell 0).trans rfl
    have hgkr:=Hbk.out.lt
    clear q0 q1 q2 hown
    go_wp2_with fail
    obtain ⟨W7,hW7⟩:∃W7,(wr.alloc (.cells #[.pointer (some ⟨G p,0,none⟩),.int .i64 (lv:Int),.int .i64 (p:Int)] 177)).alloc (.cells #[.bool false] 4)=W7:=⟨_,rfl⟩
    have hbel7:Below wr.heap.size wr W7:=by rw [←hW7];exact ((Below.refl _ _).alloc (Nat.le_refl _) _).alloc (by simp) _
    have hb97:Bk W7 wr.heap.size 177 #[.pointer (some ⟨G p,0,none⟩),.int .i64 (lv:Int),.int .i64 (p:Int)]:=by rw [←hW7];exact (Bk.new wr _ _).alloc _
    have hb107:Bk W7 (wr.heap.size+1) 4 #[.bool false]:=by
        rw [←hW7]
        have h:=Bk.new (wr.alloc (.cells #[.pointer (some ⟨G p,0,none⟩),.int .i64 (lv:Int),.int .i64 (p:Int)] 177)) 4 #[.bool false]
        rw [World.size_alloc] at h
        exact h
    rw [hW7]
    have Hb97:=Lib.hid hb97
    have Hb107:=Lib.hid hb107
    have Hbel7:=Lib.hid hbel7
    clear hb97 hb107 hbel7 hW7 a0 a1 a2 kk
    obtain ⟨v7,h7⟩:=Hws.out.vis (Vis.of_below Hbel7.out)
    have hgk7:=Hbk.out.below Hbel7.out Hbk.out.lt
    have ht7:=Htp.out.below Hbel7.out
    have hgv0:=Hws.out.base.2
    have hbndr:=Hws.out.bnd
    have hsz7:=Hbel7.out.size
    have hgvr:=Hws.out.blk.lt
    have H7:=Lib.hid h7
    have Hgk7:=Lib.hid hgk7
    have Ht7:=Lib.hid ht7
    have Hgv0:=Lib.hid hgv0
    have Hbndr:=Lib.hid hbndr
    clear h7 hgk7 ht7 hgv0 hbndr
    refine (WRank1_any gv (G p) S n v7 lv p (bitsOf L lv p) x true W7 H7.out.blk Ht7.out.at (Nat.le_of_lt Hxl.out)).mono ?_
    rintro e W8 ⟨rfl,hv8⟩
    obtain ⟨o1,ho1⟩:∃o1,((bitsOf L lv p).take x).count true=o1:=⟨_,rfl⟩
    have ho1y:(if b then o1 else x - o1)=y:=by
        have h1:=count_both ((bitsOf L lv p).take x)
        have h2:((bitsOf L lv p).take x).length=x:=by rw [List.length_take];have:=Hxl.out;omega
        have h3:=Hxy.out
        cases b
        · simp;omega
        · simp;omega
    have ho1x:o1≤x:=by
        rw [←ho1]
        exact Nat.le_trans List.count_le_length (by rw [List.length_take];omega)
    rw [ho1]
    obtain ⟨v8,h8⟩:=H7.out.vis hv8.1
    have ht8:=Ht7.out.vis hv8.1
    have hgk8:=hv8.1.bk Hgk7.out (by decide) (by decide)
    have hb98:=hv8.1.bk Hb97.out (by decide) (by decide)
    have hb108:=hv8.1.bk Hb107.out (by decide) (by decide)
    have hsz8:=hv8.1.size
    have x0:W8.cell? ⟨wr.heap.size,0,none⟩=some (.pointer (some ⟨G p,0,none⟩)):=(hb98.cell 0).trans rfl
    have x1:W8.cell? ⟨wr.heap.size,1,none⟩=some (.int .i64 (lv:Int)):=(hb98.cell 1).trans rfl
    have x2:W8.cell? ⟨wr.heap.size,2,none⟩=some (.int .i64 (p:Int)):=(hb98.cell 2).trans rfl
    have hg98:=hb98.lt
    have hg108:=hb108.lt
    have hgk8l:=hgk8.lt
    have hmf:∀(fn:Fn) (first cap:Array Value) (w:World),(Instr.makeFunc fn first cap).run Tryz.prog w=.ok (.func fn first cap) w:=fun _ _ _ _=>rfl
    have Ho1y:=Lib.hid ho1y
    have H8:=Lib.hid h8
    have Ht8:=Lib.hid ht8
    have Hgk8:=Lib.hid hgk8
    have Hb98:=Lib.hid hb98
    have Hb108:=Lib.hid hb108
    have Hv8:=Lib.hid hv8
    clear ho1 ho1y h8 ht8 hgk8 hb98 hb108 hv8
    go_wp2_with fail
    have nF0:∀y,wr.heap.size≤y→¬(ow y=TC lv p):=fun y hy f=>by
        have:=(Hbndr.out y (by rw [f];unfold TC;omega)).2
        omega
    refine (LookD_any gv (G p) w.heap.size (wr.heap.size+1) S n v8 lv p _ (fun b=>ow b=TC lv p) (bitsOf L lv p) x W8 H8.out.blk Ht8.out (fun f=>by rw [Hgv0.out] at f;unfold TC at f;omega) (nF0 _ (by omega)) (fun y hy=>(H8.out.bnd y (by rw [hy];unfold TC;omega)).2) Hgk8.out Hb108.out (fun y hy e=>nF0 y (by omega) hy) Hxl.out).mono ?_
    rintro e W9 ⟨rfl,ht9,hk9,hbx9,v9,hbk9⟩
    rw [Hxd.out] at hbx9
    have hed:=H8.out.edit (lv:=lv) (p:=p) (gx:=wr.heap.size+1) hl9 hpp (own_same (own_below hG0.out Hbel7.out) fun b cs _ hc=>Hv8.out.1.bk hc (by decide) (by decide)) (by
        rcases Nat.eq_zero_or_pos (ow (wr.heap.size+1)) with e | e
        · omega
        · have:=(Hbndr.out _ (by omega:ow (wr.heap.size+1)≠0)).2
          omega) (fun cs hc=>absurd (bk_inj hc Hb108.out).1 (by decide)) ht9 hk9 hbk9 (L':=delN L k) Hbi.out (fun q hq=>by rw [if_neg (Nat.lt_irrefl _)];exact Hbn.out q (fun e=>hq e.symm))
    have hfun:(fun l=>if l=lv then delN L k else if l < lv then delN L k else L)=fun l=>if l < lv+1 then delN L k else L:=by
        funext l
        by_cases c1:l=lv
        · rw [if_pos c1,if_pos (by omega)]
        · by_cases c2:l < lv
          · rw [if_neg c1,if_pos c2,if_pos (by omega)]
          · rw [if_neg c1,if_neg c2,if_neg (by omega)]
    rw [hfun] at hed
    have hgk9:=hk9.bk Hgk8.out (fun f=>by
        rcases f with f | f | f
        · have f':ow w.heap.size=TC lv p:=f
          rw [Hown3.out] at f'
          unfold TC at f'
          omega
        · exact hgv_gk f.symm
        · omega)
    have hb99:=hk9.bk Hb98.out (fun f=>by
        rcases f with f | f | f
        · exact nF0 _ (Nat.le_refl _) f
        · omega
        · omega)
    have y0:W9.cell? ⟨wr.heap.size,0,none⟩=some (.pointer (some ⟨G p,0,none⟩)):=(hb99.cell 0).trans rfl
    have y1:W9.cell? ⟨wr.heap.size,1,none⟩=some (.int .i64 (lv:Int)):=(hb99.cell 1).trans rfl
    have y2:W9.cell? ⟨wr.heap.size,2,none⟩=some (.int .i64 (p:Int)):=(hb99.cell 2).trans rfl
    have yb:W9.cell? ⟨wr.heap.size+1,0,none⟩=some (.bool b):=(hbx9.cell 0).trans rfl
    have hg99:=hb99.lt
    have hg109:=hbx9.lt
    have hGc:ow (G p)=TC lv p:=Htp.out.1
    have Hed:=Lib.hid hed
    have Hk9:=Lib.hid hk9
    have Hgk9:=Lib.hid hgk9
    have Hbx9:=Lib.hid hbx9
    have HGc:=Lib.hid hGc
    have HnF0:=Lib.hid nF0
    clear ht9 hk9 hbk9 hed hfun hgk9 hb99 hbx9 x0 x1 x2 hmf hGc nF0
    go_wp2_with fail
    refine (Next_any (G p) lv p b W9 hp1000).mono ?_
    rintro e W10 ⟨rfl,hb10⟩
    rw [←Hps.out]
    obtain ⟨v10,h10⟩:=Hed.out.vis (Vis.of_below hb10)
    have hgk10:=Hgk9.out.below hb10 Hgk9.out.lt
    have hbx10:=Hbx9.out.below hb10 Hbx9.out.lt
    have zb:W10.cell? ⟨wr.heap.size+1,0,none⟩=some (.bool b):=(hbx10.cell 0).trans rfl
    have zk:W10.cell? ⟨w.heap.size,0,none⟩=some (.int .i64 (x:Int)):=(hgk10.cell 0).trans rfl
    have fk:=hgk10.frozen 0
    have hgk10l:=hgk10.lt
    have hbx10l:=hbx10.lt
    have hgk11:=hgk10.set 0 (.int .i64 (y:Int))
    have hrc0:recol ow W8.heap.size W9.heap.size (TC lv p) w.heap.size=0:=by
        unfold recol
        rw [if_pos (by omega)]
        exact Hown3.out
    have h11:=h10.far (w':=W10.setCell ⟨w.heap.size,0,none⟩ (.int .i64 (y:Int))) (H:=fun b=>b=w.heap.size) (Keep.setCell (F:=fun b=>b=w.heap.size) (Keep.refl _ _) (p:=⟨w.heap.size,0,none⟩) (.inl rfl) _) (fun b e=>by rw [show b=w.heap.size from e,hrc0];omega)
    have hsw:=Hkp.out.size
    have hkF:Keep (fun b=>b=gv∨16≤own b) w (W10.setCell ⟨w.heap.size,0,none⟩ (.int .i64 (y:Int))):=Keep.setCell (F:=fun b=>b=gv∨16≤own b) ((((Hkp.out.trans (Keep.of_below Hbel7.out)).trans' Hv8.out.2 (fun b hb f=>by
        rcases f with f | f
        · exact .inl f
        · right
          rw [←Hown1.out b hb,f,HGc.out]
          unfold TC
          omega)).trans' Hk9.out (fun b hb f=>by
        rcases f with f | f | f
        · right
          have f':ow b=TC lv p:=f
          rw [←Hown1.out b hb,f']
          unfold TC
          omega
        · exact .inl f
        · omega)).trans (Keep.of_below hb10)) (p:=⟨w.heap.size,0,none⟩) (.inr (Nat.le_refl _)) _
    have H11:=Lib.hid h11
    have Hgk11:=Lib.hid hgk11
    have HkF:=Lib.hid hkF
    have Hrc0:=Lib.hid hrc0
    clear hb10 h10 hgk10 hbx10 hgk11 h11 hkF hrc0 y0 y1 y2 yb
    have hrel:∃(lv':Nat) (ow:Nat→Nat) (v3:Int),lv'≤9∧Value.int .i64 ((lv+1:Nat):Int)=.int .i64 lv'∧Value.int .i64 (r:Int)=.int .i64 ((pathN s lv':Nat):Int)∧WaveS (W10.setCell ⟨w.heap.size,0,none⟩ (.int .i64 (y:Int))) B ow gv S (fun l=>if l < lv' then delN L k else L) (n:Int) v3∧Bk (W10.setCell ⟨w.heap.size,0,none⟩ (.int .i64 (y:Int))) w.heap.size 3 #[.int .i64 ((atLv L k s lv':Nat):Int)]∧(∀b,b < w.heap.size→ow b=own b)∧(∀b,w.heap.size≤b→ow b≠1)∧ow w.heap.size=0∧Keep (fun b=>b=gv∨16≤own b) w (W10.setCell ⟨w.heap.size,0,none⟩ (.int .i64 (y:Int))):=by
        refine ⟨lv+1,recol ow W8.heap.size W9.heap.size (TC lv p),v10,by omega,rfl,by rw [Hr.out],H11.out,?_,fun b hb=>?_,fun b hb=>?_,Hrc0.out,HkF.out⟩
        · rw [Hy.out]
          exact Hgk11.out
        · unfold recol
          rw [if_pos (by omega)]
          exact Hown1.out b hb
        · unfold recol
          by_cases c1:b < W8.heap.size
          · rw [if_pos c1]
            exact Hown2.out b hb
          · rw [if_neg c1]
            unfold TC
            split <;> omega
    have Hrel:=Lib.hid hrel
    clear hrel
    cases b with
    | true=>
      obtain rfl:o1=y:=by have:=Ho1y.out;simpa using this
      go_wp2_with fail
      go_roundw
      case rel=>exact Hrel.out
      case measure=>simp [intOf];omega
    | false=>
      have hoy:x - o1=y:=by have:=Ho1y.out;simpa using this
      have e9:IntKind.i64.wrap ((x:Int) -(o1:Int))=(y:Int):=by
       have h2:=Hxl.out
       have h3:(bitsOf L lv p).length≤L.length:=by rw [bits_len];exact List.countP_le_length
       have h4:=HN.out
       rw [IntKind.wrap_i64]
       omega
      go_wp2_with fail
      go_roundw
      case rel=>exact Hrel.out
      case measure=>simp [intOf];omega
  · obtain rfl:lv=9:=by omega
    have hS9:WaveS wr B ow gv S (fun _=>delN L k) (n:Int) v3:=⟨hws.blk,hws.base,fun l hl=>by have:=hws.rows l hl;simpa [hl] using this,hws.bnd⟩
    obtain ⟨_,x9,_⟩:=hS9.cells
    have f9:=hS9.blk.frozen 9
    have hgvr:=hS9.blk.lt
    have hS10:=hS9.set_n ((n:Int) - 1)
    have e1:IntKind.i64.wrap ((n:Int) - 1)=(n:Int) - 1:=by rw [IntKind.wrap_i64];omega
    have hkf:Keep (fun b=>b=gv∨16≤own b) w (wr.setCell ⟨gv,9,none⟩ (.int .i64 ((n:Int) - 1))):=Keep.setCell (F:=fun b=>b=gv∨16≤own b) hkp (p:=⟨gv,9,none⟩) (.inl (.inl rfl)) _
    rw [P9.out]
    have HS10:=Lib.hid hS10
    have Hkf:=Lib.hid hkf
    have Hown1:=Lib.hid hown1
    have Hown2:=Lib.hid hown2
    clear hws hS9 hS10 hkp hkf hbk hown1 hown2 hown3
    go_wp2_with fail
    go_ret2
    refine ⟨rfl,ow,⟨S,v3,?_⟩,Hown1.out,Hown2.out,Hkf.out⟩
    rw [show (((delN L k).length:Nat):Int)=(n:Int) - 1 by have:=Hins.out;omega]
    exact HS10.out
end Go.Proofs.YtipaccakmndkgaaGreatDoor
namespace Go.Proofs.YtipaccakmndkgaaGreatDoor
open Go.RowKit
set_option linter.unusedVariables false
set_option linter.unusedSimpArgs false
theorem VisF.waveC {F:Nat→Prop} {w w':World} {g:Nat} {S:Nat→Value} {n v:Int} (h:VisF F w w') (hb:Bk w g 174 (wcells S n v)) (hn:¬F g):∃v',Bk w' g 174 (wcells S n v'):=by
 rcases VisF.wave h hb hn with h1 |⟨v',h1⟩
 · exact ⟨v,h1⟩
 · rw [wcells_visits] at h1
   exact ⟨v',h1⟩
def lvlOf (x:Value) (w:World):Nat:=match x with
 | .pointer (some a)=>match w.cell? a with
   | some v=>(intOf v+1).toNat
   | none=>0
 | _=>0
theorem lvlOf_at {w:World} {a:Addr} {z:Int} (h:w.cell? a=some (.int .i64 z)):lvlOf (.pointer (some a)) w=(z+1).toNat:=by
 show (match w.cell? a with | some v=>(intOf v+1).toNat | none=>0)=_
 rw [h]
 rfl
set_option maxRecDepth 100000 in
set_option maxHeartbeats 4000000 in
theorem WaveSelect_any (B gv:Nat) (L:List Nat) (r j s:Nat) (w:World) (h:WaveAt w B gv L) (hr:L[r]?=some s) (hj:(L.take r).count s=j) (hL:∀x∈L,x < 257) (hn:L.length≤1000) (hT:TabW w) (hB0:1 < B):
 Calls Tryz.prog 144 #[.pointer (some ⟨gv,0,none⟩),.int .i64 (j:Int),.int .i64 (s:Int)] w fun e w'=>e=.returned (.int .i64 (r:Int))∧VB B w w':=by
 have hrl:=(List.getElem?_eq_some_iff.1 hr).1
 have hrs:=(List.getElem?_eq_some_iff.1 hr).2
 have hs:s < 257:=by rw [←hrs];exact hL _ (List.getElem_mem hrl)
 have hcnt:(L.take r).count s < L.count s:=by
  have h1:L.count s=(L.take (r+1)).count s+(L.drop (r+1)).count s:=by rw [←List.count_append,List.take_append_drop]
  have h2:(L.take (r+1)).count s=(L.take r).count s+1:=by
   rw [List.take_add_one,hr,List.count_append]
   simp
  omega
 have h90:=atLv_zero L r s (Nat.le_of_lt hrl) hL hs
 have h99:=atLv_nine L r s
 rw [hj] at h99 hcnt
 have hat:∀lv,(bitsOf L lv (pathN s lv))[atLv L r s lv]?=some (bitB s lv):=fun lv=>by
  have:=bits_at L r lv hrl
  rw [hrs] at this
  exact this
 have hwA:=h
 obtain ⟨hBg,S,v,hb,hrows⟩:=h
 obtain ⟨n,hnn⟩:∃n,L.length=n:=⟨_,rfl⟩
 have hqq:(L.take n).count s=L.count s:=by rw [←hnn,List.take_length]
 obtain ⟨q,hq⟩:∃q,L.count s=q:=⟨_,rfl⟩
 rw [hq] at hqq hcnt
 rw [hnn] at hb hrl
 have hlt:=hb.lt
 have hj0:decide ((j:Int) < 0)=false:=by simp
 have hbel:=((Below.refl w.heap.size w).alloc (Nat.le_refl _) (.cells #[.int .i64 (j:Int)] 3)).alloc (by simp) (.cells #[.int .i64 (s:Int)] 3)
 have hg4:=(Bk.new w 3 #[.int .i64 (j:Int)]).alloc (.cells #[.int .i64 (s:Int)] 3)
 have hg5:=Bk.new (w.alloc (.cells #[.int .i64 (j:Int)] 3)) 3 #[.int .i64 (s:Int)]
 rw [World.size_alloc] at hg5
 obtain ⟨W,hW⟩:∃x,(w.alloc (.cells #[.int .i64 (j:Int)] 3)).alloc (.cells #[.int .i64 (s:Int)] 3)=x:=⟨_,rfl⟩
 obtain ⟨g4,hg4e⟩:∃x,w.heap.size=x:=⟨_,rfl⟩
 obtain ⟨g5,hg5e⟩:∃x,g4+1=x:=⟨_,rfl⟩
 rw [hW] at hbel hg4 hg5
 rw [hg4e] at hg4
 rw [hg4e,hg5e] at hg5
 have l4:=hg4.lt
 have l5:=hg5.lt
 have Hj9:=Lib.hid h99
 have H0:=Lib.hid h90
 have HwA:=Lib.hid (hwA.vis (Vis.of_below hbel))
 have Hwb:=Lib.hid (hb.below hbel hlt)
 have Hwb0:=Lib.hid hb
 have Hrows:=Lib.hid hrows
 have Hat:=Lib.hid hat
 have HL:=Lib.hid hL
 have HN:=Lib.hid hnn
 have Hn1000:=Lib.hid hn
 have Hq:=Lib.hid hqq
 have Hjq:=Lib.hid (show ¬q≤j by omega)
 have HT:=Lib.hid hT
 have Hg4:=Lib.hid hg4
 have Hg5:=Lib.hid hg5
 have HW:=Lib.hid hW
 have Hbel:=Lib.hid hbel
 have He4:=Lib.hid hg4e
 have He5:=Lib.hid hg5e
 clear h99 h90 hwA hb hrows hat hL hnn hqq hq hcnt hj hr hrs hT hg4 hg5 hW hbel hn hrl
 go_enter Tryz.func144,Tryz.ntmps144
 go_wp2_with fail
 rw [HW.out]
 refine wp_region_any (by kernel_rfl) ?_
 refine wpAny_loose2 [8,9,10,11,12,13,14,15,16,17,18,19,20,21,22,23,24] (VB B) (Vs [is (.pointer (some ⟨gv,0,none⟩)),is (.bool false),is (.bool false),is (.int .i64 (j:Int)),is (.bool false),is (.bool false),is (.bool false),is (.int .i64 (j:Int)),is (.pointer (some ⟨gv,0,none⟩)),is (.pointer (some ⟨gv,0,none⟩)),is (.pointer (some ⟨gv,0,none⟩)),is (.pointer (some ⟨gv,9,none⟩)),is (.int .i64 (n:Int)),is (.int .i64 (s:Int)),is (.int .i64 (q:Int)),is (.bool false),is (.bool false)]) _ _ rfl (by kernel_rfl) (VisK.refl _ _) (fun _ _=>VisK.trans) (stbs_all (by repeat' (first | exact stbs_is _ _ | exact stbs_any _ |(refine List.forall_mem_cons.2 ⟨?_,?_⟩)|(intro p hp;cases hp)))) ?_ ?_
 · refine steps_of ?_
   refine steps_cons (step_on rfl rfl fun ev _ _ _ _ hold _ _ _ _ hK=>?_) ?_
   · have e0:ev (.tmp 0)=.pointer (some ⟨gv,0,none⟩):=hold 0 (by kernel_rfl)
     go_simp
     exact hK _ _ ((VisK.refl _ _)) rfl
   refine steps_cons (step_on rfl rfl fun _ _ _ _ _ _ hval _ _ _ hK=>?_) ?_
   · have e8:_=_:=hval 0 8 (by kernel_rfl) rfl
     go_simp
     exact hK _ _ ((VisK.refl _ _)) rfl
   refine steps_cons (step_on rfl rfl fun _ _ _ _ _ _ hval _ _ _ hK=>?_) ?_
   · have e9:_=_:=hval 1 9 (by kernel_rfl) rfl
     go_simp
     exact hK _ _ ((VisK.refl _ _)) rfl
   refine steps_cons (step_guard (d:=10) (b:=false) rfl rfl rfl (by kernel_rfl) (fun _ _ _ h=>h) fun ev w5 hS _ _ hold _ _ _ _ hK=>?_) ?_
   · have e4:ev (.tmp 4)=.pointer (some ⟨g4,0,none⟩):=hold 4 (by kernel_rfl)
     replace hS:(VB B) W w5:=⟨⟨hS.1.os,hS.1.tape,hS.1.output,hS.1.size,hS.1.block⟩,⟨hS.2.os,hS.2.tape,hS.2.output,hS.2.size,hS.2.block⟩⟩
     have k5:w5.cell? ⟨g4,0,none⟩=some (.int .i64 (j:Int)):=((hS.1.bk Hg4.out (by decide) (by decide)).cell 0).trans rfl
     go_simp
     exact hK _ _ ((VisK.refl _ _)) rfl
   refine steps_cons (step_guard (d:=10) (b:=false) rfl rfl rfl (by kernel_rfl) (fun _ _ _ h=>h) fun _ _ _ _ _ _ hval _ _ _ hK=>?_) ?_
   · have e11:_=_:=hval 3 11 (by kernel_rfl) rfl
     go_simp
     exact hK _ _ ((VisK.refl _ _)) rfl
   refine steps_cons (step_on rfl rfl fun _ _ _ _ _ _ hval _ _ _ hK=>?_) ?_
   · have e10:_=_:=hval 2 10 (by kernel_rfl) rfl
     have e12:_=_:=hval 4 12 (by kernel_rfl) rfl
     go_simp
     exact hK _ _ ((VisK.refl _ _)) rfl
   refine steps_cons (step_on rfl rfl fun _ _ _ _ _ _ hval _ _ _ hK=>?_) ?_
   · have e13:_=_:=hval 5 13 (by kernel_rfl) rfl
     go_simp
     exact hK _ _ ((VisK.refl _ _)) rfl
   refine steps_cons (step_guard (d:=14) (b:=false) rfl rfl rfl (by kernel_rfl) (fun _ _ _ h=>h) fun ev w5 hS _ _ hold _ _ _ _ hK=>?_) ?_
   · have e4:ev (.tmp 4)=.pointer (some ⟨g4,0,none⟩):=hold 4 (by kernel_rfl)
     replace hS:(VB B) W w5:=⟨⟨hS.1.os,hS.1.tape,hS.1.output,hS.1.size,hS.1.block⟩,⟨hS.2.os,hS.2.tape,hS.2.output,hS.2.size,hS.2.block⟩⟩
     have k5:w5.cell? ⟨g4,0,none⟩=some (.int .i64 (j:Int)):=((hS.1.bk Hg4.out (by decide) (by decide)).cell 0).trans rfl
     go_simp
     exact hK _ _ ((VisK.refl _ _)) rfl
   refine steps_cons (step_guard (d:=14) (b:=false) rfl rfl rfl (by kernel_rfl) (fun _ _ _ h=>h) fun ev _ _ _ _ hold _ _ _ _ hK=>?_) ?_
   · have e0:ev (.tmp 0)=.pointer (some ⟨gv,0,none⟩):=hold 0 (by kernel_rfl)
     go_simp
     exact hK _ _ ((VisK.refl _ _)) rfl
   refine steps_cons (step_guard (d:=14) (b:=false) rfl rfl rfl (by kernel_rfl) (fun _ _ _ h=>h) fun ev _ _ _ _ hold _ _ _ _ hK=>?_) ?_
   · have e0:ev (.tmp 0)=.pointer (some ⟨gv,0,none⟩):=hold 0 (by kernel_rfl)
     go_simp
     exact hK _ _ ((VisK.refl _ _)) rfl
   refine steps_cons (step_guard (d:=14) (b:=false) rfl rfl rfl (by kernel_rfl) (fun _ _ _ h=>h) fun _ _ _ _ _ _ hval _ _ _ hK=>?_) ?_
   · have e17:_=_:=hval 9 17 (by kernel_rfl) rfl
     go_simp
     exact hK _ _ ((VisK.refl _ _)) rfl
   refine steps_cons (step_guard (d:=14) (b:=false) rfl rfl rfl (by kernel_rfl) (fun _ _ _ h=>h) fun _ _ _ _ _ _ hval _ _ _ hK=>?_) ?_
   · have e18:_=_:=hval 10 18 (by kernel_rfl) rfl
     go_simp
     exact hK _ _ ((VisK.refl _ _)) rfl
   refine steps_cons (step_guard (d:=14) (b:=false) rfl rfl rfl (by kernel_rfl) (fun _ _ _ h=>h) fun _ w5 hS _ _ _ hval _ _ _ hK=>?_) ?_
   · have e19:_=_:=hval 11 19 (by kernel_rfl) rfl
     replace hS:(VB B) W w5:=⟨⟨hS.1.os,hS.1.tape,hS.1.output,hS.1.size,hS.1.block⟩,⟨hS.2.os,hS.2.tape,hS.2.output,hS.2.size,hS.2.block⟩⟩
     obtain ⟨v5,hw5⟩:=hS.1.waveC Hwb.out
     have c9:w5.cell? ⟨gv,9,none⟩=some (.int .i64 (n:Int)):=(hw5.cell 9).trans (wcells_get S n v5).2.2.2.2.2.2.2.2.2.1
     go_simp
     exact hK _ _ ((VisK.refl _ _)) rfl
   refine steps_cons (step_guard (d:=14) (b:=false) rfl rfl rfl (by kernel_rfl) (fun _ _ _ h=>h) fun ev w5 hS _ _ hold _ _ _ _ hK=>?_) ?_
   · have e5:ev (.tmp 5)=.pointer (some ⟨g5,0,none⟩):=hold 5 (by kernel_rfl)
     replace hS:(VB B) W w5:=⟨⟨hS.1.os,hS.1.tape,hS.1.output,hS.1.size,hS.1.block⟩,⟨hS.2.os,hS.2.tape,hS.2.output,hS.2.size,hS.2.block⟩⟩
     have k5:w5.cell? ⟨g5,0,none⟩=some (.int .i64 (s:Int)):=((hS.1.bk Hg5.out (by decide) (by decide)).cell 0).trans rfl
     go_simp
     exact hK _ _ ((VisK.refl _ _)) rfl
   refine steps_cons (step_guard (d:=14) (b:=false) rfl rfl rfl (by kernel_rfl) (fun _ _ _ h=>h) fun _ w5 hS _ _ _ hval _ _ _ hK=>?_) ?_
   · have e16:_=_:=hval 8 16 (by kernel_rfl) rfl
     have e20:_=_:=hval 12 20 (by kernel_rfl) rfl
     have e21:_=_:=hval 13 21 (by kernel_rfl) rfl
     replace hS:(VB B) W w5:=⟨⟨hS.1.os,hS.1.tape,hS.1.output,hS.1.size,hS.1.block⟩,⟨hS.2.os,hS.2.tape,hS.2.output,hS.2.size,hS.2.block⟩⟩
     go_simp
     refine (WaveRank_any B gv L n s w5 (HwA.out.vis hS.1) hs (Nat.le_of_eq HN.out.symm) HL.out Hn1000.out).mono ?_
     rintro e w8 ⟨rfl,hv8⟩
     rw [Hq.out]
     exact hK _ _ hv8 rfl
   refine steps_cons (step_guard (d:=14) (b:=false) rfl rfl rfl (by kernel_rfl) (fun _ _ _ h=>h) fun _ _ _ _ _ _ hval _ _ _ hK=>?_) ?_
   · have e15:_=_:=hval 7 15 (by kernel_rfl) rfl
     have e22:_=_:=hval 14 22 (by kernel_rfl) rfl
     have hjq:=Hjq.out
     have hjq2:decide (q≤j)=false:=decide_eq_false hjq
     go_simp
     exact hK _ _ ((VisK.refl _ _)) rfl
   refine steps_cons (step_on rfl rfl fun _ _ _ _ _ _ hval _ _ _ hK=>?_) ?_
   · have e14:_=_:=hval 6 14 (by kernel_rfl) rfl
     have e23:_=_:=hval 15 23 (by kernel_rfl) rfl
     go_simp
     exact hK _ _ ((VisK.refl _ _)) rfl
   exact steps_nil
 · intro ev w6 hS hval
   replace hS:(VB B) W w6:=⟨⟨hS.1.os,hS.1.tape,hS.1.output,hS.1.size,hS.1.block⟩,⟨hS.2.os,hS.2.tape,hS.2.output,hS.2.size,hS.2.block⟩⟩
   have e24:ev (.tmp 24)=.bool false:=hval 16 24 rfl
   simp only [putsOf,List.foldl_cons,List.foldl_nil,Act.put,List.setIfInBounds_toArray,List.set_cons_zero,List.set_cons_succ]
   rw [e24]
   clear hval
   have hvW:VB B w w6:=(VisK.of_below (hg4e ▸ Hbel.out)).trans hS
   have hg4:=hS.1.bk Hg4.out (by decide) (by decide)
   have hg5:=hS.1.bk Hg5.out (by decide) (by decide)
   have hs6:=hS.1.size
   obtain ⟨W6,hW6⟩:∃x,x=w6:=⟨_,rfl⟩
   subst hW6
   have h8:=Bk.new W6 3 #[.int .i64 8]
   have hg47:=hg4.alloc (.cells #[.int .i64 8] 3)
   have hg57:=hg5.alloc (.cells #[.int .i64 8] 3)
   have hv7:=hvW.alloc (.cells #[.int .i64 8] 3)
   have H8:=Lib.hid h8
   have Hg47:=Lib.hid hg47
   have Hg57:=Lib.hid hg57
   have Hv7:=Lib.hid hv7
   have hB4:B≤g4:=by omega
   have hgw:w.heap.size≤W6.heap.size:=hvW.1.size
   clear h8 hg47 hg57 hv7 hg4 hg5 hS hvW Hg4 Hg5 hj0
   go_wp2_with fail
   go_loopw [7] (fun x wr=>∃(g7 m:Nat) (z:Int),m≤9∧z=(m:Int) - 1∧x=.pointer (some ⟨g7,0,none⟩)∧Bk wr g7 3 #[.int .i64 z]∧Bk wr g4 3 #[.int .i64 ((atLv L r s m:Nat):Int)]∧Bk wr g5 3 #[.int .i64 (s:Int)]∧VB B w wr∧g5 < g7) (fun x wr=>lvlOf x wr)
   case atStart=>exact ⟨W6.heap.size,9,8,by omega,by omega,rfl,H8.out,by rw [Hj9.out];exact Hg47.out,Hg57.out,Hv7.out,by omega⟩
   case round=>
    obtain ⟨g7,m9,z,hm9,hz,rfl,hg7,hgk,hg5,hv,hg57⟩:=hrel
    have c7:wr.cell? ⟨g7,0,none⟩=some (.int .i64 z):=(hg7.cell 0).trans rfl
    rcases m9 with _ | lv
    · have hz0:decide (z≥0)=false:=by simp;omega
      have c4:wr.cell? ⟨g4,0,none⟩=some (.int .i64 ((atLv L r s 0:Nat):Int)):=(hgk.cell 0).trans rfl
      rw [H0.out] at c4
      have Hv:=Lib.hid hv
      clear hgk hg5 hg7 hv
      go_wp2_with fail
      go_ret
      exact ⟨rfl,Hv.out⟩
    · obtain rfl:z=(lv:Int):=by omega
      have hl9:lv < 9:=by omega
      have hz0:decide ((lv:Int)≥0)=true:=by simp
      obtain ⟨G,hown,htr⟩:=Hrows.out lv hl9
      obtain ⟨m,hm⟩:∃m,2 ^ lv=m:=⟨_,rfl⟩
      obtain ⟨p,hp⟩:∃p,pathN s lv=p:=⟨_,rfl⟩
      have hpm:p < m:=by rw [←hm,←hp];exact path_lt s lv hs (by omega)
      rw [hm] at hown htr
      obtain ⟨g,cap,hSl,hnc,hgl⟩:=World.ownsRow.form hown (by omega)
      rw [hSl] at hown
      obtain ⟨x,hx⟩:∃x,atLv L r s lv=x:=⟨_,rfl⟩
      obtain ⟨y,hy⟩:∃y,atLv L r s (lv+1)=y:=⟨_,rfl⟩
      have hxy:=atLv_step L r s lv hl9
      have hxa:=Hat.out lv
      rw [hp,hx,hy] at hxy
      rw [hp,hx] at hxa
      rw [hy] at hgk
      have hpI:(p:Int) < (m:Int):=by omega
      have hown2:=hv.1.own hown (by decide) (by decide)
      have hgw2:=hown.lt
      have hgne:∀b,(Value.slice (some ⟨g,0,none⟩) m cap).ownBlock=some b→b≠g4:=fun b hbo=>by
         have hgb:g=b:=by simpa [Value.ownBlock] using hbo
         omega
      have Hgne:=Lib.hid hgne
      clear hgne
      have hwb2:∃v2,Bk wr gv 174 (wcells S n v2):=hv.1.waveC Hwb0.out
      obtain ⟨v2,hwb2⟩:=hwb2
      have hTr:=HT.out.vb hv hB0 (by omega)
      have hwr:=hv.1.size
      have Hxy:=Lib.hid hxy
      have Hxa:=Lib.hid hxa
      have Hown:=Lib.hid hown2
      have Htr:=Lib.hid (htr p hpm)
      have Hp:=Lib.hid hp
      have Hx:=Lib.hid hx
      have Hy:=Lib.hid hy
      have Hv:=Lib.hid hv
      have HSl:=Lib.hid hSl
      have Hwb:=Lib.hid hwb2
      have HTr:=Lib.hid hTr
      have Hg7:=Lib.hid hg7
      have Hg5:=Lib.hid hg5
      have Hgk:=Lib.hid hgk
      have C7:=Lib.hid c7
      obtain ⟨Wx,hWx⟩:∃x,x=wr:=⟨_,rfl⟩
      subst hWx
      clear hown htr hSl hm hp hx hy hxy hxa hv hown2 hwb2 hTr hg7 hg5 hgk hz
      go_wp2_with fail
      refine wp_region_any (by kernel_rfl) ?_
      refine wpAny_vis_tail B 14 [29,30,31,32,33,34,35,36,37,38,39,40,41,42] (fun b=>b=g4) 13 [13] (fun w2=>Bk w2 g4 3 #[.int .i64 (y:Int)]) (fun _ w2=>Bk w2 g4 3 #[.int .i64 (x:Int)]) [is (.pointer (some ⟨gv,0,none⟩)),is (.pointer (some ⟨gv,0,none⟩)),is (.int .i64 (lv:Int)),is (.pointer (some ⟨gv,0,none⟩)),is (.pointer (some ⟨gv,0,none⟩)),is (.pointer (some ⟨gv,lv,none⟩)),is (.slice (some ⟨g,0,none⟩) m cap),is (.int .i64 (s:Int)),is (.int .i64 (lv:Int)),is (.int .i64 (p:Int)),is (.pointer (some ⟨g,p*3,none⟩)),is (.agg #[.pointer (some ⟨G p,0,none⟩),.int .i64 (lv:Int),.int .i64 (p:Int)]),is (.func (.func 207) #[] #[.pointer (some ⟨g4,0,none⟩),.pointer (some ⟨g5,0,none⟩),.pointer (some ⟨g7,0,none⟩)]),anyV] _ _ rfl (by decide) (by kernel_rfl) (by kernel_rfl) (by kernel_rfl) (Hgk.out) (fun w1 w2 h _ k=>k.1.bk h (by decide) (by decide)) (fun _ _ _ h k=>k.1.bk h (by decide) (by decide)) (by repeat' (first | exact stbs_is _ _ | exact stbs_any _ |(refine List.forall_mem_cons.2 ⟨?_,?_⟩)|(intro p hp;cases hp))) ?_ ?_
      · refine steps_of_n ?_
        refine steps_cons (step_on3 rfl rfl fun ev _ _ _ _ _ hold _ _ _ _ hK=>?_) ?_
        · have e0:ev (.tmp 0)=.pointer (some ⟨gv,0,none⟩):=hold 0 (by kernel_rfl)
          go_simp
          exact hK _ _ (vstep_vis (VisK.refl _ _)) rfl
        refine steps_cons (step_on3 rfl rfl fun ev _ _ _ _ _ hold _ _ _ _ hK=>?_) ?_
        · have e0:ev (.tmp 0)=.pointer (some ⟨gv,0,none⟩):=hold 0 (by kernel_rfl)
          go_simp
          exact hK _ _ (vstep_vis (VisK.refl _ _)) rfl
        refine steps_cons (step_on3 rfl rfl fun ev w5 hS _ _ _ hold _ _ _ _ hK=>?_) ?_
        · replace hS:VFB B (fun b=>b=g4) Wx w5:=⟨⟨hS.1.os,hS.1.tape,hS.1.output,hS.1.size,hS.1.block⟩,⟨hS.2.os,hS.2.tape,hS.2.output,hS.2.size,hS.2.block⟩⟩
          have e7:ev (.tmp 7)=.pointer (some ⟨g7,0,none⟩):=hold 7 (by kernel_rfl)
          have k5:w5.cell? ⟨g7,0,none⟩=some (.int .i64 (lv:Int)):=((hS.1.bk Hg7.out (by decide) (by decide) (fun h=>absurd (show g7=g4 from h) (by omega))).cell 0).trans rfl
          go_simp
          exact hK _ _ (vstep_vis (VisK.refl _ _)) rfl
        refine steps_cons (step_on3 rfl rfl fun _ _ _ _ _ _ _ hval _ _ _ hK=>?_) ?_
        · have e30:_=_:=hval 1 30 (by kernel_rfl) rfl
          go_simp
          exact hK _ _ (vstep_vis (VisK.refl _ _)) rfl
        refine steps_cons (step_on3 rfl rfl fun _ _ _ _ _ _ _ hval _ _ _ hK=>?_) ?_
        · have e32:_=_:=hval 3 32 (by kernel_rfl) rfl
          go_simp
          exact hK _ _ (vstep_vis (VisK.refl _ _)) rfl
        refine steps_cons (step_on3 rfl rfl fun _ _ _ _ _ _ _ hval _ _ _ hK=>?_) ?_
        · have e33:_=_:=hval 4 33 (by kernel_rfl) rfl
          have e31:_=_:=hval 2 31 (by kernel_rfl) rfl
          have hl9I:(lv:Int) < 9:=by omega
          go_simp
          exact hK _ _ (vstep_vis (VisK.refl _ _)) rfl
        refine steps_cons (step_on3 rfl rfl fun _ w5 hS _ _ _ _ hval _ _ _ hK=>?_) ?_
        · replace hS:VFB B (fun b=>b=g4) Wx w5:=⟨⟨hS.1.os,hS.1.tape,hS.1.output,hS.1.size,hS.1.block⟩,⟨hS.2.os,hS.2.tape,hS.2.output,hS.2.size,hS.2.block⟩⟩
          have e34:_=_:=hval 5 34 (by kernel_rfl) rfl
          obtain ⟨v5,hw5⟩:=hS.1.waveC Hwb.out (fun h=>absurd (show gv=g4 from h) (by omega))
          have c9:w5.cell? ⟨gv,lv,none⟩=some (.slice (some ⟨g,0,none⟩) m cap):=(hw5.cell lv).trans ((wcells_at S n v5 lv hl9).trans (congrArg some HSl.out))
          go_simp
          exact hK _ _ (vstep_vis (VisK.refl _ _)) rfl
        refine steps_cons (step_on3 rfl rfl fun ev w5 hS _ _ _ hold _ _ _ _ hK=>?_) ?_
        · replace hS:VFB B (fun b=>b=g4) Wx w5:=⟨⟨hS.1.os,hS.1.tape,hS.1.output,hS.1.size,hS.1.block⟩,⟨hS.2.os,hS.2.tape,hS.2.output,hS.2.size,hS.2.block⟩⟩
          have e5:ev (.tmp 5)=.pointer (some ⟨g5,0,none⟩):=hold 5 (by kernel_rfl)
          have k5:w5.cell? ⟨g5,0,none⟩=some (.int .i64 (s:Int)):=((hS.1.bk Hg5.out (by decide) (by decide) (fun h=>absurd (show g5=g4 from h) (by omega))).cell 0).trans rfl
          go_simp
          exact hK _ _ (vstep_vis (VisK.refl _ _)) rfl
        refine steps_cons (step_on3 rfl rfl fun ev w5 hS _ _ _ hold _ _ _ _ hK=>?_) ?_
        · replace hS:VFB B (fun b=>b=g4) Wx w5:=⟨⟨hS.1.os,hS.1.tape,hS.1.output,hS.1.size,hS.1.block⟩,⟨hS.2.os,hS.2.tape,hS.2.output,hS.2.size,hS.2.block⟩⟩
          have e7:ev (.tmp 7)=.pointer (some ⟨g7,0,none⟩):=hold 7 (by kernel_rfl)
          have k5:w5.cell? ⟨g7,0,none⟩=some (.int .i64 (lv:Int)):=((hS.1.bk Hg7.out (by decide) (by decide) (fun h=>absurd (show g7=g4 from h) (by omega))).cell 0).trans rfl
          go_simp
          exact hK _ _ (vstep_vis (VisK.refl _ _)) rfl
        refine steps_cons (step_on3 rfl rfl fun _ w5 _ _ _ _ _ hval _ _ _ hK=>?_) ?_
        · have e36:_=_:=hval 7 36 (by kernel_rfl) rfl
          have e37:_=_:=hval 8 37 (by kernel_rfl) rfl
          go_simp
          refine (SymPath_any s lv w5 hs (by omega)).mono ?_
          rintro e w8 ⟨rfl,hb8⟩
          rw [Hp.out]
          exact hK _ _ (vstep_vis (VisK.of_below hb8)) rfl
        refine steps_cons (step_on3 rfl rfl fun _ _ _ _ _ _ _ hval _ _ _ hK=>?_) ?_
        · have e35:_=_:=hval 6 35 (by kernel_rfl) rfl
          have e38:_=_:=hval 9 38 (by kernel_rfl) rfl
          go_simp
          exact hK _ _ (vstep_vis (VisK.refl _ _)) rfl
        refine steps_cons (step_on3 rfl rfl fun _ w5 hS _ _ _ _ hval _ _ _ hK=>?_) ?_
        · replace hS:VFB B (fun b=>b=g4) Wx w5:=⟨⟨hS.1.os,hS.1.tape,hS.1.output,hS.1.size,hS.1.block⟩,⟨hS.2.os,hS.2.tape,hS.2.output,hS.2.size,hS.2.block⟩⟩
          have e39:_=_:=hval 10 39 (by kernel_rfl) rfl
          have hrow5:=own_same Hown.out fun b cs hbo hb=>hS.1.bk hb (by decide) (by decide) (fun h=>absurd (show b=g4 from h) (Hgne.out b hbo))
          obtain ⟨q0,q1,q2⟩:=shelfL_get G lv m p hpm
          have a0:w5.cell? ⟨g,p*3,none⟩=_:=(World.ownsRow.cellAt hrow5 (p*3) (by omega)).trans q0
          have a1:w5.cell? ⟨g,p*3+1,none⟩=_:=(World.ownsRow.cellAt hrow5 (p*3+1) (by omega)).trans q1
          have a2:w5.cell? ⟨g,p*3+2,none⟩=_:=(World.ownsRow.cellAt hrow5 (p*3+2) (by omega)).trans q2
          go_simp
          exact hK _ _ (vstep_vis (VisK.refl _ _)) rfl
        refine steps_cons (step_on3 rfl rfl fun ev _ _ _ _ _ hold _ _ _ _ hK=>?_) ?_
        · have e4:ev (.tmp 4)=.pointer (some ⟨g4,0,none⟩):=hold 4 (by kernel_rfl)
          have e5:ev (.tmp 5)=.pointer (some ⟨g5,0,none⟩):=hold 5 (by kernel_rfl)
          have e7:ev (.tmp 7)=.pointer (some ⟨g7,0,none⟩):=hold 7 (by kernel_rfl)
          go_simp
          exact hK _ _ (vstep_vis (VisK.refl _ _)) rfl
        refine steps_cons (step_on3 rfl rfl fun _ w5 hS hU _ _ _ hval _ _ _ hK=>?_) ?_
        · replace hS:VFB B (fun b=>b=g4) Wx w5:=⟨⟨hS.1.os,hS.1.tape,hS.1.output,hS.1.size,hS.1.block⟩,⟨hS.2.os,hS.2.tape,hS.2.output,hS.2.size,hS.2.block⟩⟩
          have hpre:=hU rfl
          have e29:_=_:=hval 0 29 (by kernel_rfl) rfl
          have e40:_=_:=hval 11 40 (by kernel_rfl) rfl
          have e41:_=_:=hval 12 41 (by kernel_rfl) rfl
          go_simp
          have hvw:Vis w w5:=(VisF.trans (VisF.of_vis Hv.out.1) hS.1).to_vis (fun b hb e=>by have:b=g4:=e;omega)
          obtain ⟨v5,hw5⟩:∃v5,Bk w5 gv 174 (wcells S n v5):=hvw.waveC Hwb0.out
          have hg5:=hS.1.bk Hg5.out (by decide) (by decide) (fun h=>absurd (show g5=g4 from h) (by omega))
          have hg7:=hS.1.bk Hg7.out (by decide) (by decide) (fun h=>absurd (show g7=g4 from h) (by omega))
          have hT5:TabW w5:=fun j hj=>(hS.2.cell (p:=⟨1,j,none⟩) (by show 1 < Wx.heap.size;omega) (by show ¬(1=g4∨B≤1);omega)).trans (HTr.out j hj)
          refine (LookS_any B gv (G p) g4 g5 g7 S n v5 p lv (bitsOf L lv p) x y s w w5 hw5 Htr.out.2 hvw (by omega) hpre hg5 hg7 hl9 hs Hxa.out Hxy.out hT5 hB0 hBg Htr.out.1 (by omega)).mono ?_
          rintro e w8 ⟨rfl,hf8,hk8,hb8⟩
          exact hK _ _ (vstep_at ⟨hf8,hk8.mono fun b _ h=>.inr h⟩) hb8
        exact steps_nil
      · intro ev w6 f hS hval hall
        replace hS:VFB B (fun b=>b=g4) Wx w6:=⟨⟨hS.1.os,hS.1.tape,hS.1.output,hS.1.size,hS.1.block⟩,⟨hS.2.os,hS.2.tape,hS.2.output,hS.2.size,hS.2.block⟩⟩
        obtain ⟨vJ,pJ0⟩:=hall 13 (by decide)
        have pJ:(fun _ w2=>Bk w2 g4 3 #[.int .i64 (x:Int)]) vJ w6:=pJ0
        clear pJ0 hall
        simp only [putsOf,List.foldl_cons,List.foldl_nil,Act.put,List.setIfInBounds_toArray,List.set_cons_zero,List.set_cons_succ]
        clear hval
        change wpAny Tryz.prog Region.Mode.any _ _ (0+f) (firstN 14 14) _ w6
        refine wpAny_all (by kernel_rfl) ?_
        have hg5:=hS.1.bk Hg5.out (by decide) (by decide) (fun h=>absurd (show g5=g4 from h) (by omega))
        have hg7:=hS.1.bk Hg7.out (by decide) (by decide) (fun h=>absurd (show g7=g4 from h) (by omega))
        have hvn:VB B w w6:=⟨(VisF.trans (VisF.of_vis Hv.out.1) hS.1).to_vis (fun b hb e=>by have:b=g4:=e;omega),Hv.out.2.trans (hS.2.mono fun b _ h=>by rcases h with h | h;(have:b=g4:=h;omega);exact h)⟩
        have hs6:=hS.1.size
        have c7:w6.cell? ⟨g7,0,none⟩=some (.int .i64 (lv:Int)):=(hg7.cell 0).trans rfl
        have l7:=hg7.lt
        have Hg5n:=Lib.hid hg5
        have Hg4n:=Lib.hid pJ
        have Hvn:=Lib.hid hvn
        clear hg5 hg7 hvn hS pJ
        go_wp2_with fail
        refine ⟨⟨w6.heap.size,lv,(lv:Int) - 1,by omega,rfl,rfl,Bk.new _ _ _,by rw [Hx.out];exact Hg4n.out.alloc _,Hg5n.out.alloc _,Hvn.out.alloc _,by omega⟩,?_⟩
        have n1:=((Bk.new w6 3 #[.int .i64 ((lv:Int) - 1)]).cell 0)
        rw [lvlOf_at (n1.trans rfl),lvlOf_at C7.out]
        omega
end Go.Proofs.YtipaccakmndkgaaGreatDoor
