/- The walk of the wave's Delete. Conditions: a place that is there; symbols below 257; at most 128. Pairs in any order of their numbers (PermR): the walks of perm's All, Next (the least one), Row. Conditions: at most 1000 pairs, by rising rows. -/
import Derived.Test.YtipaccakmndkgaaGreatPwa31
import Derived.Test.YtipaccakmndkgaaGreatPwa21
import Derived.BigQuiet
namespace Go.Proofs.YtipaccakmndkgaaGreat
open Go.RowKit
set_option linter.unusedVariables false
set_option linter.unusedSimpArgs false
set_option maxRecDepth 100000 in
set_option maxHeartbeats 4000000 in
theorem WaveDelete_any (B gv:Nat) (own:Nat→Nat) (L:List Nat) (k s:Nat) (w:World) (h:WaveE w B own gv L) (hks:L[k]?=some s) (hL:∀x∈L,x < 257) (hn:L.length≤128):
 Calls Tryz.prog 94 #[.pointer (some ⟨gv,0,none⟩),.int .i64 (k:Int)] w fun e w'=>e=.returned (.tuple #[.int .i64 (s:Int),.int .i64 0])∧∃own',WaveE w' B own' gv (delN L k)∧(∀b,b < w.heap.size→own' b=own b)∧(∀b,w.heap.size≤b→own' b≠1)∧Keep (fun b=>b=gv∨16≤own b) w w':=by
 obtain ⟨hk,hkx⟩:=List.getElem?_eq_some_iff.1 hks
 have hs:s < 257:=by rw [←hkx];exact hL _ (List.getElem_mem hk)
 have h90:=atLv_zero L k s (Nat.le_of_lt hk) hL hs
 have p0:=path_zero s hs
 have p9:=path_nine s
 have hat:∀lv,(bitsOf L lv (pathN s lv))[atLv L k s lv]?=some (bitB s lv):=fun lv=>by
  have:=bits_at L k lv hk
  rw [hkx] at this
  exact this
 obtain ⟨S,v,h⟩:=h
 obtain ⟨n,hnn⟩:∃n,L.length=n:=⟨_,rfl⟩
 rw [hnn] at h hk hn
 have hins:(delN L k).length+1=n:=by rw [delN_len _ (by omega),hnn]
 obtain ⟨cc,c9,c10⟩:=h.cells
 have f10:=h.blk.frozen 10
 have hlt:=h.blk.lt
 have hB:B≤w.heap.size:=Nat.le_trans h.base.1 (Nat.le_of_lt hlt)
 obtain ⟨v1,h1⟩:=h.vis ((VisK.alloc (VB.set_wave h.blk h.base.1 0) (.cells #[.int .i64 (k:Int)] 3)).1)
 have hgv_gk:gv≠w.heap.size:=by omega
 have hgk:=Bk.new (w.setCell ⟨gv,10,none⟩ (.int .i64 0)) 3 #[.int .i64 (k:Int)]
 rw [show (w.setCell ⟨gv,10,none⟩ (.int .i64 0)).heap.size=w.heap.size by simp [World.setCell]] at hgk
 have hk1:Keep (fun b=>b=gv∨16≤own b) w ((w.setCell ⟨gv,10,none⟩ (.int .i64 0)).alloc (.cells #[.int .i64 (k:Int)] 3)):=(Keep.setCell (F:=fun b=>b=gv∨16≤own b) (Keep.refl _ _) (p:=⟨gv,10,none⟩) (.inl (.inl rfl)) _).alloc _
 obtain ⟨W,hW⟩:∃W,(w.setCell ⟨gv,10,none⟩ (.int .i64 0)).alloc (.cells #[.int .i64 (k:Int)] 3)=W:=⟨_,rfl⟩
 rw [hW] at h1 hgk hk1
 obtain ⟨cc1,c91,c101⟩:=h1.cells
 have c0:∀q,(W.drewN q).cell? ⟨gv,0,none⟩=some (S 0):=fun q=>cc1 0 (by omega)
 have c1:∀q,(W.drewN q).cell? ⟨gv,1,none⟩=some (S 1):=fun q=>cc1 1 (by omega)
 have c2:∀q,(W.drewN q).cell? ⟨gv,2,none⟩=some (S 2):=fun q=>cc1 2 (by omega)
 have c3:∀q,(W.drewN q).cell? ⟨gv,3,none⟩=some (S 3):=fun q=>cc1 3 (by omega)
 have c4:∀q,(W.drewN q).cell? ⟨gv,4,none⟩=some (S 4):=fun q=>cc1 4 (by omega)
 have c5:∀q,(W.drewN q).cell? ⟨gv,5,none⟩=some (S 5):=fun q=>cc1 5 (by omega)
 have c6:∀q,(W.drewN q).cell? ⟨gv,6,none⟩=some (S 6):=fun q=>cc1 6 (by omega)
 have c7:∀q,(W.drewN q).cell? ⟨gv,7,none⟩=some (S 7):=fun q=>cc1 7 (by omega)
 have c8:∀q,(W.drewN q).cell? ⟨gv,8,none⟩=some (S 8):=fun q=>cc1 8 (by omega)
 have cW9:W.cell? ⟨gv,9,none⟩=some (.int .i64 (n:Int)):=c91
 have cWk:W.cell? ⟨w.heap.size,0,none⟩=some (.int .i64 (k:Int)):=(hgk.cell 0).trans rfl
 have hk0:decide ((k:Int) < 0)=false:=by simp
 have hkn:¬n≤k:=by omega
 have hWgv:=h1.blk.lt
 have hWgk:=hgk.lt
 have H1:=Lib.hid h1
 have Hgk:=Lib.hid hgk
 have Hk1:=Lib.hid hk1
 have H0:=Lib.hid h90
 have HL:=Lib.hid hL
 have HN:=Lib.hid hnn
 have Hins:=Lib.hid hins
 have HW:=Lib.hid hW
 have Hkl:=Lib.hid hk
 have Hbase:=Lib.hid h.base
 have hbnd0:=Lib.hid h.bnd
 have P0:=Lib.hid p0
 have P9:=Lib.hid p9
 have Hat:=Lib.hid hat
 have Hks:=Lib.hid hks
 have cW9q:∀q,(W.drewN q).cell? ⟨gv,9,none⟩=some (.int .i64 (n:Int)):=fun q=>cW9
 have cWkq:∀q,(W.drewN q).cell? ⟨w.heap.size,0,none⟩=some (.int .i64 (k:Int)):=fun q=>cWk
 clear h h1 hgk hk1 h90 hL hnn hins hW cc cc1 c91 c101 hk p0 p9 hat hks hkx
 go_enter Tryz.func94,Tryz.ntmps94
 go_wp2_with fail
 rw [HW.out]
 clear c10 f10 c9
 go_quiet (fail)
 clear cW9 cWk hk0
 go_wp2_with fail
 go_loopw [6,31] (fun z i wr=>∃(lv:Nat) (ow:Nat→Nat) (v3:Int),lv≤9∧i=.int .i64 lv∧z=.int .i64 ((pathN s lv:Nat):Int)∧WaveS wr B ow gv S (fun l=>if l < lv then delN L k else L) (n:Int) v3∧Bk wr w.heap.size 3 #[.int .i64 ((atLv L k s lv:Nat):Int)]∧(∀b,b < w.heap.size→ow b=own b)∧(∀b,w.heap.size≤b→ow b≠1)∧ow w.heap.size=0∧Keep (fun b=>b=gv∨16≤own b) w wr) (fun _ i _=>9 -(intOf i).toNat)
 case atStart=>
  refine ⟨0,own,v1,by omega,rfl,by rw [P0.out];rfl,?_,?_,fun _ _=>rfl,fun b hb e=>?_,?_,?_⟩
  · obtain ⟨v9,h9⟩:=H1.out.vis (Vis.of_below (below_drewN (Below.refl _ _) _))
    have:v9=v1:=by
        have a1:=h9.cells.2.2
        have a2:=H1.out.cells.2.2
        have a3:=a2.symm.trans a1
        injection a3 with a3
        injection a3 with _ a3
        exact a3.symm
    subst this
    simpa using h9
  · rw [H0.out]
    exact Hgk.out.drewN _
  · have:=(hbnd0.out b (by omega)).2
    omega
  · rcases Nat.eq_zero_or_pos (own w.heap.size) with e | e
    · exact e
    · have:=(hbnd0.out w.heap.size (by omega)).2
      omega
  · exact Hk1.out.drewN _
 case round=>
  obtain ⟨lv,ow,v3,hlv,rfl,rfl,hws,hbk,hown1,hown2,hown3,hkp⟩:=hrel
  by_cases hl9:lv < 9
  · have hix:=ix9 S lv hl9
    obtain ⟨G,hown,hoz,htr⟩:=hws.rows lv hl9
    obtain ⟨m,hm⟩:∃m,2 ^ lv=m:=⟨_,rfl⟩
    obtain ⟨p,hp⟩:∃p,pathN s lv=p:=⟨_,rfl⟩
    have hpm:p < m:=by rw [←hm,←hp];exact path_lt s lv hs (by omega)
    have hpp:p < 2 ^ lv:=by rw [hm];exact hpm
    have hG0:=Lib.hid hown
    rw [hm] at hown htr
    obtain ⟨g,cap,hSl,hnc,hgl⟩:=World.ownsRow.form hown (by omega)
    rw [hSl] at hix hown
    obtain ⟨x,hx⟩:∃x,atLv L k s lv=x:=⟨_,rfl⟩
    obtain ⟨y,hy⟩:∃y,atLv L k s (lv+1)=y:=⟨_,rfl⟩
    obtain ⟨b,hbb⟩:∃b,bitB s lv=b:=⟨_,rfl⟩
    have hxy:=atLv_step L k s lv hl9
    have hxa:=Hat.out lv
    have hbi:=bitsOf_del lv Hks.out
    have hbn:=fun q=>bitsOf_del_ne lv q Hks.out
    have hps:=path_step s lv hl9
    rw [hp,hx,hbb,hy] at hxy
    rw [hp,hx,hbb] at hxa
    rw [hp,hx] at hbi
    rw [hp] at hbn
    rw [hp,hbb] at hps
    have hxl:x < (bitsOf L lv p).length:=(List.getElem?_eq_some_iff.1 hxa).1
    have hxd:(bitsOf L lv p).getD x false=b:=by rw [List.getD_eq_getElem?_getD,hxa];rfl
    rw [hx] at hbk
    rw [hp]
    obtain ⟨r,hr⟩:∃r,pathN s (lv+1)=r:=⟨_,rfl⟩
    rw [hr] at hps
    have hp1000:p≤1000:=by
        have:=pow9 hl9 hpp
        omega
    have htp:TreeE wr (fun b=>ow b=TC lv p) (G p) (bitsOf L lv p):=by
        have:=htr p hpm
        rw [if_neg (by omega)] at this
        exact this
    have hpI:(p:Int) < (m:Int):=by omega
    have Hown:=Lib.hid hown
    have Htp:=Lib.hid htp
    have Hxy:=Lib.hid hxy
    have Hxl:=Lib.hid hxl
    have Hbi:=Lib.hid hbi
    have Hbn:=Lib.hid hbn
    have Hxd:=Lib.hid hxd
    have Hps:=Lib.hid hps
    have Hr:=Lib.hid hr
    have Hp:=Lib.hid hp
    have Hbb:=Lib.hid hbb
    have Hy:=Lib.hid hy
    have Hws:=Lib.hid hws
    have Hbk:=Lib.hid hbk
    have Hown1:=Lib.hid hown1
    have Hown2:=Lib.hid hown2
    have Hown3:=Lib.hid hown3
    have Hkp:=Lib.hid hkp
    clear htr hSl hm hp hx hy hbb hxy hxl hxa hbi hbn hxd hps hr hws hbk hown1 hown2 hown3 hkp htp hoz
    obtain ⟨q0,q1,q2⟩:=shelfL_get G lv m p hpm
    have a0:wr.cell? ⟨g,p*3,none⟩=_:=(World.ownsRow.cellAt hown (p*3) (by omega)).trans q0
    have a1:wr.cell? ⟨g,p*3+1,none⟩=_:=(World.ownsRow.cellAt hown (p*3+1) (by omega)).trans q1
    have a2:wr.cell? ⟨g,p*3+2,none⟩=_:=(World.ownsRow.cellAt hown (p*3+2) (by omega)).trans q2
    have kk:wr.cell? ⟨w.heap.size,0,none⟩=some (.int .i64 (x:Int)):=(Hbk.out.cell 0).trans rfl
    have hgkr:=Hbk.out.lt
    clear q0 q1 q2 hown
    go_wp2_with fail
    obtain ⟨W7,hW7⟩:∃W7,(wr.alloc (.cells #[.pointer (some ⟨G p,0,none⟩),.int .i64 (lv:Int),.int .i64 (p:Int)] 84)).alloc (.cells #[.bool false] 4)=W7:=⟨_,rfl⟩
    have hbel7:Below wr.heap.size wr W7:=by rw [←hW7];exact ((Below.refl _ _).alloc (Nat.le_refl _) _).alloc (by simp) _
    have hb97:Bk W7 wr.heap.size 84 #[.pointer (some ⟨G p,0,none⟩),.int .i64 (lv:Int),.int .i64 (p:Int)]:=by rw [←hW7];exact (Bk.new wr _ _).alloc _
    have hb107:Bk W7 (wr.heap.size+1) 4 #[.bool false]:=by
        rw [←hW7]
        have h:=Bk.new (wr.alloc (.cells #[.pointer (some ⟨G p,0,none⟩),.int .i64 (lv:Int),.int .i64 (p:Int)] 84)) 4 #[.bool false]
        rw [World.size_alloc] at h
        exact h
    rw [hW7]
    have Hb97:=Lib.hid hb97
    have Hb107:=Lib.hid hb107
    have Hbel7:=Lib.hid hbel7
    clear hb97 hb107 hbel7 hW7 a0 a1 a2 kk
    obtain ⟨v7,h7⟩:=Hws.out.vis (Vis.of_below Hbel7.out)
    have hgk7:=Hbk.out.below Hbel7.out Hbk.out.lt
    have ht7:=Htp.out.below Hbel7.out
    have hgv0:=Hws.out.base.2
    have hbndr:=Hws.out.bnd
    have hsz7:=Hbel7.out.size
    have hgvr:=Hws.out.blk.lt
    have H7:=Lib.hid h7
    have Hgk7:=Lib.hid hgk7
    have Ht7:=Lib.hid ht7
    have Hgv0:=Lib.hid hgv0
    have Hbndr:=Lib.hid hbndr
    clear h7 hgk7 ht7 hgv0 hbndr
    refine (WRank1_any gv (G p) S n v7 lv p (bitsOf L lv p) x true W7 H7.out.blk Ht7.out.at (Nat.le_of_lt Hxl.out)).mono ?_
    rintro e W8 ⟨rfl,hv8⟩
    obtain ⟨o1,ho1⟩:∃o1,((bitsOf L lv p).take x).count true=o1:=⟨_,rfl⟩
    have ho1y:(if b then o1 else x - o1)=y:=by
        have h1:=count_both ((bitsOf L lv p).take x)
        have h2:((bitsOf L lv p).take x).length=x:=by rw [List.length_take];have:=Hxl.out;omega
        have h3:=Hxy.out
        cases b
        · simp;omega
        · simp;omega
    have ho1x:o1≤x:=by
        rw [←ho1]
        exact Nat.le_trans List.count_le_length (by rw [List.length_take];omega)
    rw [ho1]
    obtain ⟨v8,h8⟩:=H7.out.vis hv8.1
    have ht8:=Ht7.out.vis hv8.1
    have hgk8:=hv8.1.bk Hgk7.out (by decide) (by decide)
    have hb98:=hv8.1.bk Hb97.out (by decide) (by decide)
    have hb108:=hv8.1.bk Hb107.out (by decide) (by decide)
    have hsz8:=hv8.1.size
    have x0:W8.cell? ⟨wr.heap.size,0,none⟩=some (.pointer (some ⟨G p,0,none⟩)):=(hb98.cell 0).trans rfl
    have x1:W8.cell? ⟨wr.heap.size,1,none⟩=some (.int .i64 (lv:Int)):=(hb98.cell 1).trans rfl
    have x2:W8.cell? ⟨wr.heap.size,2,none⟩=some (.int .i64 (p:Int)):=(hb98.cell 2).trans rfl
    have hg98:=hb98.lt
    have hg108:=hb108.lt
    have hgk8l:=hgk8.lt
    have hmf:∀(fn:Fn) (first cap:Array Value) (w:World),(Instr.makeFunc fn first cap).run Tryz.prog w=.ok (.func fn first cap) w:=fun _ _ _ _=>rfl
    have Ho1y:=Lib.hid ho1y
    have H8:=Lib.hid h8
    have Ht8:=Lib.hid ht8
    have Hgk8:=Lib.hid hgk8
    have Hb98:=Lib.hid hb98
    have Hb108:=Lib.hid hb108
    have Hv8:=Lib.hid hv8
    clear ho1 ho1y h8 ht8 hgk8 hb98 hb108 hv8
    go_wp2_with fail
    have nF0:∀y,wr.heap.size≤y→¬(ow y=TC lv p):=fun y hy f=>by
        have:=(Hbndr.out y (by rw [f];unfold TC;omega)).2
        omega
    refine (LookD_any gv (G p) w.heap.size (wr.heap.size+1) S n v8 lv p _ (fun b=>ow b=TC lv p) (bitsOf L lv p) x W8 H8.out.blk Ht8.out (fun f=>by rw [Hgv0.out] at f;unfold TC at f;omega) (nF0 _ (by omega)) (fun y hy=>(H8.out.bnd y (by rw [hy];unfold TC;omega)).2) Hgk8.out Hb108.out (fun y hy e=>nF0 y (by omega) hy) Hxl.out).mono ?_
    rintro e W9 ⟨rfl,ht9,hk9,hbx9,v9,hbk9⟩
    rw [Hxd.out] at hbx9
    have hed:=H8.out.edit (lv:=lv) (p:=p) (gx:=wr.heap.size+1) hl9 hpp (own_same (own_below hG0.out Hbel7.out) fun b cs _ hc=>Hv8.out.1.bk hc (by decide) (by decide)) (by
        rcases Nat.eq_zero_or_pos (ow (wr.heap.size+1)) with e | e
        · omega
        · have:=(Hbndr.out _ (by omega:ow (wr.heap.size+1)≠0)).2
          omega) (fun cs hc=>absurd (bk_inj hc Hb108.out).1 (by decide)) ht9 hk9 hbk9 (L':=delN L k) Hbi.out (fun q hq=>by rw [if_neg (Nat.lt_irrefl _)];exact Hbn.out q (fun e=>hq e.symm))
    have hfun:(fun l=>if l=lv then delN L k else if l < lv then delN L k else L)=fun l=>if l < lv+1 then delN L k else L:=by
        funext l
        by_cases c1:l=lv
        · rw [if_pos c1,if_pos (by omega)]
        · by_cases c2:l < lv
          · rw [if_neg c1,if_pos c2,if_pos (by omega)]
          · rw [if_neg c1,if_neg c2,if_neg (by omega)]
    rw [hfun] at hed
    have hgk9:=hk9.bk Hgk8.out (fun f=>by
        rcases f with f | f | f
        · have f':ow w.heap.size=TC lv p:=f
          rw [Hown3.out] at f'
          unfold TC at f'
          omega
        · exact hgv_gk f.symm
        · omega)
    have hb99:=hk9.bk Hb98.out (fun f=>by
        rcases f with f | f | f
        · exact nF0 _ (Nat.le_refl _) f
        · omega
        · omega)
    have y0:W9.cell? ⟨wr.heap.size,0,none⟩=some (.pointer (some ⟨G p,0,none⟩)):=(hb99.cell 0).trans rfl
    have y1:W9.cell? ⟨wr.heap.size,1,none⟩=some (.int .i64 (lv:Int)):=(hb99.cell 1).trans rfl
    have y2:W9.cell? ⟨wr.heap.size,2,none⟩=some (.int .i64 (p:Int)):=(hb99.cell 2).trans rfl
    have yb:W9.cell? ⟨wr.heap.size+1,0,none⟩=some (.bool b):=(hbx9.cell 0).trans rfl
    have hg99:=hb99.lt
    have hg109:=hbx9.lt
    have hGc:ow (G p)=TC lv p:=Htp.out.1
    have Hed:=Lib.hid hed
    have Hk9:=Lib.hid hk9
    have Hgk9:=Lib.hid hgk9
    have Hbx9:=Lib.hid hbx9
    have HGc:=Lib.hid hGc
    have HnF0:=Lib.hid nF0
    clear ht9 hk9 hbk9 hed hfun hgk9 hb99 hbx9 x0 x1 x2 hmf hGc nF0
    go_wp2_with fail
    refine (Next_any (G p) lv p b W9 hp1000).mono ?_
    rintro e W10 ⟨rfl,hb10⟩
    rw [←Hps.out]
    obtain ⟨v10,h10⟩:=Hed.out.vis (Vis.of_below hb10)
    have hgk10:=Hgk9.out.below hb10 Hgk9.out.lt
    have hbx10:=Hbx9.out.below hb10 Hbx9.out.lt
    have zb:W10.cell? ⟨wr.heap.size+1,0,none⟩=some (.bool b):=(hbx10.cell 0).trans rfl
    have zk:W10.cell? ⟨w.heap.size,0,none⟩=some (.int .i64 (x:Int)):=(hgk10.cell 0).trans rfl
    have fk:=hgk10.frozen 0
    have hgk10l:=hgk10.lt
    have hbx10l:=hbx10.lt
    have hgk11:=hgk10.set 0 (.int .i64 (y:Int))
    have hrc0:recol ow W8.heap.size W9.heap.size (TC lv p) w.heap.size=0:=by
        unfold recol
        rw [if_pos (by omega)]
        exact Hown3.out
    have h11:=h10.far (w':=W10.setCell ⟨w.heap.size,0,none⟩ (.int .i64 (y:Int))) (H:=fun b=>b=w.heap.size) (Keep.setCell (F:=fun b=>b=w.heap.size) (Keep.refl _ _) (p:=⟨w.heap.size,0,none⟩) (.inl rfl) _) (fun b e=>by rw [show b=w.heap.size from e,hrc0];omega)
    have hsw:=Hkp.out.size
    have hkF:Keep (fun b=>b=gv∨16≤own b) w (W10.setCell ⟨w.heap.size,0,none⟩ (.int .i64 (y:Int))):=Keep.setCell (F:=fun b=>b=gv∨16≤own b) ((((Hkp.out.trans (Keep.of_below Hbel7.out)).trans' Hv8.out.2 (fun b hb f=>by
        rcases f with f | f
        · exact .inl f
        · right
          rw [←Hown1.out b hb,f,HGc.out]
          unfold TC
          omega)).trans' Hk9.out (fun b hb f=>by
        rcases f with f | f | f
        · right
          have f':ow b=TC lv p:=f
          rw [←Hown1.out b hb,f']
          unfold TC
          omega
        · exact .inl f
        · omega)).trans (Keep.of_below hb10)) (p:=⟨w.heap.size,0,none⟩) (.inr (Nat.le_refl _)) _
    have H11:=Lib.hid h11
    have Hgk11:=Lib.hid hgk11
    have HkF:=Lib.hid hkF
    have Hrc0:=Lib.hid hrc0
    clear hb10 h10 hgk10 hbx10 hgk11 h11 hkF hrc0 y0 y1 y2 yb
    have hrel:∃(lv':Nat) (ow:Nat→Nat) (v3:Int),lv'≤9∧Value.int .i64 ((lv+1:Nat):Int)=.int .i64 lv'∧Value.int .i64 (r:Int)=.int .i64 ((pathN s lv':Nat):Int)∧WaveS (W10.setCell ⟨w.heap.size,0,none⟩ (.int .i64 (y:Int))) B ow gv S (fun l=>if l < lv' then delN L k else L) (n:Int) v3∧Bk (W10.setCell ⟨w.heap.size,0,none⟩ (.int .i64 (y:Int))) w.heap.size 3 #[.int .i64 ((atLv L k s lv':Nat):Int)]∧(∀b,b < w.heap.size→ow b=own b)∧(∀b,w.heap.size≤b→ow b≠1)∧ow w.heap.size=0∧Keep (fun b=>b=gv∨16≤own b) w (W10.setCell ⟨w.heap.size,0,none⟩ (.int .i64 (y:Int))):=by
        refine ⟨lv+1,recol ow W8.heap.size W9.heap.size (TC lv p),v10,by omega,rfl,by rw [Hr.out],H11.out,?_,fun b hb=>?_,fun b hb=>?_,Hrc0.out,HkF.out⟩
        · rw [Hy.out]
          exact Hgk11.out
        · unfold recol
          rw [if_pos (by omega)]
          exact Hown1.out b hb
        · unfold recol
          by_cases c1:b < W8.heap.size
          · rw [if_pos c1]
            exact Hown2.out b hb
          · rw [if_neg c1]
            unfold TC
            split <;> omega
    have Hrel:=Lib.hid hrel
    clear hrel
    cases b with
    | true=>
      obtain rfl:o1=y:=by have:=Ho1y.out;simpa using this
      go_wp2_with fail
      go_roundw
      case rel=>exact Hrel.out
      case measure=>simp [intOf];omega
    | false=>
      have hoy:x - o1=y:=by have:=Ho1y.out;simpa using this
      have e9:IntKind.i64.wrap ((x:Int) -(o1:Int))=(y:Int):=by
       have h2:=Hxl.out
       have h3:(bitsOf L lv p).length≤L.length:=by rw [bits_len];exact List.countP_le_length
       have h4:=HN.out
       rw [IntKind.wrap_i64]
       omega
      go_wp2_with fail
      go_roundw
      case rel=>exact Hrel.out
      case measure=>simp [intOf];omega
  · obtain rfl:lv=9:=by omega
    have hS9:WaveS wr B ow gv S (fun _=>delN L k) (n:Int) v3:=⟨hws.blk,hws.base,fun l hl=>by have:=hws.rows l hl;simpa [hl] using this,hws.bnd⟩
    obtain ⟨_,x9,_⟩:=hS9.cells
    have f9:=hS9.blk.frozen 9
    have hgvr:=hS9.blk.lt
    have hS10:=hS9.set_n ((n:Int) - 1)
    have e1:IntKind.i64.wrap ((n:Int) - 1)=(n:Int) - 1:=by rw [IntKind.wrap_i64];omega
    have hkf:Keep (fun b=>b=gv∨16≤own b) w (wr.setCell ⟨gv,9,none⟩ (.int .i64 ((n:Int) - 1))):=Keep.setCell (F:=fun b=>b=gv∨16≤own b) hkp (p:=⟨gv,9,none⟩) (.inl (.inl rfl)) _
    rw [P9.out]
    have HS10:=Lib.hid hS10
    have Hkf:=Lib.hid hkf
    have Hown1:=Lib.hid hown1
    have Hown2:=Lib.hid hown2
    clear hws hS9 hS10 hkp hkf hbk hown1 hown2 hown3
    go_wp2_with fail
    go_ret2
    refine ⟨rfl,ow,⟨S,v3,?_⟩,Hown1.out,Hown2.out,Hkf.out⟩
    rw [show (((delN L k).length:Nat):Int)=(n:Int) - 1 by have:=Hins.out;omega]
    exact HS10.out
end Go.Proofs.YtipaccakmndkgaaGreat
namespace Go.Proofs.YtipaccakmndkgaaGreat
open Go.RowKit Go.Shelf
set_option linter.unusedVariables false
set_option linter.unusedSimpArgs false
def PermR (w:World) (gp R P:Nat) (pr:List (Nat×Nat)):Prop:=
 ∃B ga vl vo vt vf ks C tk fr,PermAt w B gp ga vl vo vt vf R P ks C tk fr∧ks.Pairwise (fun a b=>rowK C a < rowK C b)∧C.length≤1000∧ks.length≤1000∧pr=ks.map fun k=>(rowK C k,posK C k)
theorem PermR.le {w:World} {gp R P:Nat} {pr:List (Nat×Nat)} (h:PermR w gp R P pr):pr.length≤1000:=by
 obtain ⟨B,ga,vl,vo,vt,vf,ks,C,tk,fr,h1,h2,h3,h4,rfl⟩:=h
 rw [List.length_map]
 exact h4
theorem PermR.vis {w w':World} {gp R P:Nat} {pr:List (Nat×Nat)} (h:PermR w gp R P pr) (k:Vis w w'):PermR w' gp R P pr:=by
 obtain ⟨B,ga,vl,vo,vt,vf,ks,C,tk,fr,h1,h2⟩:=h
 exact ⟨B,ga,vl,vo,vt,vf,ks,C,tk,fr,h1.vis k,h2⟩
theorem PermR.lt {w:World} {gp R P:Nat} {pr:List (Nat×Nat)} (h:PermR w gp R P pr):gp < w.heap.size:=by
 obtain ⟨B,ga,vl,vo,vt,vf,ks,C,tk,fr,h1,h2⟩:=h
 exact h1.blk.lt
set_option maxRecDepth 100000 in
set_option maxHeartbeats 2000000 in
theorem PermAllG_any (B gp ga:Nat) (vl vo vt vf:Value) (R P:Nat) (ks:List Nat) (C:List (Nat×Nat)) (tk:List Bool) (fr:List Nat) (w:World) (h:PermAt w B gp ga vl vo vt vf R P ks C tk fr) (hC:C.length≤1000) (hK:ks.length≤1000):
 Calls Tryz.prog 85 #[.pointer (some ⟨gp,0,none⟩)] w (PAllPost w (ks.map fun k=>(rowK C k,posK C k))):=by
 obtain ⟨i0,hi0,hz0,hz1,hz2⟩:=info_parts pair_info
 have ho:=h.orow
 obtain ⟨A2,c2,rfl,_,_⟩:=own_shape ho
 obtain ⟨A1,c1,rfl,_,_⟩:=own_shape h.lrow
 have c1':w.cell? ⟨gp,1,none⟩=some (.slice A1 C.length c1):=(h.blk.cell 1).trans rfl
 have c2':w.cell? ⟨gp,2,none⟩=some (.slice A2 ks.length c2):=(h.blk.cell 2).trans rfl
 have hgp:=h.blk.lt
 obtain ⟨N,hN⟩:∃n,C.length=n:=⟨_,rfl⟩
 obtain ⟨n,hn⟩:∃n,ks.length=n:=⟨_,rfl⟩
 obtain ⟨pr,hpr⟩:∃pr,(ks.map fun k=>(rowK C k,posK C k))=pr:=⟨_,rfl⟩
 have hprl:pr.length=n:=by rw [←hpr,List.length_map,hn]
 rw [hpr]
 have H:=Lib.hid h
 have Hn:=Lib.hid hn
 have HN:=Lib.hid hN
 have Hpr:=Lib.hid hpr
 have Hprl:=Lib.hid hprl
 rw [hN] at c1' hC
 rw [hn] at c2' hK
 clear h ho hn hN hpr hprl
 unfold PAllPost
 go_enter Tryz.func85,Tryz.ntmps85
 go_wp2_with fail
 go_loopw [3,13] (fun v i wr=>∃k:Nat,k≤n∧i=.int .i64 (k:Int)∧wr.ownsRow w.heap.size 70 2 v k (pairsL (pr.take k))∧Below w.heap.size w wr) (fun _ i _=>n -(intOf i).toNat)
 case atStart=>exact ⟨0,Nat.zero_le _,rfl,World.ownsRow_nil _ _ _ _,Below.refl _ _⟩
 case round=>
  obtain ⟨k,hk,rfl,hown,hb⟩:=hrel
  have hsz:=hb.size
  by_cases hlt:k < n
  · have hkn:k < ks.length:=by rw [Hn.out];exact hlt
    obtain ⟨j,hj⟩:∃j,ks[k]?=some j:=⟨_,List.getElem?_eq_getElem hkn⟩
    have hjC:j < C.length:=H.out.lt j (List.mem_of_getElem? hj)
    have hjN:j < N:=by rw [←HN.out];exact hjC
    have hp:=H.out.below hb
    have ho2:=hp.orow
    obtain ⟨g2,k2,e2,_,hg2⟩:=World.ownsRow.form ho2 (by omega)
    obtain ⟨g1,k1,e1,_,hg1⟩:=World.ownsRow.form hp.lrow (by omega)
    injection e2 with e2a _ _
    injection e1 with e1a _ _
    subst e2a
    subst e1a
    have d2:wr.cell? ⟨g2,k,none⟩=some (.int .i64 (j:Int)):=(World.ownsRow.cellAt ho2 k (by omega)).trans (by rw [List.getElem?_map,hj];rfl)
    obtain ⟨p0,p1⟩:=pairsL_get C j hjC
    have d0:wr.cell? ⟨g1,j*2,none⟩=_:=(World.ownsRow.cellAt hp.lrow (j*2) (by omega)).trans p0
    have d1:wr.cell? ⟨g1,j*2+1,none⟩=_:=(World.ownsRow.cellAt hp.lrow (j*2+1) (by omega)).trans p1
    have d3:wr.cell? ⟨gp,1,none⟩=some (.slice (some ⟨g1,0,none⟩) N c1):=(hb.cell (p:=⟨gp,1,none⟩) hgp).trans c1'
    obtain ⟨a1,ha1⟩:∃x,rowK C j=x:=⟨_,rfl⟩
    obtain ⟨a2,ha2⟩:∃x,posK C j=x:=⟨_,rfl⟩
    have hnext:pairsL (pr.take (k+1))=pairsL (pr.take k)++ [.int .i64 (a1:Int),.int .i64 (a2:Int)]:=by
        have hc:pr[k]?=some (a1,a2):=by rw [←Hpr.out,List.getElem?_map,hj,←ha1,←ha2];rfl
        rw [List.take_add_one,hc]
        show pairsL (pr.take k++ [(a1,a2)])=_
        rw [pairsL_snoc]
        rfl
    rw [ha1] at d0
    rw [ha2] at d1
    have Hown:=Lib.hid hown
    have Hb:=Lib.hid hb
    have Hnext:=Lib.hid hnext
    clear hown hb hnext hp ho2 p0 p1 c1' c2' ha1 ha2 hj hjC hkn
    go_wp2_with (at_builtin;refine wpList_push _ rfl (.tmp 17) (.tmp 25) _ rfl w.heap.size 70 i0 (.agg #[.int .i64 0,.int .i64 0]) 2 16 Tryz.underlying64 hi0 hz0 hz1 hz2 rfl (by decide) _ k _ rfl Hown.out rfl rfl (by simp [Value.oneCell']) (by unfold maxLen;omega) (by omega) hsz ?_;intro v5 w5 hown5 hg5 hs5 hat5)
    have hb5:=below_grown Hb.out Hown.out hg5 hsz
    have Hb5:=Lib.hid hb5
    clear hb5 hg5 hat5
    exact ⟨⟨v5,_,_,⟨k+1,by omega,by go_num,by rw [Hnext.out];exact hown5,Hb5.out⟩,rfl,rfl,rfl⟩,by simp [intOf];omega⟩
  · obtain rfl:k=n:=by omega
    have htk:pr.take k=pr:=List.take_of_length_le (by rw [Hprl.out];exact Nat.le_refl _)
    rw [htk] at hown
    obtain ⟨A9,c9,rfl,hm9⟩:=made_of_own hown
    have Hm9:=Lib.hid hm9
    have Hb:=Lib.hid hb
    clear hown hm9 hb
    go_wp2_with fail
    go_ret
    exact ⟨A9,c9,by rw [Hprl.out];rfl,by rw [Hprl.out];exact Hm9.out,Hb.out⟩
theorem PermAllR_any (gp R P:Nat) (pr:List (Nat×Nat)) (w:World) (h:PermR w gp R P pr):
 Calls Tryz.prog 85 #[.pointer (some ⟨gp,0,none⟩)] w (PAllPost w pr):=by
 obtain ⟨B,ga,vl,vo,vt,vf,ks,C,tk,fr,h1,h2,h3,h4,rfl⟩:=h
 exact PermAllG_any B gp ga vl vo vt vf R P ks C tk fr w h1 h3 h4
def LeastOk (pr:List (Nat×Nat)) (pos:Nat) (z:Int):Prop:=(z=-1∧∀x∈pr,x.2 < pos)∨∃x∈pr,z=((x.2:Nat):Int)∧pos≤x.2∧∀y∈pr,pos≤y.2→x.2≤y.2
theorem least_snoc {l:List (Nat×Nat)} {pos:Nat} {z:Int} (h:LeastOk l pos z) (a1 a2:Nat):LeastOk (l++(some (a1,a2)).toList) pos (if pos≤a2∧(z < 0∨(a2:Int) < z) then (a2:Int) else z):=by
 have hmem:∀y:Nat×Nat,y∈l++(some (a1,a2)).toList↔y∈l∨y=(a1,a2):=fun y=>by simp
 rcases h with ⟨rfl,h1⟩|⟨x,hx,rfl,h1,h2⟩
 · by_cases c:pos≤a2
   · rw [if_pos ⟨c,.inl (by omega)⟩]
     refine .inr ⟨(a1,a2),(hmem _).2 (.inr rfl),rfl,c,fun y hy hp=>?_⟩
     rcases (hmem y).1 hy with hy | rfl
     · have:=h1 y hy
       omega
     · exact Nat.le_refl _
   · rw [if_neg (fun e=>c e.1)]
     refine .inl ⟨rfl,fun y hy=>?_⟩
     rcases (hmem y).1 hy with hy | rfl
     · exact h1 y hy
     · show a2 < pos
       omega
 · by_cases c:pos≤a2∧((x.2:Int) < 0∨(a2:Int) < (x.2:Int))
   · rw [if_pos c]
     have c2:a2 < x.2:=by omega
     refine .inr ⟨(a1,a2),(hmem _).2 (.inr rfl),rfl,c.1,fun y hy hp=>?_⟩
     rcases (hmem y).1 hy with hy | rfl
     · have:=h2 y hy hp
       show a2≤_
       omega
     · exact Nat.le_refl _
   · rw [if_neg c]
     refine .inr ⟨x,(hmem _).2 (.inl hx),rfl,h1,fun y hy hp=>?_⟩
     rcases (hmem y).1 hy with hy | rfl
     · exact h2 y hy hp
     · have hp':pos≤a2:=hp
       show x.2≤a2
       omega
def LeastPost (w:World) (C:List (Nat×Nat)) (pos:Nat) (e:Ending) (w':World):Prop:=∃z,e=.returned (.int .i64 z)∧LeastOk C pos z∧Below w.heap.size w w'
set_option maxRecDepth 100000 in
set_option maxHeartbeats 2000000 in
theorem PermNextG_any (gp R P:Nat) (C:List (Nat×Nat)) (pos:Nat) (w:World) (h:PermR w gp R P C):
 Calls Tryz.prog 50 #[.pointer (some ⟨gp,0,none⟩),.int .i64 (pos:Int)] w (LeastPost w C pos):=by
 have hall:=PermAllR_any gp R P C w h
 have hC:=h.le
 unfold PAllPost at hall
 obtain ⟨n,hn⟩:∃n,C.length=n:=⟨_,rfl⟩
 rw [hn] at hall hC
 have Hn:=Lib.hid hn
 clear h hn
 unfold LeastPost
 go_enter Tryz.func50,Tryz.ntmps50
 go_wp2_with fail
 refine hall.mono ?_
 rintro e w1 ⟨A,c,rfl,hm,hb1⟩
 clear hall
 have Hm:=Lib.hid hm
 have Hb1:=Lib.hid hb1
 clear hm hb1
 go_wp2_with fail
 go_loopw [5,11] (fun v i wr=>∃(k:Nat) (z:Int),k≤n∧i=.int .i64 (k:Int)∧v=.int .i64 z∧LeastOk (C.take k) pos z∧Below w1.heap.size w1 wr) (fun _ i _=>n -(intOf i).toNat)
 case atStart=>exact ⟨0,-1,Nat.zero_le _,rfl,rfl,.inl ⟨rfl,fun x hx=>by simp at hx⟩,Below.refl _ _⟩
 case round=>
  obtain ⟨k,z,hk,rfl,rfl,hz,hb⟩:=hrel
  have hsz:=hb.size
  by_cases hlt:k < n
  · have hkC:k < C.length:=by rw [Hn.out];exact hlt
    have hr:=Hm.out.rd.below (hb.mono (B:=w1.heap.size) (Nat.le_refl _))
    obtain ⟨b,off,rfl,hbb,hcell⟩:=hr.2 (by omega)
    obtain ⟨p0,p1⟩:=pairsL_get C k hkC
    have d0:=hcell _ _ p0
    have d1:=hcell _ _ p1
    obtain ⟨a1,ha1⟩:∃x,rowK C k=x:=⟨_,rfl⟩
    obtain ⟨a2,ha2⟩:∃x,posK C k=x:=⟨_,rfl⟩
    rw [ha1] at d0
    rw [ha2,←Nat.add_assoc] at d1
    have hcc:C[k]?=some (a1,a2):=by
        rw [←ha1,←ha2]
        unfold rowK posK
        rw [List.getD_eq_getElem?_getD,List.getElem?_eq_getElem hkC]
        rfl
    have hnx:∀y:Int,y=(if pos≤a2∧(z < 0∨(a2:Int) < z) then (a2:Int) else z)→LeastOk (C.take (k+1)) pos y:=fun y hy=>by
        rw [List.take_add_one,hcc,hy]
        exact least_snoc hz a1 a2
    have Hnx:=Lib.hid hnx
    have Hb:=Lib.hid hb
    have hb2:Below w1.heap.size w1 (wr.alloc (.cells #[.int .i64 (a1:Int),.int .i64 (a2:Int)] 70)):=hb.alloc hsz _
    have Hb2:=Lib.hid hb2
    clear hz hb hr hcell p0 p1 ha1 ha2 hb2 hnx hcc
    by_cases h1:pos≤a2
    · have n1:decide (pos≤a2)=true:=decide_eq_true h1
      by_cases h2:z < 0
      · have hok:LeastOk (C.take (k+1)) pos (a2:Int):=Hnx.out (a2:Int) (by rw [if_pos ⟨h1,.inl h2⟩])
        have Hok:=Lib.hid hok
        clear hok
        go_wp2_with fail
        go_roundw
        case rel=>exact ⟨k+1,(a2:Int),by omega,by go_num,by first | rfl | trivial,Hok.out,Hb2.out⟩
        case measure=>simp [intOf];omega
      · have n2:decide (z < 0)=false:=decide_eq_false h2
        by_cases h3:(a2:Int) < z
        · have hok:LeastOk (C.take (k+1)) pos (a2:Int):=Hnx.out (a2:Int) (by rw [if_pos ⟨h1,.inr h3⟩])
          have Hok:=Lib.hid hok
          clear hok
          go_wp2_with fail
          go_roundw
          case rel=>exact ⟨k+1,(a2:Int),by omega,by go_num,by first | rfl | trivial,Hok.out,Hb2.out⟩
          case measure=>simp [intOf];omega
        · have n3:decide ((a2:Int) < z)=false:=decide_eq_false h3
          have hok:LeastOk (C.take (k+1)) pos z:=Hnx.out z (by rw [if_neg (by omega)])
          have Hok:=Lib.hid hok
          clear hok
          go_wp2_with fail
          go_roundw
          case rel=>exact ⟨k+1,z,by omega,by go_num,by first | rfl | trivial,Hok.out,Hb2.out⟩
          case measure=>simp [intOf];omega
    · have n1:decide (pos≤a2)=false:=decide_eq_false h1
      have hok:LeastOk (C.take (k+1)) pos z:=Hnx.out z (by rw [if_neg (by omega)])
      have Hok:=Lib.hid hok
      clear hok
      go_wp2_with fail
      go_roundw
      case rel=>exact ⟨k+1,z,by omega,by go_num,by first | rfl | trivial,Hok.out,Hb2.out⟩
      case measure=>simp [intOf];omega
  · obtain rfl:k=n:=by omega
    have hbW:=Hb1.out.trans (hb.mono Hb1.out.size)
    have HbW:=Lib.hid hbW
    have htk:C.take k=C:=List.take_of_length_le (by rw [Hn.out];exact Nat.le_refl _)
    rw [htk] at hz
    have Hz:=Lib.hid hz
    clear hbW hz hb htk
    go_wp2_with fail
    go_ret
    exact ⟨z,rfl,Hz.out,HbW.out⟩
def RowPostG (w:World) (ks:List Nat) (C:List (Nat×Nat)) (pos:Nat) (e:Ending) (w':World):Prop:=∃k,k∈ks∧posK C k=pos∧e=.returned (.int .i64 ((rowK C k:Nat):Int))∧Below w.heap.size w w'
set_option maxRecDepth 100000 in
set_option maxHeartbeats 2000000 in
theorem PermRowG_any (B gp ga:Nat) (vl vo vt vf:Value) (R P:Nat) (ks:List Nat) (C:List (Nat×Nat)) (tk:List Bool) (fr:List Nat) (pos:Nat) (w:World) (h:PermAt w B gp ga vl vo vt vf R P ks C tk fr) (hk:ks.length≤1099511627776) (hC:C.length≤1099511627776) (hex:∃k∈ks,posK C k=pos):
 Calls Tryz.prog 51 #[.pointer (some ⟨gp,0,none⟩),.int .i64 (pos:Int)] w (RowPostG w ks C pos):=by
 have hhas:=PermHas_any B gp ga vl vo vt vf R P ks C tk fr pos w h hk
 obtain ⟨q,x,hq,hx1,hx2⟩:=firstI_some (p:=fun k=>decide (posK C k=pos)) (l:=ks) (by obtain ⟨k,hk1,hk2⟩:=hex;exact ⟨k,hk1,decide_eq_true hk2⟩) 0
 rw [hq,Nat.zero_add] at hhas
 have hx3:posK C x=pos:=of_decide_eq_true hx2
 have hqn:q < ks.length:=(List.getElem?_eq_some_iff.1 hx1).1
 have hxC:x < C.length:=h.lt x (List.mem_of_getElem? hx1)
 obtain ⟨g,cap,hvo,hnc,hgl⟩:=World.ownsRow.form h.orow (by omega)
 obtain ⟨g2,cap2,hvl,hnc2,hgl2⟩:=World.ownsRow.form h.lrow (by omega)
 subst hvo
 subst hvl
 have hpair:=(pairsL_get C x hxC).1
 have H:=Lib.hid h
 have Hx1:=Lib.hid hx1
 have Hx3:=Lib.hid hx3
 have Hpair:=Lib.hid hpair
 have hqI:(q:Int) < (ks.length:Int):=by omega
 have hxI:(x:Int) < (C.length:Int):=by omega
 have hq0:decide ((q:Int) < 0)=false:=by simp
 clear h hq hx1 hx2 hx3 hpair hex
 unfold RowPostG
 go_enter Tryz.func51,Tryz.ntmps51
 go_wp2_with fail
 refine hhas.mono ?_
 rintro e w1 ⟨rfl,hb1⟩
 have h1:=H.out.below hb1
 have c1:∀d,(w1.drewN d).cell? ⟨gp,1,none⟩=some (.slice (some ⟨g2,0,none⟩) C.length cap2):=fun d=>(h1.blk.cell 1).trans rfl
 have c2:∀d,(w1.drewN d).cell? ⟨gp,2,none⟩=some (.slice (some ⟨g,0,none⟩) ks.length cap):=fun d=>(h1.blk.cell 2).trans rfl
 have hgp:=h1.blk.lt
 have c3:∀d,(w1.drewN d).cell? ⟨g,q,none⟩=some (.int .i64 (x:Int)):=fun d=>(World.ownsRow.cellAt h1.orow q (by omega)).trans (by rw [List.getElem?_map,Hx1.out];rfl)
 have c4:∀d,(w1.drewN d).cell? ⟨g2,x*2,none⟩=some (.int .i64 ((rowK C x:Nat):Int)):=fun d=>(World.ownsRow.cellAt h1.lrow (x*2) (by omega)).trans Hpair.out
 have Hb1:=Lib.hid hb1
 have hgl1:=Nat.lt_of_lt_of_le hgl hb1.size
 have hgl21:=Nat.lt_of_lt_of_le hgl2 hb1.size
 obtain ⟨pp,hpp⟩:∃pp,rowK C x=pp:=⟨_,rfl⟩
 rw [hpp] at c4
 have Hpp:=Lib.hid hpp
 clear hhas hb1 h1 hpp
 go_wp2_with fail
 go_quiet (fail)
 go_wp2_with fail
 go_ret
 exact ⟨x,List.mem_of_getElem? Hx1.out,Hx3.out,by rw [Hpp.out];rfl,below_drewN Hb1.out _⟩
def RowPostR (w:World) (pr:List (Nat×Nat)) (pos:Nat) (e:Ending) (w':World):Prop:=∃r,(r,pos)∈pr∧e=.returned (.int .i64 (r:Int))∧Below w.heap.size w w'
theorem PermRowR_any (gp R P:Nat) (pr:List (Nat×Nat)) (pos:Nat) (w:World) (h:PermR w gp R P pr) (hex:∃x∈pr,x.2=pos):
 Calls Tryz.prog 51 #[.pointer (some ⟨gp,0,none⟩),.int .i64 (pos:Int)] w (RowPostR w pr pos):=by
 obtain ⟨B,ga,vl,vo,vt,vf,ks,C,tk,fr,h1,h2,h3,h4,rfl⟩:=h
 have hex':∃k∈ks,posK C k=pos:=by
  obtain ⟨x,hx,e⟩:=hex
  obtain ⟨k,hk,rfl⟩:=List.mem_map.1 hx
  exact ⟨k,hk,e⟩
 have hr:=PermRowG_any B gp ga vl vo vt vf R P ks C tk fr pos w h1 (by omega) (by omega) hex'
 refine hr.mono ?_
 rintro e w' ⟨k,hk,hp,rfl,hb⟩
 exact ⟨_,List.mem_map.2 ⟨k,hk,by rw [hp]⟩,rfl,hb⟩
set_option maxRecDepth 100000 in
set_option maxHeartbeats 2000000 in
theorem PermRowR_none (gp R P:Nat) (pr:List (Nat×Nat)) (pos:Nat) (w:World) (h:PermR w gp R P pr) (hno:∀x∈pr,x.2≠pos):
 Calls Tryz.prog 51 #[.pointer (some ⟨gp,0,none⟩),.int .i64 (pos:Int)] w fun e w'=>e=.returned (.int .i64 (-1))∧Below w.heap.size w w':=by
 obtain ⟨B,ga,vl,vo,vt,vf,ks,C,tk,fr,h1,h2,h3,h4,rfl⟩:=h
 have hhas:=PermHas_any B gp ga vl vo vt vf R P ks C tk fr pos w h1 (by omega)
 rw [firstI_none (p:=fun k=>decide (posK C k=pos)) (l:=ks) (fun k hk=>decide_eq_false (hno _ (List.mem_map.2 ⟨k,hk,rfl⟩))) 0] at hhas
 clear h1 h2 hno
 go_enter Tryz.func51,Tryz.ntmps51
 go_wp2_with fail
 refine hhas.mono ?_
 rintro e w1 ⟨rfl,hb1⟩
 have Hb1:=Lib.hid hb1
 clear hhas hb1
 go_wp2_with fail
 go_ret
 exact ⟨rfl,Hb1.out⟩
end Go.Proofs.YtipaccakmndkgaaGreat
