/- The walk of the wave's Get. Conditions: symbols below 257; at most 1000. The walks of a snapshot's reader: number and part. Conditions: the number stands there. The walk of the wave's Insert. Conditions: symbols below 257; at most 127 ahead of it. -/
import Derived.Test.YtipaccakmndkgaaGreatDoorPsl23
import Derived.BigQuiet
import Derived.Test.YtipaccakmndkgaaGreatDoorPsl3
set_option linter.unusedVariables false
set_option linter.unusedSimpArgs false
set_option maxRecDepth 100000
set_option maxHeartbeats 4000000
namespace Go.Proofs.YtipaccakmndkgaaGreatDoor
open Go.RowKit
theorem Next_any (gt lv p:Nat) (b:Bool) (w:World) (hp:p≤1000):
 Calls Tryz.prog 134 #[.agg #[.pointer (some ⟨gt,0,none⟩),.int .i64 (lv:Int),.int .i64 (p:Int)],.bool b] w fun e w'=>e=.returned (.int .i64 ((2*p+(if b then 1 else 0):Nat):Int))∧Below w.heap.size w w':=by
 have e1:IntKind.i64.wrap (2*(p:Int))=2*(p:Int):=by rw [IntKind.wrap_i64];omega
 have e2:IntKind.i64.wrap (2*(p:Int)+1)=2*(p:Int)+1:=by rw [IntKind.wrap_i64];omega
 go_enter Tryz.func134,Tryz.ntmps134
 cases b with
 | true=>
   go_wp2_with fail
   go_ret
   exact ⟨ret_i64 (by simp),(Below.refl _ _).alloc (Nat.le_refl _) _⟩
 | false=>
   go_wp2_with fail
   go_ret
   exact ⟨ret_i64 (by simp),(Below.refl _ _).alloc (Nat.le_refl _) _⟩
theorem WaveGet_any (B gv:Nat) (L:List Nat) (k s:Nat) (w:World) (h:WaveAt w B gv L) (hk:k < L.length) (hks:L[k]=s) (hL:∀x∈L,x < 257) (hn:L.length≤1000):
 Calls Tryz.prog 57 #[.pointer (some ⟨gv,0,none⟩),.int .i64 (k:Int)] w fun e w'=>e=.returned (.tuple #[.int .i64 (s:Int),.int .i64 0])∧VB B w w':=by
 have hs:s < 257:=by rw [←hks];exact hL _ (List.getElem_mem hk)
 have h90:=atLv_zero L k s (Nat.le_of_lt hk) hL hs
 have p0:=path_zero s hs
 have p9:=path_nine s
 have hat:∀lv,(bitsOf L lv (pathN s lv))[atLv L k s lv]?=some (bitB s lv):=fun lv=>by
  have:=bits_at L k lv hk
  rw [hks] at this
  exact this
 obtain ⟨hBg,S,v,hb,hrows⟩:=h
 have hlt:=hb.lt
 have hB:B≤w.heap.size:=by omega
 have hset:=(hb.set 10 (.int .i64 0)).alloc (.cells #[.int .i64 (k:Int)] 3)
 rw [wcells_visits] at hset
 have hv1:=VisK.alloc (VB.set_wave hb hBg 0) (.cells #[.int .i64 (k:Int)] 3)
 have hgk:=Bk.new (w.setCell ⟨gv,10,none⟩ (.int .i64 0)) 3 #[.int .i64 (k:Int)]
 rw [show (w.setCell ⟨gv,10,none⟩ (.int .i64 0)).heap.size=w.heap.size by simp [World.setCell]] at hgk
 obtain ⟨n,hnn⟩:∃n,L.length=n:=⟨_,rfl⟩
 rw [hnn] at hb hset hk hn
 have f10:=hb.frozen 10
 have x10:w.cell? ⟨gv,10,none⟩=some (.int .i64 v):=(hb.cell 10).trans (wcells_get S n v).2.2.2.2.2.2.2.2.2.2
 obtain ⟨W,hW⟩:∃W,(w.setCell ⟨gv,10,none⟩ (.int .i64 0)).alloc (.cells #[.int .i64 (k:Int)] 3)=W:=⟨_,rfl⟩
 rw [hW] at hset hv1 hgk
 obtain ⟨d0,d1,d2,d3,d4,d5,d6,d7,d8,d9,d10⟩:=wcells_get S (n:Int) 0
 have c0:∀q,(W.drewN q).cell? ⟨gv,0,none⟩=some (S 0):=fun q=>(hset.cell 0).trans d0
 have c1:∀q,(W.drewN q).cell? ⟨gv,1,none⟩=some (S 1):=fun q=>(hset.cell 1).trans d1
 have c2:∀q,(W.drewN q).cell? ⟨gv,2,none⟩=some (S 2):=fun q=>(hset.cell 2).trans d2
 have c3:∀q,(W.drewN q).cell? ⟨gv,3,none⟩=some (S 3):=fun q=>(hset.cell 3).trans d3
 have c4:∀q,(W.drewN q).cell? ⟨gv,4,none⟩=some (S 4):=fun q=>(hset.cell 4).trans d4
 have c5:∀q,(W.drewN q).cell? ⟨gv,5,none⟩=some (S 5):=fun q=>(hset.cell 5).trans d5
 have c6:∀q,(W.drewN q).cell? ⟨gv,6,none⟩=some (S 6):=fun q=>(hset.cell 6).trans d6
 have c7:∀q,(W.drewN q).cell? ⟨gv,7,none⟩=some (S 7):=fun q=>(hset.cell 7).trans d7
 have c8:∀q,(W.drewN q).cell? ⟨gv,8,none⟩=some (S 8):=fun q=>(hset.cell 8).trans d8
 have c9:W.cell? ⟨gv,9,none⟩=some (.int .i64 (n:Int)):=(hset.cell 9).trans d9
 have ck:W.cell? ⟨w.heap.size,0,none⟩=some (.int .i64 (k:Int)):=(hgk.cell 0).trans rfl
 have c9q:∀q,(W.drewN q).cell? ⟨gv,9,none⟩=some (.int .i64 (n:Int)):=fun q=>c9
 have ckq:∀q,(W.drewN q).cell? ⟨w.heap.size,0,none⟩=some (.int .i64 (k:Int)):=fun q=>ck
 have hk0:decide ((k:Int) < 0)=false:=by simp
 have hkn:¬n≤k:=by omega
 have Hv1:=lhd hv1
 have Hset:=lhd hset
 have Hgk:=lhd hgk
 have Hrows:=lhd hrows
 have H0:=lhd h90
 have P0:=lhd p0
 have P9:=lhd p9
 have Hat:=lhd hat
 have HL:=lhd hL
 have HN:=lhd hnn
 have HW:=lhd hW
 have Hks:=lhd hks
 have Hb0:=lhd hb
 have Hk:=lhd hk
 clear d0 d1 d2 d3 d4 d5 d6 d7 d8 d9 d10 hv1 hset hgk hrows h90 p0 p9 hat hL hnn hW hb hks hk
 go_enter Tryz.func57,Tryz.ntmps57
 go_wp2_with fail
 rw [HW.out]
 clear x10 f10
 go_quiet (fail)
 clear c9 ck hk0
 go_wp2_with fail
 go_loopw [6,30] (fun x i wr=>∃lv:Nat,lv≤9∧i=.int .i64 lv∧x=.int .i64 ((pathN s lv:Nat):Int)∧VB B w wr∧Bk wr w.heap.size 3 #[.int .i64 ((atLv L k s lv:Nat):Int)]∧w.heap.size < wr.heap.size) (fun _ i _=>9 -(intOf i).toNat)
 case atStart=>exact ⟨0,by omega,rfl,by rw [P0.out];rfl,Hv1.out.below (below_drewN (Below.refl _ _) _),by rw [H0.out];exact Hgk.out.drewN _,Hgk.out.lt⟩
 case round=>
  obtain ⟨lv,hlv,rfl,rfl,hv,hgk,hgl0⟩:=hrel
  by_cases hl9:lv < 9
  · have hix:=ix9 S lv hl9
    obtain ⟨G,hown,htr⟩:=Hrows.out lv hl9
    obtain ⟨m,hm⟩:∃m,2 ^ lv=m:=⟨_,rfl⟩
    obtain ⟨p,hp⟩:∃p,pathN s lv=p:=⟨_,rfl⟩
    have hpm:p < m:=by rw [←hm,←hp];exact path_lt s lv hs (by omega)
    rw [hm] at hown htr
    obtain ⟨g,cap,hSl,hnc,hgl⟩:=World.ownsRow.form hown (by omega)
    rw [hSl] at hix hown
    obtain ⟨x,hx⟩:∃x,atLv L k s lv=x:=⟨_,rfl⟩
    obtain ⟨y,hy⟩:∃y,atLv L k s (lv+1)=y:=⟨_,rfl⟩
    obtain ⟨b,hbb⟩:∃b,bitB s lv=b:=⟨_,rfl⟩
    have hxy:=atLv_step L k s lv hl9
    have hxa:=Hat.out lv
    rw [hp,hx,hbb,hy] at hxy
    rw [hp,hx,hbb] at hxa
    have hxl:x < (bitsOf L lv p).length:=(List.getElem?_eq_some_iff.1 hxa).1
    have hxd:(bitsOf L lv p).getD x false=b:=by rw [List.getD_eq_getElem?_getD,hxa];rfl
    have hps:=path_step s lv hl9
    rw [hp,hbb] at hps
    rw [hp]
    rw [hx] at hgk
    have hpI:(p:Int) < (m:Int):=by omega
    have hrow5:=hv.1.own hown (by decide) (by decide)
    obtain ⟨q0,q1,q2⟩:=shelfL_get G lv m p hpm
    have a0:wr.cell? ⟨g,p*3,none⟩=_:=(World.ownsRow.cellAt hrow5 (p*3) (by omega)).trans q0
    have a1:wr.cell? ⟨g,p*3+1,none⟩=_:=(World.ownsRow.cellAt hrow5 (p*3+1) (by omega)).trans q1
    have a2:wr.cell? ⟨g,p*3+2,none⟩=_:=(World.ownsRow.cellAt hrow5 (p*3+2) (by omega)).trans q2
    have Hgk2:=lhd hgk
    have Hxy:=lhd hxy
    have Hxl:=lhd hxl
    have Hxd:=lhd hxd
    have Hps:=lhd hps
    have Htr:=lhd (htr p hpm)
    have Hp:=lhd hp
    have Hb:=lhd hbb
    have Hy:=lhd hy
    have Hv:=lhd hv
    clear hown htr hSl hm hp hx hy hbb hxy hxa hxl hxd hps hv hgk hrow5 q0 q1 q2
    go_wp2_with fail
    obtain ⟨W2,hW2⟩:∃W2,(wr.alloc (.cells #[.pointer (some ⟨G p,0,none⟩),.int .i64 (lv:Int),.int .i64 (p:Int)] 177)).alloc (.cells #[.bool false] 4)=W2:=⟨_,rfl⟩
    have hb2:Below wr.heap.size wr W2:=by rw [←hW2];exact ((Below.refl _ _).alloc (Nat.le_refl _) _).alloc (by simp) _
    have hsh:Bk W2 wr.heap.size 177 #[.pointer (some ⟨G p,0,none⟩),.int .i64 (lv:Int),.int .i64 (p:Int)]:=by rw [←hW2];exact (Bk.new wr _ _).alloc _
    have hbt:Bk W2 (wr.heap.size+1) 4 #[.bool false]:=by
        rw [←hW2]
        have h:=Bk.new (wr.alloc (.cells #[.pointer (some ⟨G p,0,none⟩),.int .i64 (lv:Int),.int .i64 (p:Int)] 177)) 4 #[.bool false]
        rw [World.size_alloc] at h
        exact h
    rw [hW2]
    have hv2:VB B w W2:=Hv.out.below hb2
    obtain ⟨v2,hw2⟩:=hv2.1.waveC Hb0.out
    have ht0:=Htr.out.2.vis Hv.out.1
    have hgk2:=Hgk2.out.below hb2 Hgk2.out.lt
    refine (LookG_any gv (G p) w.heap.size (wr.heap.size+1) S n v2 lv p _ (bitsOf L lv p) x wr W2 hw2 ht0 (Vis.of_below hb2) (by omega) hgk2 hbt Hxl.out).mono ?_
    rintro e W3 ⟨rfl,hf3,hk3,hbt3⟩
    rw [Hxd.out] at hbt3
    have hgk3:=hf3.bk hgk2 (by decide) (by decide) (fun h=>absurd (show w.heap.size=wr.heap.size+1 from h) (by omega))
    have hsh3:=hf3.bk hsh (by decide) (by decide) (fun h=>absurd (show wr.heap.size=wr.heap.size+1 from h) (by omega))
    have hv3:VB B wr W3:=⟨VisF.to_vis (VisF.trans (VisF.of_vis (Vis.of_below hb2)) hf3) (fun b hb e=>by have:b=wr.heap.size+1:=e;omega),(Keep.of_below hb2).trans (hk3.mono fun b _ e=>by
        rcases e with rfl | rfl | rfl
        · exact hBg
        · exact Htr.out.1
        · omega)⟩
    have hvw3:=Hv.out.trans hv3
    have Hgk3:=lhd hgk3
    have Hsh3:=lhd hsh3
    have Hbt3:=lhd hbt3
    have Hv3:=lhd hvw3
    have hgs3:=hgk3.lt
    have hss3:=hsh3.lt
    have hbs3:=hbt3.lt
    obtain ⟨r,hr⟩:∃r,pathN s (lv+1)=r:=⟨_,rfl⟩
    have hps2:=Hps.out
    rw [hr] at hps2
    have Hr:=lhd hr
    have Hps2:=lhd hps2
    have hp512:p≤1000:=by
        have h1:=path_lt s lv hs (by omega)
        have h2:2 ^ lv≤2 ^ 9:=Nat.pow_le_pow_right (by decide) (by omega)
        rw [Hp.out] at h1
        omega
    clear hW2 hb2 hsh hbt hv2 hw2 ht0 hgk2 hf3 hk3 hbt3 hgk3 hsh3 hv3 hvw3 hr hps2 a0 a1 a2
    go_wp2_with fail
    refine wp_region_any (by kernel_rfl) ?_
    refine wpAny_vis_tail B 8 [41,42,43,44,45,46,47,48] (fun _=>False) 7 [] (fun _=>True) (is (.int .i64 (r:Int))) [is (.pointer (some ⟨gv,0,none⟩)),is (.agg #[.pointer (some ⟨G p,0,none⟩),.int .i64 (lv:Int),.int .i64 (p:Int)]),is (.int .i64 (x:Int)),is (.bool b),is (.int .i64 (y:Int)),is (.agg #[.pointer (some ⟨G p,0,none⟩),.int .i64 (lv:Int),.int .i64 (p:Int)]),is (.bool b),anyV] _ _ rfl (by decide) (by kernel_rfl) (by kernel_rfl) (by kernel_rfl) (trivial) (fun _ _ _ _ _=>trivial) (stbs_is _ _) (by repeat' (first | exact stbs_is _ _ | exact stbs_any _ |(refine List.forall_mem_cons.2 ⟨?_,?_⟩)|(intro p hp;cases hp))) ?_ ?_
    · refine steps_of_n ?_
      refine steps_cons (step_on3 rfl rfl fun ev _ _ _ _ _ hold _ _ _ _ hK=>?_) ?_
      · have e0:ev (.tmp 0)=.pointer (some ⟨gv,0,none⟩):=hold 0 (by kernel_rfl)
        go_simp
        exact hK _ _ (vstep_vis (VisK.refl _ _)) rfl
      refine steps_cons (step_on3 rfl rfl fun ev w5 hS _ _ _ hold _ _ _ _ hK=>?_) ?_
      · replace hS:VFB B (fun _=>False) W3 w5:=⟨⟨hS.1.os,hS.1.tape,hS.1.output,hS.1.size,hS.1.block⟩,⟨hS.2.os,hS.2.tape,hS.2.output,hS.2.size,hS.2.block⟩⟩
        have e9:ev (.tmp 9)=.pointer (some ⟨wr.heap.size,0,none⟩):=hold 9 (by kernel_rfl)
        have hs5:=hS.1.bk Hsh3.out (by decide) (by decide) (fun h=>h)
        have s0:w5.cell? ⟨wr.heap.size,0,none⟩=some (.pointer (some ⟨G p,0,none⟩)):=(hs5.cell 0).trans rfl
        have s1:w5.cell? ⟨wr.heap.size,1,none⟩=some (.int .i64 (lv:Int)):=(hs5.cell 1).trans rfl
        have s2:w5.cell? ⟨wr.heap.size,2,none⟩=some (.int .i64 (p:Int)):=(hs5.cell 2).trans rfl
        go_simp
        exact hK _ _ (vstep_vis (VisK.refl _ _)) rfl
      refine steps_cons (step_on3 rfl rfl fun ev w5 hS _ _ _ hold _ _ _ _ hK=>?_) ?_
      · replace hS:VFB B (fun _=>False) W3 w5:=⟨⟨hS.1.os,hS.1.tape,hS.1.output,hS.1.size,hS.1.block⟩,⟨hS.2.os,hS.2.tape,hS.2.output,hS.2.size,hS.2.block⟩⟩
        have e3:ev (.tmp 3)=.pointer (some ⟨w.heap.size,0,none⟩):=hold 3 (by kernel_rfl)
        have k5:w5.cell? ⟨w.heap.size,0,none⟩=some (.int .i64 (x:Int)):=((hS.1.bk Hgk3.out (by decide) (by decide) (fun h=>h)).cell 0).trans rfl
        go_simp
        exact hK _ _ (vstep_vis (VisK.refl _ _)) rfl
      refine steps_cons (step_on3 rfl rfl fun ev w5 hS _ _ _ hold _ _ _ _ hK=>?_) ?_
      · replace hS:VFB B (fun _=>False) W3 w5:=⟨⟨hS.1.os,hS.1.tape,hS.1.output,hS.1.size,hS.1.block⟩,⟨hS.2.os,hS.2.tape,hS.2.output,hS.2.size,hS.2.block⟩⟩
        have e10:ev (.tmp 10)=.pointer (some ⟨wr.heap.size+1,0,none⟩):=hold 10 (by kernel_rfl)
        have b5:w5.cell? ⟨wr.heap.size+1,0,none⟩=some (.bool b):=((hS.1.bk Hbt3.out (by decide) (by decide) (fun h=>h)).cell 0).trans rfl
        go_simp
        exact hK _ _ (vstep_vis (VisK.refl _ _)) rfl
      refine steps_cons (step_on3 rfl rfl fun _ w5 hS _ _ _ _ hval _ _ _ hK=>?_) ?_
      · replace hS:VFB B (fun _=>False) W3 w5:=⟨⟨hS.1.os,hS.1.tape,hS.1.output,hS.1.size,hS.1.block⟩,⟨hS.2.os,hS.2.tape,hS.2.output,hS.2.size,hS.2.block⟩⟩
        have e41:_=_:=hval 0 41 (by kernel_rfl) rfl
        have e42:_=_:=hval 1 42 (by kernel_rfl) rfl
        have e43:_=_:=hval 2 43 (by kernel_rfl) rfl
        have e44:_=_:=hval 3 44 (by kernel_rfl) rfl
        go_simp
        have hvs:=VFB.to_vb hS (fun b _ h=>h)
        have hvw:=Hv3.out.trans hvs
        obtain ⟨v5,hw5⟩:=hvw.1.waveC Hb0.out
        have ht5:=Htr.out.2.vis hvw.1
        refine (WRank1_any gv (G p) S n v5 lv p (bitsOf L lv p) x b w5 hw5 ht5 (Nat.le_of_lt Hxl.out)).mono ?_
        rintro e w8 ⟨rfl,hv8⟩
        rw [Hxy.out]
        exact hK _ _ (vstep_vis (hv8.mono fun b hb=>by rcases hb with rfl | rfl;exact hBg;exact Htr.out.1)) rfl
      refine steps_cons (step_on3 rfl rfl fun ev w5 hS _ _ _ hold _ _ _ _ hK=>?_) ?_
      · replace hS:VFB B (fun _=>False) W3 w5:=⟨⟨hS.1.os,hS.1.tape,hS.1.output,hS.1.size,hS.1.block⟩,⟨hS.2.os,hS.2.tape,hS.2.output,hS.2.size,hS.2.block⟩⟩
        have e9:ev (.tmp 9)=.pointer (some ⟨wr.heap.size,0,none⟩):=hold 9 (by kernel_rfl)
        have hs5:=hS.1.bk Hsh3.out (by decide) (by decide) (fun h=>h)
        have s0:w5.cell? ⟨wr.heap.size,0,none⟩=some (.pointer (some ⟨G p,0,none⟩)):=(hs5.cell 0).trans rfl
        have s1:w5.cell? ⟨wr.heap.size,1,none⟩=some (.int .i64 (lv:Int)):=(hs5.cell 1).trans rfl
        have s2:w5.cell? ⟨wr.heap.size,2,none⟩=some (.int .i64 (p:Int)):=(hs5.cell 2).trans rfl
        go_simp
        exact hK _ _ (vstep_vis (VisK.refl _ _)) rfl
      refine steps_cons (step_on3 rfl rfl fun ev w5 hS _ _ _ hold _ _ _ _ hK=>?_) ?_
      · replace hS:VFB B (fun _=>False) W3 w5:=⟨⟨hS.1.os,hS.1.tape,hS.1.output,hS.1.size,hS.1.block⟩,⟨hS.2.os,hS.2.tape,hS.2.output,hS.2.size,hS.2.block⟩⟩
        have e10:ev (.tmp 10)=.pointer (some ⟨wr.heap.size+1,0,none⟩):=hold 10 (by kernel_rfl)
        have b5:w5.cell? ⟨wr.heap.size+1,0,none⟩=some (.bool b):=((hS.1.bk Hbt3.out (by decide) (by decide) (fun h=>h)).cell 0).trans rfl
        go_simp
        exact hK _ _ (vstep_vis (VisK.refl _ _)) rfl
      refine steps_cons (step_on3 rfl rfl fun _ w5 _ _ _ _ _ hval _ _ _ hK=>?_) ?_
      · have e46:_=_:=hval 5 46 (by kernel_rfl) rfl
        have e47:_=_:=hval 6 47 (by kernel_rfl) rfl
        go_simp
        refine (Next_any (G p) lv p b w5 hp512).mono ?_
        rintro e w8 ⟨rfl,hb8⟩
        rw [←Hps2.out]
        exact hK _ _ (vstep_vis (VisK.of_below hb8)) rfl
      exact steps_nil
    · intro ev w6 f hS hval hall
      replace hS:VFB B (fun _=>False) W3 w6:=⟨⟨hS.1.os,hS.1.tape,hS.1.output,hS.1.size,hS.1.block⟩,⟨hS.2.os,hS.2.tape,hS.2.output,hS.2.size,hS.2.block⟩⟩
      have e45:ev (.tmp 45)=.int .i64 (y:Int):=hval 4 45 (by decide) rfl
      have e48:ev (.tmp 48)=.int .i64 (r:Int):=hval 7 48 (by decide) rfl
      obtain ⟨vJ,pJ0⟩:=hall 7 (by decide)
      have pJ:(is (.int .i64 (r:Int))) vJ w6:=pJ0
      clear pJ0 hall
      simp only [putsOf,List.foldl_cons,List.foldl_nil,Act.put,List.setIfInBounds_toArray,List.set_cons_zero,List.set_cons_succ]
      rw [e45]
      rw [e48]
      clear hval
      have hvs:=VFB.to_vb hS (fun b _ h=>h)
      have hgk6:=hvs.1.bk Hgk3.out (by decide) (by decide)
      have c6k:=hgk6.cell 0
      have f6k:=hgk6.frozen 0
      have hs6:=hvs.1.size
      have Hvs:=lhd hvs
      have Hgk6:=lhd hgk6
      clear hvs hgk6 hS pJ
      change wpAny Tryz.prog Region.Mode.any _ _ (2+f) (firstN 8 10) _ w6
      rw [show 2+f=f+1+1 by omega]
      refine wpAny_one (f:=f+1) (i:=8) (by kernel_rfl) ?_
      refine wpOp_run rfl rfl ?_
      generalize hK:wpAny Tryz.prog _ _ _ (f+1) _=K5
      go_simp
      subst hK
      refine wpAny_one (f:=f) (i:=9) (by kernel_rfl) ?_
      refine wpOp_run rfl rfl ?_
      generalize hK:wpAny Tryz.prog _ _ _ f _=K5
      go_simp
      subst hK
      refine wpAny_all (by kernel_rfl) ?_
      have hgk7:=Hgk6.out.set 0 (.int .i64 (y:Int))
      have hv7:=Hv3.out.trans Hvs.out
      have hv8:VB B w (w6.setCell ⟨w.heap.size,0,none⟩ (.int .i64 (y:Int))):=⟨Vis.fresh hv7.1 (p:=⟨w.heap.size,0,none⟩) (Nat.le_refl _) _,Keep.setCell (F:=fun b=>B≤b) hv7.2 (p:=⟨w.heap.size,0,none⟩) (.inl hB) _⟩
      have Hv8:=lhd hv8
      have Hgk7:=lhd hgk7
      clear hv7 hv8 hgk7
      go_wp2_with fail
      go_roundw
      case rel=>exact ⟨lv+1,by omega,by go_num,by rw [Hr.out],Hv8.out,by rw [Hy.out];exact Hgk7.out,Hgk7.out.lt⟩
      case measure=>simp [intOf];omega
  · obtain rfl:lv=9:=by omega
    rw [P9.out]
    go_wp2_with fail
    go_ret2
    exact ⟨rfl,hv⟩
def rdrC (A:Option Addr) (n c at_:Nat):Array Value:=#[.slice A n c,.int .i64 (at_:Int),.bool false]
theorem Number_any (gr:Nat) (A:Option Addr) (n c B at_ to v most:Nat) (l:List UInt8) (w:World) (hb:Bk w gr 123 (rdrC A n c at_)) (hr:Rd w B 1 A n (l.map bv)) (hnc:n≤c) (hcm:c≤maxLen) (hg:getNB l (at_:Int)=(v,(to:Int),0)) (hv:v≤most) (hm:most≤4611686018427387904):
 Calls Tryz.prog 88 #[.pointer (some ⟨gr,0,none⟩),.int .i64 (most:Int)] w fun e w'=>e=.returned (.int .i64 (v:Int))∧Bk w' gr 123 (rdrC A n c to)∧Keep (fun b=>b=gr) w w':=by
 have c0:w.cell? ⟨gr,0,none⟩=some (.slice A n c):=hb.cell 0
 have c1:w.cell? ⟨gr,1,none⟩=some (.int .i64 (at_:Int)):=hb.cell 1
 have f1:=hb.frozen 1
 have H:=lhd hb
 have Hr:=lhd hr
 have Hg:=lhd hg
 have Hcm:=lhd hcm
 have n1:¬((v:Int) > (most:Int)):=by omega
 have n2:decide ((v:Int) > (most:Int))=false:=decide_eq_false n1
 have n3:¬most < v:=by omega
 have n4:decide (most < v)=false:=decide_eq_false n3
 have n5:IntKind.u64.wrap (most:Int)=(most:Int):=by rw [IntKind.wrap_u64];omega
 have n6:IntKind.i64.wrap (v:Int)=(v:Int):=by rw [IntKind.wrap_i64];omega
 clear hb hr hg hcm
 go_enter Tryz.func88,Tryz.ntmps88
 go_wp2_with fail
 go_quiet (exact quiet_left (Get_is A n c l (at_:Int) B _ v (to:Int) 0 Hg.out (Hr.out.drewN _) hnc Hcm.out))
 go_wp2_with fail
 go_ret
 exact ⟨rfl,(H.out.drewN nq).set 1 _,((Keep.refl (fun b=>b=gr) w).drewN nq).setCell (p:=⟨gr,1,none⟩) (.inl rfl) _⟩
theorem ReadPart_any (gr:Nat) (A:Option Addr) (n c B at_ q k to:Nat) (l:List UInt8) (w:World) (hb:Bk w gr 123 (rdrC A n c at_)) (hr:Rd w B 1 A n (l.map bv)) (hnc:n≤c) (hcm:c≤maxLen) (hnm:n≤1099511627776) (hg:getNB l (at_:Int)=(k,(q:Int),0)) (hq:q+(k+4)=to) (ht:to≤n):
 Calls Tryz.prog 89 #[.pointer (some ⟨gr,0,none⟩)] w fun e w'=>e=.returned (.slice (cutA A c q 1) k (c - q))∧Bk w' gr 123 (rdrC A n c to)∧Keep (fun b=>b=gr) w w':=by
 have hnum:=Number_any gr A n c B at_ q k n l w hb hr hnc hcm hg (by omega) (by omega)
 have c0:w.cell? ⟨gr,0,none⟩=some (.slice A n c):=hb.cell 0
 clear hb hr hg
 go_enter Tryz.func89,Tryz.ntmps89
 go_wp2_with fail
 refine hnum.mono ?_
 clear hnum
 rintro e w1 ⟨rfl,hb1,hk1⟩
 have d0:w1.cell? ⟨gr,0,none⟩=some (.slice A n c):=hb1.cell 0
 have d1:w1.cell? ⟨gr,1,none⟩=some (.int .i64 (q:Int)):=hb1.cell 1
 have d2:w1.cell? ⟨gr,2,none⟩=some (.bool false):=hb1.cell 2
 have f1:=hb1.frozen 1
 have H1:=lhd hb1
 have K1:=lhd hk1
 obtain ⟨m,hm⟩:∃m,n - q=m+4:=⟨n - q - 4,by omega⟩
 have n1:IntKind.i64.wrap ((n:Int) -(q:Int))=((m+4:Nat):Int):=by rw [IntKind.wrap_i64];omega
 have n2:IntKind.i64.wrap (((m+4:Nat):Int) - 4)=(m:Int):=by rw [IntKind.wrap_i64];omega
 have n3:¬((k:Int) > (m:Int)):=by omega
 have n4:decide ((k:Int) > (m:Int))=false:=decide_eq_false n3
 have n5:¬m < k:=by omega
 have n6:decide (m < k)=false:=decide_eq_false n5
 clear hb1 hk1 c0
 go_wp2_with fail
 go_quiet (fail)
 go_wp2_with fail
 have e1:((q:Int)+((k:Int)+4))=(to:Int):=by omega
 rw [e1]
 have H2:=(H1.out.drewN nq).set 1 (.int .i64 (to:Int))
 have K2:=(K1.out.drewN nq).setCell (p:=⟨gr,1,none⟩) (.inl rfl) (.int .i64 (to:Int))
 generalize (w1.drewN nq).setCell ⟨gr,1,none⟩ (.int .i64 (to:Int))=w2 at H2 K2⊢
 have g0:w2.cell? ⟨gr,0,none⟩=some (.slice A n c):=H2.cell 0
 have g1:w2.cell? ⟨gr,1,none⟩=some (.int .i64 (to:Int)):=H2.cell 1
 have H3:=lhd H2
 have K3:=lhd K2
 obtain ⟨to4,ht4⟩:∃x,q+k=x:=⟨_,rfl⟩
 have n7:IntKind.i64.wrap ((to:Int) -(k:Int))=((q+4:Nat):Int):=by rw [IntKind.wrap_i64];omega
 have n8:IntKind.i64.wrap (((q+4:Nat):Int) - 4)=(q:Int):=by rw [IntKind.wrap_i64];omega
 have n9:IntKind.i64.wrap ((to:Int) - 4)=(to4:Int):=by rw [IntKind.wrap_i64];omega
 have kr:=fun w=>run_cut_lohi (P:=Tryz.prog) 23 5 1 Tryz.underlying23 (fun w=>by kernel_rfl) A n c q to4 (by omega) (by omega) w
 have ek:to4 - q=k:=by omega
 rw [ek] at kr
 have hql:q≤1099511627776:=by omega
 have htl:to≤1099511627776:=by omega
 have htq:q+k+4=to:=by omega
 clear H2 K2 H1 K1 d0 d1 d2 f1 hm n1 n2 n3 n4 n5 n6 ek
 go_quiet (fail)
 go_wp2_with fail
 go_ret
 exact ⟨rfl,H3.out.drewN _,K3.out.drewN _⟩
def boxP (N:Nat) (e:TypeId) (cs:Array Value):Value→World→Prop:=fun v w=>∃g,v=.pointer (some ⟨g,0,none⟩)∧Bk w g e cs∧N≤g
theorem boxP_stb {B:Nat} {F:Nat→Prop} (N:Nat) (e:TypeId) (cs:Array Value) (h1:e≠226) (h2:e≠174) (hf:∀b,¬F b):StbS (VFB B F) (boxP N e cs):=fun _ _ _ ⟨g,a1,a2,a3⟩ k=>⟨g,a1,k.1.bk a2 h1 h2 (hf g),a3⟩
theorem WaveS.cells {w:World} {B:Nat} {own:Nat→Nat} {gv:Nat} {S:Nat→Value} {Ls:Nat→List Nat} {n v:Int} (h:WaveS w B own gv S Ls n v):(∀i,i < 9→w.cell? ⟨gv,i,none⟩=some (S i))∧w.cell? ⟨gv,9,none⟩=some (.int .i64 n)∧w.cell? ⟨gv,10,none⟩=some (.int .i64 v):=by
 obtain ⟨d0,d1,d2,d3,d4,d5,d6,d7,d8,d9,d10⟩:=wcells_get S n v
 exact ⟨fun i hi=>(h.blk.cell i).trans (wcells_at S n v i hi),(h.blk.cell 9).trans d9,(h.blk.cell 10).trans d10⟩
theorem WaveInsert_any (B gv:Nat) (own:Nat→Nat) (L:List Nat) (k s:Nat) (w:World) (h:WaveE w B own gv L) (hs:s < 257) (hk:k≤L.length) (hL:∀x∈L,x < 257) (hn:L.length≤127):
 Calls Tryz.prog 135 #[.pointer (some ⟨gv,0,none⟩),.int .i64 (k:Int),.int .i64 (s:Int)] w fun e w'=>e=.returned (.int .i64 0)∧∃own',WaveE w' B own' gv (insN L k s)∧(∀b,b < w.heap.size→own' b=own b)∧(∀b,w.heap.size≤b→own' b≠1)∧Keep (fun b=>b=gv∨16≤own b) w w':=by
 have h90:=atLv_zero L k s hk hL hs
 obtain ⟨S,v,h⟩:=h
 obtain ⟨n,hnn⟩:∃n,L.length=n:=⟨_,rfl⟩
 rw [hnn] at h hk hn
 have hins:(insN L k s).length=n+1:=by rw [insN_len _ _ (by omega),hnn]
 obtain ⟨cc,c9,c10⟩:=h.cells
 have f10:=h.blk.frozen 10
 have hlt:=h.blk.lt
 have hB:B≤w.heap.size:=Nat.le_trans h.base.1 (Nat.le_of_lt hlt)
 obtain ⟨v1,h1⟩:=h.vis ((VisK.alloc (VB.set_wave h.blk h.base.1 0) (.cells #[.int .i64 (k:Int)] 3)).1)
 have hgv_gk:gv≠w.heap.size:=by omega
 have hgk:=Bk.new (w.setCell ⟨gv,10,none⟩ (.int .i64 0)) 3 #[.int .i64 (k:Int)]
 rw [show (w.setCell ⟨gv,10,none⟩ (.int .i64 0)).heap.size=w.heap.size by simp [World.setCell]] at hgk
 have hk1:Keep (fun b=>b=gv∨16≤own b) w ((w.setCell ⟨gv,10,none⟩ (.int .i64 0)).alloc (.cells #[.int .i64 (k:Int)] 3)):=(Keep.setCell (F:=fun b=>b=gv∨16≤own b) (Keep.refl _ _) (p:=⟨gv,10,none⟩) (.inl (.inl rfl)) _).alloc _
 obtain ⟨W,hW⟩:∃W,(w.setCell ⟨gv,10,none⟩ (.int .i64 0)).alloc (.cells #[.int .i64 (k:Int)] 3)=W:=⟨_,rfl⟩
 rw [hW] at h1 hgk hk1
 obtain ⟨cc1,c91,c101⟩:=h1.cells
 have c0:∀q,(W.drewN q).cell? ⟨gv,0,none⟩=some (S 0):=fun q=>cc1 0 (by omega)
 have c1:∀q,(W.drewN q).cell? ⟨gv,1,none⟩=some (S 1):=fun q=>cc1 1 (by omega)
 have c2:∀q,(W.drewN q).cell? ⟨gv,2,none⟩=some (S 2):=fun q=>cc1 2 (by omega)
 have c3:∀q,(W.drewN q).cell? ⟨gv,3,none⟩=some (S 3):=fun q=>cc1 3 (by omega)
 have c4:∀q,(W.drewN q).cell? ⟨gv,4,none⟩=some (S 4):=fun q=>cc1 4 (by omega)
 have c5:∀q,(W.drewN q).cell? ⟨gv,5,none⟩=some (S 5):=fun q=>cc1 5 (by omega)
 have c6:∀q,(W.drewN q).cell? ⟨gv,6,none⟩=some (S 6):=fun q=>cc1 6 (by omega)
 have c7:∀q,(W.drewN q).cell? ⟨gv,7,none⟩=some (S 7):=fun q=>cc1 7 (by omega)
 have c8:∀q,(W.drewN q).cell? ⟨gv,8,none⟩=some (S 8):=fun q=>cc1 8 (by omega)
 have cW9:W.cell? ⟨gv,9,none⟩=some (.int .i64 (n:Int)):=c91
 have cWk:W.cell? ⟨w.heap.size,0,none⟩=some (.int .i64 (k:Int)):=(hgk.cell 0).trans rfl
 have hk0:decide ((k:Int) < 0)=false:=by simp
 have hkn:¬n < k:=by omega
 have hkn2:¬((k:Int) > (n:Int)):=by omega
 have hWgv:=h1.blk.lt
 have hWgk:=hgk.lt
 have H1:=lhd h1
 have Hgk:=lhd hgk
 have Hk1:=lhd hk1
 have H0:=lhd h90
 have HL:=lhd hL
 have HN:=lhd hnn
 have Hins:=lhd hins
 have HW:=lhd hW
 have Hkl:=lhd hk
 have Hbase:=lhd h.base
 have hbnd0:=lhd h.bnd
 clear h h1 hgk hk1 h90 hL hnn hins hW cc cc1 c91 c101 hk
 go_enter Tryz.func135,Tryz.ntmps135
 go_wp2_with fail
 rw [HW.out]
 clear c10 f10 c9
 refine (SymIs_any s _ hs).mono ?_
 rintro e w1 ⟨rfl,hb1⟩
 have d9:w1.cell? ⟨gv,9,none⟩=some (.int .i64 (n:Int)):=(hb1.cell (p:=⟨gv,9,none⟩) hWgv).trans cW9
 have dk:w1.cell? ⟨w.heap.size,0,none⟩=some (.int .i64 (k:Int)):=(hb1.cell (p:=⟨w.heap.size,0,none⟩) hWgk).trans cWk
 obtain ⟨v2,h2⟩:=H1.out.vis (Vis.of_below hb1)
 have hgk2:=Hgk.out.below hb1 hWgk
 have hk2:Keep (fun b=>b=gv∨16≤own b) w w1:=Hk1.out.trans (Keep.of_below hb1)
 have e0:∀q,(w1.drewN q).cell? ⟨gv,0,none⟩=some (S 0):=fun q=>h2.cells.1 0 (by omega)
 have e1:∀q,(w1.drewN q).cell? ⟨gv,1,none⟩=some (S 1):=fun q=>h2.cells.1 1 (by omega)
 have e2:∀q,(w1.drewN q).cell? ⟨gv,2,none⟩=some (S 2):=fun q=>h2.cells.1 2 (by omega)
 have e3:∀q,(w1.drewN q).cell? ⟨gv,3,none⟩=some (S 3):=fun q=>h2.cells.1 3 (by omega)
 have e4:∀q,(w1.drewN q).cell? ⟨gv,4,none⟩=some (S 4):=fun q=>h2.cells.1 4 (by omega)
 have e5:∀q,(w1.drewN q).cell? ⟨gv,5,none⟩=some (S 5):=fun q=>h2.cells.1 5 (by omega)
 have e6:∀q,(w1.drewN q).cell? ⟨gv,6,none⟩=some (S 6):=fun q=>h2.cells.1 6 (by omega)
 have e7:∀q,(w1.drewN q).cell? ⟨gv,7,none⟩=some (S 7):=fun q=>h2.cells.1 7 (by omega)
 have e8:∀q,(w1.drewN q).cell? ⟨gv,8,none⟩=some (S 8):=fun q=>h2.cells.1 8 (by omega)
 have hgv1:=h2.blk.lt
 have hgk1:=hgk2.lt
 have d9q:∀q,(w1.drewN q).cell? ⟨gv,9,none⟩=some (.int .i64 (n:Int)):=fun q=>d9
 have dkq:∀q,(w1.drewN q).cell? ⟨w.heap.size,0,none⟩=some (.int .i64 (k:Int)):=fun q=>dk
 have H2:=lhd h2
 have Hgk2:=lhd hgk2
 have Hk2:=lhd hk2
 clear h2 hgk2 hk2 hb1 H1 Hgk Hk1 c0 c1 c2 c3 c4 c5 c6 c7 c8 cW9 cWk hWgv hWgk HW
 go_wp2_with fail
 go_quiet (fail)
 clear d9 dk hk0
 go_wp2_with fail
 go_loopw [35] (fun i wr=>∃(lv:Nat) (ow:Nat→Nat) (v3:Int),lv≤9∧i=.int .i64 lv∧WaveS wr B ow gv S (fun l=>if l < lv then insN L k s else L) (n:Int) v3∧Bk wr w.heap.size 3 #[.int .i64 ((atLv L k s lv:Nat):Int)]∧(∀b,b < w.heap.size→ow b=own b)∧(∀b,w.heap.size≤b→ow b≠1)∧ow w.heap.size=0∧Keep (fun b=>b=gv∨16≤own b) w wr) (fun i _=>9 -(intOf i).toNat)
 case atStart=>
  refine ⟨0,own,v2,by omega,rfl,?_,?_,fun _ _=>rfl,fun b hb e=>?_,?_,?_⟩
  · obtain ⟨v9,h9⟩:=H2.out.vis (Vis.of_below (below_drewN (Below.refl _ _) _))
    have:v9=v2:=by
        have a1:=h9.cells.2.2
        have a2:=H2.out.cells.2.2
        have a3:=a2.symm.trans a1
        injection a3 with a3
        injection a3 with _ a3
        exact a3.symm
    subst this
    simpa using h9
  · rw [H0.out]
    exact Hgk2.out.drewN _
  · have:=(hbnd0.out b (by omega)).2
    omega
  · rcases Nat.eq_zero_or_pos (own w.heap.size) with e | e
    · exact e
    · have:=(hbnd0.out w.heap.size (by omega)).2
      omega
  · exact Hk2.out.drewN _
 case round=>
  obtain ⟨lv,ow,v3,hlv,rfl,hws,hbk,hown1,hown2,hown3,hkp⟩:=hrel
  by_cases hl9:lv < 9
  · have hix:=ix9 S lv hl9
    obtain ⟨G,hown,hoz,htr⟩:=hws.rows lv hl9
    obtain ⟨m,hm⟩:∃m,2 ^ lv=m:=⟨_,rfl⟩
    obtain ⟨p,hp⟩:∃p,pathN s lv=p:=⟨_,rfl⟩
    have hpm:p < m:=by rw [←hm,←hp];exact path_lt s lv hs (by omega)
    have hpp:p < 2 ^ lv:=by rw [hm];exact hpm
    have hG0:=lhd hown
    rw [hm] at hown htr
    obtain ⟨g,cap,hSl,hnc,hgl⟩:=World.ownsRow.form hown (by omega)
    rw [hSl] at hix hown
    obtain ⟨x,hx⟩:∃x,atLv L k s lv=x:=⟨_,rfl⟩
    obtain ⟨y,hy⟩:∃y,atLv L k s (lv+1)=y:=⟨_,rfl⟩
    obtain ⟨b,hbb⟩:∃b,bitB s lv=b:=⟨_,rfl⟩
    have hxy:=atLv_step L k s lv hl9
    have hxl:=atLv_le L k s lv
    have hbi:=bitsOf_ins L k s lv
    have hbn:=bitsOf_ins_ne L k s lv
    have hbl:(bitsOf L lv (pathN s lv)).length≤127:=by
        rw [bits_len]
        exact Nat.le_trans List.countP_le_length (by rw [HN.out];exact hn)
    rw [hp,hx,hbb,hy] at hxy
    rw [hp,hx] at hxl
    rw [hp,hx,hbb] at hbi
    rw [hp] at hbl hbn
    rw [hx] at hbk
    have htp:TreeE wr (fun b=>ow b=TC lv p) (G p) (bitsOf L lv p):=by
        have:=htr p hpm
        rw [if_neg (by omega)] at this
        exact this
    have hpI:(p:Int) < (m:Int):=by omega
    have Hown:=lhd hown
    have Htp:=lhd htp
    have Hxy:=lhd hxy
    have Hxl:=lhd hxl
    have Hbi:=lhd hbi
    have Hbn:=lhd hbn
    have Hbl:=lhd hbl
    have Hp:=lhd hp
    have Hbb:=lhd hbb
    have Hy:=lhd hy
    have Hws:=lhd hws
    have Hbk:=lhd hbk
    have Hown1:=lhd hown1
    have Hown2:=lhd hown2
    have Hown3:=lhd hown3
    have Hkp:=lhd hkp
    clear hown htr hSl hm hp hx hy hbb hxy hxl hbi hbn hbl hws hbk hown1 hown2 hown3 hkp htp hoz
    go_wp2_with fail
    refine wp_region_any (by kernel_rfl) ?_
    refine wpAny_vis_tail wr.heap.size 11 [39,40,41,42,43,44,45,46,47,9,10] (fun _=>False) 8 [] (fun _=>True) (is (.bool b)) [is (.slice (some ⟨g,0,none⟩) m cap),is (.int .i64 (s:Int)),is (.int .i64 (lv:Int)),is (.int .i64 (p:Int)),is (.pointer (some ⟨g,p*3,none⟩)),is (.agg #[.pointer (some ⟨G p,0,none⟩),.int .i64 (lv:Int),.int .i64 (p:Int)]),is (.int .i64 (s:Int)),is (.int .i64 (lv:Int)),anyV,boxP wr.heap.size 177 #[.pointer none,.int .i64 0,.int .i64 0],boxP wr.heap.size 4 #[.bool false]] _ _ rfl (by decide) (by kernel_rfl) (by kernel_rfl) (by kernel_rfl) (trivial) (fun _ _ _ _ _=>trivial) (stbs_is _ _) (by repeat' (first | exact stbs_is _ _ | exact stbs_any _ | exact boxP_stb _ _ _ (by decide) (by decide) (fun _ f=>f)|(refine List.forall_mem_cons.2 ⟨?_,?_⟩)|(intro p hp;cases hp))) ?_ ?_
    · refine steps_of_n ?_
      refine steps_cons (step_on3 rfl rfl fun ev _ _ _ _ _ hold _ _ _ _ hK=>?_) ?_
      · have e8:ev (.tmp 8)=.slice (some ⟨g,0,none⟩) m cap:=hold 8 (by kernel_rfl)
        go_simp
        exact hK _ _ (vstep_vis (VisK.refl _ _)) rfl
      refine steps_cons (step_on3 rfl rfl fun ev _ _ _ _ _ hold _ _ _ _ hK=>?_) ?_
      · have e2:ev (.tmp 2)=.int .i64 (s:Int):=hold 2 (by kernel_rfl)
        go_simp
        exact hK _ _ (vstep_vis (VisK.refl _ _)) rfl
      refine steps_cons (step_on3 rfl rfl fun ev _ _ _ _ _ hold _ _ _ _ hK=>?_) ?_
      · have e7:ev (.tmp 7)=.int .i64 (lv:Int):=hold 7 (by kernel_rfl)
        go_simp
        exact hK _ _ (vstep_vis (VisK.refl _ _)) rfl
      refine steps_cons (step_on3 rfl rfl fun _ w5 _ _ _ _ _ hval _ _ _ hK=>?_) ?_
      · have e40:_=_:=hval 1 40 (by kernel_rfl) rfl
        have e41:_=_:=hval 2 41 (by kernel_rfl) rfl
        go_simp
        refine (SymPath_any s lv w5 hs (by omega)).mono ?_
        rintro e w8 ⟨rfl,hb8⟩
        rw [Hp.out]
        exact hK _ _ (vstep_vis (VisK.of_below hb8)) rfl
      refine steps_cons (step_on3 rfl rfl fun _ _ _ _ _ _ _ hval _ _ _ hK=>?_) ?_
      · have e39:_=_:=hval 0 39 (by kernel_rfl) rfl
        have e42:_=_:=hval 3 42 (by kernel_rfl) rfl
        go_simp
        exact hK _ _ (vstep_vis (VisK.refl _ _)) rfl
      refine steps_cons (step_on3 rfl rfl fun _ w5 hS _ _ _ _ hval _ _ _ hK=>?_) ?_
      · replace hS:VFB wr.heap.size (fun _=>False) wr w5:=⟨⟨hS.1.os,hS.1.tape,hS.1.output,hS.1.size,hS.1.block⟩,⟨hS.2.os,hS.2.tape,hS.2.output,hS.2.size,hS.2.block⟩⟩
        have e43:_=_:=hval 4 43 (by kernel_rfl) rfl
        have hrow5:=hS.1.to_vis (fun _ _ f=>f)
        have hrow6:=hrow5.own Hown.out (by decide) (by decide)
        obtain ⟨q0,q1,q2⟩:=shelfL_get G lv m p hpm
        have a0:w5.cell? ⟨g,p*3,none⟩=_:=(World.ownsRow.cellAt hrow6 (p*3) (by omega)).trans q0
        have a1:w5.cell? ⟨g,p*3+1,none⟩=_:=(World.ownsRow.cellAt hrow6 (p*3+1) (by omega)).trans q1
        have a2:w5.cell? ⟨g,p*3+2,none⟩=_:=(World.ownsRow.cellAt hrow6 (p*3+2) (by omega)).trans q2
        go_simp
        exact hK _ _ (vstep_vis (VisK.refl _ _)) rfl
      refine steps_cons (step_on3 rfl rfl fun ev _ _ _ _ _ hold _ _ _ _ hK=>?_) ?_
      · have e2:ev (.tmp 2)=.int .i64 (s:Int):=hold 2 (by kernel_rfl)
        go_simp
        exact hK _ _ (vstep_vis (VisK.refl _ _)) rfl
      refine steps_cons (step_on3 rfl rfl fun ev _ _ _ _ _ hold _ _ _ _ hK=>?_) ?_
      · have e7:ev (.tmp 7)=.int .i64 (lv:Int):=hold 7 (by kernel_rfl)
        go_simp
        exact hK _ _ (vstep_vis (VisK.refl _ _)) rfl
      refine steps_cons (step_on3 rfl rfl fun _ w5 _ _ _ _ _ hval _ _ _ hK=>?_) ?_
      · have e45:_=_:=hval 6 45 (by kernel_rfl) rfl
        have e46:_=_:=hval 7 46 (by kernel_rfl) rfl
        go_simp
        refine (SymBit_any s lv w5 hs (by omega)).mono ?_
        rintro e w8 ⟨rfl,hb8⟩
        rw [Hbb.out]
        exact hK _ _ (vstep_vis (VisK.of_below hb8)) rfl
      refine steps_cons (step_on3 rfl rfl fun _ w5 hS _ _ _ _ _ _ _ _ hK=>?_) ?_
      · replace hS:VFB wr.heap.size (fun _=>False) wr w5:=⟨⟨hS.1.os,hS.1.tape,hS.1.output,hS.1.size,hS.1.block⟩,⟨hS.2.os,hS.2.tape,hS.2.output,hS.2.size,hS.2.block⟩⟩
        go_simp
        exact hK _ _ (vstep_vis (VisK.of_below ((Below.refl _ _).alloc (Nat.le_refl _) _))) ⟨_,rfl,Bk.new _ _ _,hS.1.size⟩
      refine steps_cons (step_on3 rfl rfl fun _ w5 hS _ _ _ _ _ _ _ _ hK=>?_) ?_
      · replace hS:VFB wr.heap.size (fun _=>False) wr w5:=⟨⟨hS.1.os,hS.1.tape,hS.1.output,hS.1.size,hS.1.block⟩,⟨hS.2.os,hS.2.tape,hS.2.output,hS.2.size,hS.2.block⟩⟩
        go_simp
        exact hK _ _ (vstep_vis (VisK.of_below ((Below.refl _ _).alloc (Nat.le_refl _) _))) ⟨_,rfl,Bk.new _ _ _,hS.1.size⟩
      exact steps_nil
    · intro ev w6 f hS hval hall
      replace hS:VFB wr.heap.size (fun _=>False) wr w6:=⟨⟨hS.1.os,hS.1.tape,hS.1.output,hS.1.size,hS.1.block⟩,⟨hS.2.os,hS.2.tape,hS.2.output,hS.2.size,hS.2.block⟩⟩
      have e44:ev (.tmp 44)=.agg #[.pointer (some ⟨G p,0,none⟩),.int .i64 (lv:Int),.int .i64 (p:Int)]:=hval 5 44 (by decide) rfl
      have e47:ev (.tmp 47)=.bool b:=hval 8 47 (by decide) rfl
      have p9:(boxP wr.heap.size 177 #[.pointer none,.int .i64 0,.int .i64 0]) (ev (.tmp 9)) w6:=hval 9 9 (by decide) rfl
      have p10:(boxP wr.heap.size 4 #[.bool false]) (ev (.tmp 10)) w6:=hval 10 10 (by decide) rfl
      obtain ⟨vJ,pJ0⟩:=hall 8 (by decide)
      have pJ:(is (.bool b)) vJ w6:=pJ0
      clear pJ0 hall
      simp only [putsOf,List.foldl_cons,List.foldl_nil,Act.put,List.setIfInBounds_toArray,List.set_cons_zero,List.set_cons_succ]
      rw [e44]
      rw [e47]
      clear hval
      obtain ⟨g9,q9,hb9,hg9⟩:=p9
      obtain ⟨g10,q10,hb10,hg10⟩:=p10
      rw [q9,q10]
      have hwr6:Below wr.heap.size wr w6:=hS.2.to_below (Nat.le_refl _) (fun b hb f=>by rcases f with f | f;exact f;omega)
      have z0:w6.cell? ⟨g9,0,none⟩=some (.pointer none):=(hb9.cell 0).trans rfl
      have z1:w6.cell? ⟨g9,1,none⟩=some (.int .i64 0):=(hb9.cell 1).trans rfl
      have z2:w6.cell? ⟨g9,2,none⟩=some (.int .i64 0):=(hb9.cell 2).trans rfl
      have fz0:=hb9.frozen 0
      have fz1:=hb9.frozen 1
      have fz2:=hb9.frozen 2
      have y0:w6.cell? ⟨g10,0,none⟩=some (.bool false):=(hb10.cell 0).trans rfl
      have fy:=hb10.frozen 0
      have hne:g9≠g10:=Bk.ne hb9 hb10 (by decide)
      have hl9:=hb9.lt
      have hl10:=hb10.lt
      have Hb9:=lhd hb9
      have Hb10:=lhd hb10
      have Hwr6:=lhd hwr6
      clear hb9 hb10 hwr6 hS pJ e44 e47 q9 q10
      change wpAny Tryz.prog Region.Mode.any _ _ (2+f) (firstN 11 13) _ w6
      rw [show 2+f=f+1+1 by omega]
      refine wpAny_one (f:=f+1) (i:=11) (by kernel_rfl) ?_
      refine wpOp_run rfl rfl ?_
      generalize hK:wpAny Tryz.prog _ _ _ (f+1) _=K5
      go_simp
      subst hK
      refine wpAny_one (f:=f) (i:=12) (by kernel_rfl) ?_
      refine wpOp_run rfl rfl ?_
      generalize hK:wpAny Tryz.prog _ _ _ f _=K5
      go_simp
      subst hK
      refine wpAny_all (by kernel_rfl) ?_
      obtain ⟨W7,hW7⟩:∃W7,((((w6.setCell ⟨g9,0,none⟩ (.pointer (some ⟨G p,0,none⟩))).setCell ⟨g9,1,none⟩ (.int .i64 (lv:Int))).setCell ⟨g9,2,none⟩ (.int .i64 (p:Int))).setCell ⟨g10,0,none⟩ (.bool b))=W7:=⟨_,rfl⟩
      have hb97:Bk W7 g9 177 #[.pointer (some ⟨G p,0,none⟩),.int .i64 (lv:Int),.int .i64 (p:Int)]:=by rw [←hW7];exact (((Hb9.out.set 0 _).set 1 _).set 2 _).far (p:=⟨g10,0,none⟩) hne _
      have hb107:Bk W7 g10 4 #[.bool b]:=by rw [←hW7];exact (((Hb10.out.far (p:=⟨g9,0,none⟩) (fun e=>hne e.symm) _).far (p:=⟨g9,1,none⟩) (fun e=>hne e.symm) _).far (p:=⟨g9,2,none⟩) (fun e=>hne e.symm) _).set 0 _
      have hk7:Keep (fun _=>False) wr W7:=by rw [←hW7];exact Keep.setCell (F:=fun _=>False) (Keep.setCell (F:=fun _=>False) (Keep.setCell (F:=fun _=>False) (Keep.setCell (F:=fun _=>False) (Keep.of_below Hwr6.out) (p:=⟨g9,0,none⟩) (.inr hg9) _) (p:=⟨g9,1,none⟩) (.inr hg9) _) (p:=⟨g9,2,none⟩) (.inr hg9) _) (p:=⟨g10,0,none⟩) (.inr hg10) _
      rw [hW7]
      have hbel7:Below wr.heap.size wr W7:=hk7.to_below (Nat.le_refl _) (fun _ _ f=>f)
      have Hb97:=lhd hb97
      have Hb107:=lhd hb107
      have Hbel7:=lhd hbel7
      clear hb97 hb107 hk7 hbel7 hW7 z0 z1 z2 fz0 fz1 fz2 y0 fy Hb9 Hb10 Hwr6 hl9 hl10
      obtain ⟨v7,h7⟩:=Hws.out.vis (Vis.of_below Hbel7.out)
      have hgk7:=Hbk.out.below Hbel7.out Hbk.out.lt
      have ht7:=Htp.out.below Hbel7.out
      have hgv0:=Hws.out.base.2
      have hbndr:=Hws.out.bnd
      have hsz7:=Hbel7.out.size
      have hgkr:=Hbk.out.lt
      have x0:W7.cell? ⟨g9,0,none⟩=some (.pointer (some ⟨G p,0,none⟩)):=(Hb97.out.cell 0).trans rfl
      have x1:W7.cell? ⟨g9,1,none⟩=some (.int .i64 (lv:Int)):=(Hb97.out.cell 1).trans rfl
      have x2:W7.cell? ⟨g9,2,none⟩=some (.int .i64 (p:Int)):=(Hb97.out.cell 2).trans rfl
      have hg97:=Hb97.out.lt
      have hmf:∀(fn:Fn) (first cap:Array Value) (w:World),(Instr.makeFunc fn first cap).run Tryz.prog w=.ok (.func fn first cap) w:=fun _ _ _ _=>rfl
      have H7:=lhd h7
      have Hgk7:=lhd hgk7
      have Ht7:=lhd ht7
      have Hgv0:=lhd hgv0
      have Hbndr:=lhd hbndr
      clear h7 hgk7 ht7 hgv0 hbndr
      go_wp2_with fail
      refine (LookI_any gv (G p) w.heap.size g10 S n v7 lv p (fun b=>ow b=TC lv p) (bitsOf L lv p) x b W7 H7.out.blk Ht7.out (fun f=>by rw [Hgv0.out] at f;unfold TC at f;omega) (fun y hy=>(H7.out.bnd y (by rw [hy];unfold TC;omega)).2) Hgk7.out Hb107.out Hbl.out Hxl.out).mono ?_
      rintro e W8 ⟨rfl,ht8,hk8,v8,hbk8⟩
      have hed:=H7.out.edit (lv:=lv) (p:=p) (gx:=gv) hl9 hpp (own_below hG0.out Hbel7.out) (by rw [Hgv0.out];omega) (fun cs hc=>absurd (bk_inj hc H7.out.blk).1 (by decide)) ht8 (hk8.mono fun y _ f=>by rcases f with f | f;exact .inl f;exact .inr (.inl f)) hbk8 (L':=insN L k s) Hbi.out (fun q hq=>by rw [if_neg (Nat.lt_irrefl _)];exact Hbn.out q (fun e=>hq e.symm))
      have hfun:(fun l=>if l=lv then insN L k s else if l < lv then insN L k s else L)=fun l=>if l < lv+1 then insN L k s else L:=by
       funext l
       by_cases c1:l=lv
       · rw [if_pos c1,if_pos (by omega)]
       · by_cases c2:l < lv
         · rw [if_neg c1,if_pos c2,if_pos (by omega)]
         · rw [if_neg c1,if_neg c2,if_neg (by omega)]
      rw [hfun] at hed
      have nF:∀y,wr.heap.size≤y→¬(ow y=TC lv p∨y=gv):=fun y hy f=>by
       rcases f with f | f
       · have:=(Hbndr.out y (by rw [f];unfold TC;omega)).2
         omega
       · have:=Hws.out.blk.lt
         omega
      have hgk8:=hk8.bk Hgk7.out (fun f=>by
       rcases f with f | f
       · rw [Hown3.out] at f
         unfold TC at f
         omega
       · exact hgv_gk f.symm)
      have hb98:=hk8.bk Hb97.out (nF g9 hg9)
      have hb108:=hk8.bk Hb107.out (nF g10 hg10)
      have y0:W8.cell? ⟨g9,0,none⟩=some (.pointer (some ⟨G p,0,none⟩)):=(hb98.cell 0).trans rfl
      have y1:W8.cell? ⟨g9,1,none⟩=some (.int .i64 (lv:Int)):=(hb98.cell 1).trans rfl
      have y2:W8.cell? ⟨g9,2,none⟩=some (.int .i64 (p:Int)):=(hb98.cell 2).trans rfl
      have yk:W8.cell? ⟨w.heap.size,0,none⟩=some (.int .i64 (x:Int)):=(hgk8.cell 0).trans rfl
      have yb:W8.cell? ⟨g10,0,none⟩=some (.bool b):=(hb108.cell 0).trans rfl
      have hg98:=hb98.lt
      have hg108:=hb108.lt
      have hgk8l:=hgk8.lt
      have htA:=ht8.at
      have hGc:ow (G p)=TC lv p:=Htp.out.1
      have Hed:=lhd hed
      have Hk8:=lhd hk8
      have Hgk8:=lhd hgk8
      have HtA:=lhd htA
      have Hbk8:=lhd hbk8
      have HGc:=lhd hGc
      have hxI:x≤(insN (bitsOf L lv p) x b).length:=by rw [insN_len _ _ Hxl.out];have:=Hxl.out;omega
      clear ht8 hk8 hbk8 hed hfun nF hgk8 hb98 hb108 htA x0 x1 x2 hmf hGc
      go_wp2_with fail
      refine (WRank1_any gv (G p) S n v8 lv p (insN (bitsOf L lv p) x b) x b W8 Hbk8.out HtA.out hxI).mono ?_
      rintro e W9 ⟨rfl,hv9⟩
      rw [take_insN _ _ _ Hxl.out,Hxy.out]
      obtain ⟨v9,h9⟩:=Hed.out.vis hv9.1
      have hgk9:=hv9.1.bk Hgk8.out (by decide) (by decide)
      have zk:W9.cell? ⟨w.heap.size,0,none⟩=some (.int .i64 (x:Int)):=(hgk9.cell 0).trans rfl
      have fk:=hgk9.frozen 0
      have hgk9l:=hgk9.lt
      have hgk10:=hgk9.set 0 (.int .i64 (y:Int))
      have hrc0:recol ow W7.heap.size W8.heap.size (TC lv p) w.heap.size=0:=by
       unfold recol
       rw [if_pos (by omega)]
       exact Hown3.out
      have h10:=h9.far (w':=W9.setCell ⟨w.heap.size,0,none⟩ (.int .i64 (y:Int))) (H:=fun b=>b=w.heap.size) (Keep.setCell (F:=fun b=>b=w.heap.size) (Keep.refl _ _) (p:=⟨w.heap.size,0,none⟩) (.inl rfl) _) (fun b e=>by rw [show b=w.heap.size from e,hrc0];omega)
      have hsw:=Hkp.out.size
      have hkF:Keep (fun b=>b=gv∨16≤own b) w (W9.setCell ⟨w.heap.size,0,none⟩ (.int .i64 (y:Int))):=Keep.setCell (F:=fun b=>b=gv∨16≤own b) (((Hkp.out.trans (Keep.of_below Hbel7.out)).trans' Hk8.out (fun b hb f=>by
       rcases f with f | f
       · right
         rw [←Hown1.out b hb,f]
         unfold TC
         omega
       · exact .inl f)).trans' hv9.2 (fun b hb f=>by
       rcases f with f | f
       · exact .inl f
       · right
         rw [←Hown1.out b hb,f,HGc.out]
         unfold TC
         omega)) (p:=⟨w.heap.size,0,none⟩) (.inr (Nat.le_refl _)) _
      have H10:=lhd h10
      have Hgk10:=lhd hgk10
      have HkF:=lhd hkF
      have Hrc0:=lhd hrc0
      clear hv9 h9 hgk9 hgk10 h10 hkF hrc0 y0 y1 y2 yk yb
      go_wp2_with fail
      go_roundw
      case rel=>
       refine ⟨lv+1,recol ow W7.heap.size W8.heap.size (TC lv p),v9,by omega,by go_num,H10.out,?_,fun b hb=>?_,fun b hb=>?_,Hrc0.out,HkF.out⟩
       · rw [Hy.out]
         exact Hgk10.out
       · unfold recol
         rw [if_pos (by omega)]
         exact Hown1.out b hb
       · unfold recol
         by_cases c1:b < W7.heap.size
         · rw [if_pos c1]
           exact Hown2.out b hb
         · rw [if_neg c1]
           unfold TC
           split <;> omega
      case measure=>simp [intOf];omega
  · obtain rfl:lv=9:=by omega
    have hS9:WaveS wr B ow gv S (fun _=>insN L k s) (n:Int) v3:=⟨hws.blk,hws.base,fun l hl=>by have:=hws.rows l hl;simpa [hl] using this,hws.bnd⟩
    obtain ⟨_,x9,_⟩:=hS9.cells
    have f9:=hS9.blk.frozen 9
    have hgvr:=hS9.blk.lt
    have hS10:=hS9.set_n ((n:Int)+1)
    have e1:wrap64 ((n:Int)+1)=(n:Int)+1:=by unfold wrap64;omega
    have hkf:Keep (fun b=>b=gv∨16≤own b) w (wr.setCell ⟨gv,9,none⟩ (.int .i64 ((n:Int)+1))):=Keep.setCell (F:=fun b=>b=gv∨16≤own b) hkp (p:=⟨gv,9,none⟩) (.inl (.inl rfl)) _
    have HS10:=lhd hS10
    have Hkf:=lhd hkf
    have Hown1:=lhd hown1
    have Hown2:=lhd hown2
    clear hws hS9 hS10 hkp hkf hbk hown1 hown2 hown3
    go_wp2_with fail
    go_ret
    refine ⟨rfl,ow,⟨S,v3,?_⟩,Hown1.out,Hown2.out,Hkf.out⟩
    rw [Hins.out]
    exact HS10.out
end Go.Proofs.YtipaccakmndkgaaGreatDoor
