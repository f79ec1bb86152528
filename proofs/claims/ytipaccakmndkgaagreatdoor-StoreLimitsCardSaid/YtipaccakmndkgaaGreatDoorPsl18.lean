/- An arena that owns its blocks (ArenaE); the walks of arena's Take (a number that is free), Is and Free (one number). Conditions: at most 2^20 numbers. The walks of slices.Grow (of nil) and slices.Concat. Conditions: sizes of at most 2^40. The walks of perm's All, Next and Row. Conditions: at most 1000 pairs, in the order in which they were made. slices.SortFunc of an own row of numbers, by what they stand for. Conditions: numbers below a bound; the comparison leaves the world (but draws). slices.Delete of one element. Conditions: as in EdIns. -/
import Derived.Test.YtipaccakmndkgaaGreatDoorPsl17
import Derived.Test.YtipaccakmndkgaaGreatDoorPsl2
import Derived.BigQuiet
import Derived.Lib.AppendZeros
import Derived.Lib.LazyBuf
import Derived.Test.YtipaccakmndkgaaGreatDoorPsl14
set_option linter.unusedVariables false
set_option linter.unusedSimpArgs false
set_option maxRecDepth 100000
set_option maxHeartbeats 2000000
namespace Go.Proofs.YtipaccakmndkgaaGreatDoor
open Go.RowKit
def OwnF (F:Nat→Prop) (v:Value):Prop:=∀b,v.ownBlock=some b→F b
def Gw (F:Nat→Prop) (n:Nat) (b:Nat):Prop:=F b∨n≤b
theorem Gw.keep {F:Nat→Prop} {w w1 w2:World} (h:Keep F w w1) (k:Keep (Gw F w.heap.size) w1 w2):Keep F w w2:=h.trans' k fun b hb g=>by
 rcases g with g | g
 · exact g
 · omega
theorem OwnF.mono {F G:Nat→Prop} {v:Value} (h:OwnF F v) (k:∀b,F b→G b):OwnF G v:=fun b hb=>k b (h b hb)
theorem OwnF.slice {F:Nat→Prop} {g o n c:Nat} (h:F g):OwnF F (.slice (some ⟨g,o,none⟩) n c):=fun b hb=>by
 injection hb with hb
 rw [←hb]
 exact h
theorem OwnF.at {F:Nat→Prop} {g o n c:Nat} (h:OwnF F (.slice (some ⟨g,o,none⟩) n c)):F g:=h g rfl
def ArenaE (w:World) (F:Nat→Prop) (ga:Nat) (tk:List Bool) (fr:List Nat):Prop:=
 F ga∧∃At ct Af cf,Bk w ga 217 #[.slice At tk.length ct,.slice Af fr.length cf,.int .i64 268435456]∧w.ownsRow 0 4 1 (.slice At tk.length ct) tk.length (tk.map Value.bool)∧w.ownsRow 0 3 1 (.slice Af fr.length cf) fr.length (fr.map sv)∧OwnF F (.slice At tk.length ct)∧OwnF F (.slice Af fr.length cf)
theorem own_cut {w:World} {B n m sz c:Nat} {e:TypeId} {A:Option Addr} {xs:List Value} (h:w.ownsRow B e sz (.slice A n c) n xs) (hm:m≤n) (hn:0 < n):w.ownsRow B e sz (.slice A m c) m (xs.take (m*sz)):=by
 rcases h.2 with ⟨h1,h2⟩|⟨g,cap,cur,h1,h2,h3,h4,h5,h6,h7⟩
 · omega
 · injection h1 with h8 h9 h10
   subst h8 h10
   have hms:m*sz≤n*sz:=Nat.mul_le_mul_right _ hm
   refine ⟨by rw [List.length_take,h.1];omega,.inr ⟨g,c,cur,rfl,h2,h3,by omega,h5,h6,?_⟩⟩
   rw [←h7,List.take_take,Nat.min_eq_left hms]
theorem own_cap {w:World} {B n sz c:Nat} {e:TypeId} {A:Option Addr} {xs:List Value} (h:w.ownsRow B e sz (.slice A n c) n xs):n≤c∧c≤maxLen:=by
 rcases h.2 with ⟨h1,h2⟩|⟨g,cap,cur,h1,h2,h3,h4,h5,h6,h7⟩
 · injection h1 with _ _ h1
   subst h1
   subst h2
   exact ⟨Nat.le_refl _,Nat.zero_le _⟩
 · injection h1 with _ _ h1
   subst h1
   exact ⟨h4,h5⟩
theorem ArenaE.vis {w w':World} {F:Nat→Prop} {ga:Nat} {tk:List Bool} {fr:List Nat} (h:ArenaE w F ga tk fr) (k:Vis w w'):ArenaE w' F ga tk fr:=by
 obtain ⟨h0,At,ct,Af,cf,h1,h2,h3,h4,h5⟩:=h
 exact ⟨h0,At,ct,Af,cf,k.bk h1 (by decide) (by decide),k.own h2 (by decide) (by decide),k.own h3 (by decide) (by decide),h4,h5⟩
theorem ArenaE.mono {w:World} {F G:Nat→Prop} {ga:Nat} {tk:List Bool} {fr:List Nat} (h:ArenaE w F ga tk fr) (k:∀b,b < w.heap.size→F b→G b):ArenaE w G ga tk fr:=by
 obtain ⟨h0,At,ct,Af,cf,h1,h2,h3,h4,h5⟩:=h
 exact ⟨k _ h1.lt h0,At,ct,Af,cf,h1,h2,h3,fun b hb=>k b (h2.lt b hb).2 (h4 b hb),fun b hb=>k b (h3.lt b hb).2 (h5 b hb)⟩
theorem ArenaE.keep {w w':World} {F G:Nat→Prop} {ga:Nat} {tk:List Bool} {fr:List Nat} (h:ArenaE w F ga tk fr) (k:Keep G w w') (hf:∀b t cs,t∈ [217,4,3]→Bk w b t cs→F b→¬G b):ArenaE w' F ga tk fr:=by
 obtain ⟨h0,At,ct,Af,cf,h1,h2,h3,h4,h5⟩:=h
 refine ⟨h0,At,ct,Af,cf,k.bk h1 (hf _ _ _ (by decide) h1 h0),own_same h2 fun b cs hb hk=>k.bk hk (hf _ _ _ (by decide) hk (h4 b hb)),own_same h3 fun b cs hb hk=>k.bk hk (hf _ _ _ (by decide) hk (h5 b hb)),h4,h5⟩
theorem TakePop_any (F:Nat→Prop) (ga k:Nat) (tk:List Bool) (fr:List Nat) (w:World) (h:ArenaE w F ga tk (fr++ [k])) (hk:k < tk.length) (ht:tk.length≤1000000) (hf:fr.length < tk.length):
 Calls Tryz.prog 122 #[.pointer (some ⟨ga,0,none⟩)] w fun e w'=>e=.returned (.tuple #[.int .i64 (k:Int),.int .i64 0])∧ArenaE w' F ga (tk.set k true) fr∧Keep F w w':=by
 obtain ⟨hFa,A,c,Af,cf,hb,hrt,hrf,hot,hof⟩:=h
 obtain ⟨N,hN⟩:∃N,tk.length=N:=⟨_,rfl⟩
 obtain ⟨m,hm⟩:∃m,fr.length=m:=⟨_,rfl⟩
 have hm1:(fr++ [k]).length=m+1:=by simp [hm]
 rw [hm1] at hb hrf hof
 rw [hN] at hb hrt hot ht hk hf
 rw [hm] at hf
 obtain ⟨gt,ct,hA,_,hgt⟩:=World.ownsRow.form hrt (by omega)
 injection hA with hA _ hcc
 subst hA hcc
 obtain ⟨gf,c2,hA2,_,hgf⟩:=World.ownsRow.form hrf (by omega)
 injection hA2 with hA2 _ hcc2
 subst hA2 hcc2
 have hcf:=own_cap hrf
 have hrf2:=own_cut (m:=m) hrf (by omega) (by omega)
 have hfm:((fr++ [k]).map sv).take (m*1)=fr.map sv:=by
  have:(fr.map sv).length=m:=by rw [List.length_map,hm]
  rw [List.map_append,Nat.mul_one,←this,List.take_left]
 rw [hfm] at hrf2
 have ck:w.cell? ⟨gf,m,none⟩=some (.int .i64 (k:Int)):=by
  refine (World.ownsRow.cellAt hrf m (by omega)).trans ?_
  rw [List.map_append,List.getElem?_append_right (by simp [hm]),List.length_map,hm,Nat.sub_self]
  rfl
 obtain ⟨tb,htb⟩:∃tb,tk[k]?=some tb:=⟨_,List.getElem?_eq_getElem (by omega)⟩
 have ct':w.cell? ⟨gt,k,none⟩=some (.bool tb):=by
  refine (World.ownsRow.cellAt hrt k (by omega)).trans ?_
  rw [List.getElem?_map,htb]
  rfl
 have hta:ga≠gt:=fun e=>own_bk_ne hrt hb (by decide) (by rw [e];rfl)
 have hfa:ga≠gf:=fun e=>own_bk_ne hrf hb (by decide) (by rw [e];rfl)
 have hftk:∃cur,Bk w gt 4 cur:=by
  rcases hrt.2 with ⟨h1,_⟩|⟨g',cap,cur,h1,_,h3,_⟩
  · cases h1
  · injection h1 with h1 _ _
    injection h1 with h1
    injection h1 with h1 _
    subst h1
    exact ⟨cur,h3⟩
 obtain ⟨cur,hbt⟩:=hftk
 have hgl:=hb.lt
 have Hb:=lhd hb
 have Hrt:=lhd hrt
 have Hrf2:=lhd hrf2
 have Hot:=lhd hot
 have Hof:=lhd hof
 have Hbt:=lhd hbt
 have HN:=lhd hN
 have Hm:=lhd hm
 clear hb hrt hrf hrf2 hot hof hfm hm1 htb hN hm hbt
 go_enter Tryz.func122,Tryz.ntmps122
 go_wp2
 refine wp_region_any (by kernel_rfl) ?_
 refine wpAny_loose2 [10,11,12,13,14,15,16,9] (Grow) (Vs [is (.pointer (some ⟨ga,0,none⟩)),is (.int .i64 ((N -(m+1):Nat):Int)),is (.pointer (some ⟨ga,0,none⟩)),is (.pointer (some ⟨ga,0,none⟩)),is (.pointer (some ⟨ga,2,none⟩)),is (.int .i64 268435456),is (.bool false),is (.bool false)]) _ _ rfl (by kernel_rfl) (Below.refl _ _) (fun _ _=>Grow.trans) (stbs_all (by repeat' (first | exact stbs_is _ _ | exact stbs_any _ |(refine List.forall_mem_cons.2 ⟨?_,?_⟩)|(intro p hp;cases hp)))) ?_ ?_
 · refine steps_of ?_
   refine steps_cons (step_on rfl rfl fun ev _ _ _ _ hold _ _ _ _ hK=>?_) ?_
   · have e0:ev (.tmp 0)=.pointer (some ⟨ga,0,none⟩):=hold 0 (by kernel_rfl)
     go_simp
     exact hK _ _ ((Below.refl _ _)) rfl
   refine steps_cons (step_on rfl rfl fun _ w5 hS _ _ _ hval _ _ _ hK=>?_) ?_
   · have e10:_=_:=hval 0 10 (by kernel_rfl) rfl
     replace hS:(Grow) w w5:=⟨hS.os,hS.tape,hS.output,hS.size,hS.block⟩
     go_simp
     refine (ArenaLive_any ga (some ⟨gt,0,none⟩) c (some ⟨gf,0,none⟩) cf N (m+1) w5 (Hb.out.below hS Hb.out.lt) (by omega) (by omega)).mono ?_
     rintro e w8 ⟨rfl,hb8⟩
     exact hK _ _ hb8 rfl
   refine steps_cons (step_on rfl rfl fun ev _ _ _ _ hold _ _ _ _ hK=>?_) ?_
   · have e0:ev (.tmp 0)=.pointer (some ⟨ga,0,none⟩):=hold 0 (by kernel_rfl)
     go_simp
     exact hK _ _ ((Below.refl _ _)) rfl
   refine steps_cons (step_on rfl rfl fun _ _ _ _ _ _ hval _ _ _ hK=>?_) ?_
   · have e12:_=_:=hval 2 12 (by kernel_rfl) rfl
     go_simp
     exact hK _ _ ((Below.refl _ _)) rfl
   refine steps_cons (step_on rfl rfl fun _ _ _ _ _ _ hval _ _ _ hK=>?_) ?_
   · have e13:_=_:=hval 3 13 (by kernel_rfl) rfl
     go_simp
     exact hK _ _ ((Below.refl _ _)) rfl
   refine steps_cons (step_on rfl rfl fun _ w5 hS _ _ _ hval _ _ _ hK=>?_) ?_
   · have e14:_=_:=hval 4 14 (by kernel_rfl) rfl
     replace hS:(Grow) w w5:=⟨hS.os,hS.tape,hS.output,hS.size,hS.block⟩
     have c15:w5.cell? ⟨ga,2,none⟩=some (.int .i64 268435456):=((Hb.out.below hS Hb.out.lt).cell 2).trans rfl
     go_simp
     exact hK _ _ ((Below.refl _ _)) rfl
   refine steps_cons (step_on rfl rfl fun _ _ _ _ _ _ hval _ _ _ hK=>?_) ?_
   · have e11:_=_:=hval 1 11 (by kernel_rfl) rfl
     have e15:_=_:=hval 5 15 (by kernel_rfl) rfl
     have hne:(((N -(m+1):Nat):Int)==268435456)=false:=by rw [beq_eq_false_iff_ne];omega
     go_simp
     exact hK _ _ (Below.refl _ _) (by first | rfl | simp [is] |(simp [is];omega))
   refine steps_cons (step_on rfl rfl fun _ _ _ _ _ _ hval _ _ _ hK=>?_) ?_
   · have e16:_=_:=hval 6 16 (by kernel_rfl) rfl
     go_simp
     exact hK _ _ ((Below.refl _ _)) rfl
   exact steps_nil
 · intro ev w6 hS hval
   replace hS:(Grow) w w6:=⟨hS.os,hS.tape,hS.output,hS.size,hS.block⟩
   have e9:ev (.tmp 9)=.bool false:=hval 7 9 rfl
   simp only [putsOf,List.foldl_cons,List.foldl_nil,Act.put,List.setIfInBounds_toArray,List.set_cons_zero,List.set_cons_succ]
   rw [e9]
   clear hval
   have hbW:=Hb.out.below hS Hb.out.lt
   have hbtW:=Hbt.out.below hS Hbt.out.lt
   have c0:w6.cell? ⟨ga,0,none⟩=some (.slice (some ⟨gt,0,none⟩) N c):=(hbW.cell 0).trans rfl
   have c1:w6.cell? ⟨ga,1,none⟩=some (.slice (some ⟨gf,0,none⟩) (m+1) cf):=(hbW.cell 1).trans rfl
   have f1:=hbW.frozen 1
   have ft:=hbtW.frozen k
   have ck6:w6.cell? ⟨gf,m,none⟩=some (.int .i64 (k:Int)):=(hS.cell (p:=⟨gf,m,none⟩) hgf).trans ck
   have ct6:w6.cell? ⟨gt,k,none⟩=some (.bool tb):=(hS.cell (p:=⟨gt,k,none⟩) hgt).trans ct'
   have hga6:=hbW.lt
   have hgt6:=hbtW.lt
   have hgf6:gf < w6.heap.size:=Nat.lt_of_lt_of_le hgf hS.size
   have hrt6:=own_below Hrt.out hS
   have hrf6:=own_below Hrf2.out hS
   have HS:=lhd hS
   have HbW:=lhd hbW
   have HbtW:=lhd hbtW
   have Hrt6:=lhd hrt6
   have Hrf6:=lhd hrf6
   have e1:IntKind.i64.wrap (((m+1:Nat):Int) - 1)=(m:Int):=by rw [IntKind.wrap_i64];omega
   have i1:(m:Int) < ((m+1:Nat):Int):=by omega
   have i2:(k:Int) < (N:Int):=by omega
   have i3:(m:Int)≤(cf:Int):=by omega
   have i4:((m+1:Nat):Int) > 0:=by omega
   clear hS hbW hbtW hrt6 hrf6 ck ct'
   go_wp2_with fail
   go_ret2
   have hk1:Keep F w w6:=Keep.of_below HS.out
   have hb7:=HbW.out.set 1 (.slice (some ⟨gf,0,none⟩) m cf)
   have hb8:=hb7.far (p:=⟨gt,k,none⟩) hta (.bool true)
   have hrt7:=own_same (w':=w6.setCell ⟨ga,1,none⟩ (.slice (some ⟨gf,0,none⟩) m cf)) Hrt6.out fun b cs _ hb'=>hb'.far (Bk.ne hb' HbW.out (by decide)) _
   have hrt8:=(World.ownsRow.stored hrt7 k (.bool true)).1
   have hrf7:=own_same (w':=w6.setCell ⟨ga,1,none⟩ (.slice (some ⟨gf,0,none⟩) m cf)) Hrf6.out fun b cs _ hb'=>hb'.far (Bk.ne hb' HbW.out (by decide)) _
   have hbt7:=HbtW.out.far (p:=⟨ga,1,none⟩) (fun e=>hta e.symm) (.slice (some ⟨gf,0,none⟩) m cf)
   have hrf8:=own_same (w':=(w6.setCell ⟨ga,1,none⟩ (.slice (some ⟨gf,0,none⟩) m cf)).setCell ⟨gt,k,none⟩ (.bool true)) hrf7 fun b cs _ hb'=>hb'.far (Bk.ne hb' hbt7 (by decide)) _
   have hFt:F gt:=OwnF.at Hot.out
   have hFf:F gf:=OwnF.at Hof.out
   rw [show ((tk.map Value.bool).set k (.bool true))=(tk.set k true).map Value.bool by rw [List.map_set]] at hrt8
   refine ⟨rfl,⟨hFa,some ⟨gt,0,none⟩,c,some ⟨gf,0,none⟩,cf,?_,?_,?_,?_,?_⟩,?_⟩
   · rw [List.length_set,HN.out,Hm.out]
     exact hb8
   · rw [List.length_set,HN.out]
     exact hrt8
   · rw [Hm.out]
     exact hrf8
   · rw [List.length_set]
     exact OwnF.slice hFt
   · exact OwnF.slice hFf
   · exact Keep.setCell (F:=F) (Keep.setCell (F:=F) hk1 (p:=⟨ga,1,none⟩) (.inl hFa) _) (p:=⟨gt,k,none⟩) (.inl hFt) _
theorem ArenaIs_any (F:Nat→Prop) (ga k:Nat) (tk:List Bool) (fr:List Nat) (w:World) (h:ArenaE w F ga tk fr) (hk:tk[k]?=some true):
 Calls Tryz.prog 246 #[.pointer (some ⟨ga,0,none⟩),.int .i64 (k:Int)] w fun e w'=>e=.returned (.bool true)∧w=w':=by
 obtain ⟨hFa,A,c,Af,cf,hb,hrt,hrf,hot,hof⟩:=h
 obtain ⟨hkl,_⟩:=List.getElem?_eq_some_iff.1 hk
 obtain ⟨N,hN⟩:∃N,tk.length=N:=⟨_,rfl⟩
 rw [hN] at hb hrt hkl
 obtain ⟨gt,ct,hA,_,hgt⟩:=World.ownsRow.form hrt (by omega)
 injection hA with hA _ hcc
 subst hA hcc
 have c0:w.cell? ⟨ga,0,none⟩=some (.slice (some ⟨gt,0,none⟩) N c):=(hb.cell 0).trans rfl
 have ck:w.cell? ⟨gt,k,none⟩=some (.bool true):=by
  refine (World.ownsRow.cellAt hrt k (by omega)).trans ?_
  rw [List.getElem?_map,hk]
  rfl
 have hgl:=hb.lt
 have hkI:(k:Int) < (N:Int):=by omega
 have hk0:decide ((k:Int)≥0)=true:=by simp
 clear hb hrt hrf hot hof hN hk
 go_enter Tryz.func246,Tryz.ntmps246
 go_wp2_with fail
 go_ret
 exact ⟨rfl,rfl⟩
theorem Free_any (F:Nat→Prop) (ga gs k:Nat) (tk:List Bool) (fr:List Nat) (w:World) (h:ArenaE w F ga tk fr) (hk:tk[k]?=some true) (hs:Bk w gs 3 #[.int .i64 (k:Int)]) (hf:fr.length≤1000000):
 Calls Tryz.prog 211 #[.pointer (some ⟨ga,0,none⟩),.slice (some ⟨gs,0,none⟩) 1 1] w fun e w'=>e=.returned (.int .i64 0)∧ArenaE w' (Gw F w.heap.size) ga (tk.set k false) (fr++ [k])∧Keep F w w':=by
 have his:=ArenaIs_any F ga k tk fr w h hk
 obtain ⟨hFa,A,c,Af,cf,hb,hrt,hrf,hot,hof⟩:=h
 obtain ⟨hkl,_⟩:=List.getElem?_eq_some_iff.1 hk
 obtain ⟨i0,hi0,hz0,hz1,hz2⟩:=info_parts int_info
 obtain ⟨N,hN⟩:∃N,tk.length=N:=⟨_,rfl⟩
 obtain ⟨m,hm⟩:∃m,fr.length=m:=⟨_,rfl⟩
 rw [hm] at hb hrf hof hf
 rw [hN] at hb hrt hot hkl
 obtain ⟨gt,ct,hA,_,hgt⟩:=World.ownsRow.form hrt (by omega)
 injection hA with hA _ hcc
 subst hA hcc
 have ck:w.cell? ⟨gt,k,none⟩=some (.bool true):=by
  refine (World.ownsRow.cellAt hrt k (by omega)).trans ?_
  rw [List.getElem?_map,hk]
  rfl
 have hta:ga≠gt:=fun e=>own_bk_ne hrt hb (by decide) (by rw [e];rfl)
 have hftk:∃cur,Bk w gt 4 cur:=by
  rcases hrt.2 with ⟨h1,_⟩|⟨g',cap,cur,h1,_,h3,_⟩
  · cases h1
  · injection h1 with h1 _ _
    injection h1 with h1
    injection h1 with h1 _
    subst h1
    exact ⟨cur,h3⟩
 obtain ⟨cur,hbt⟩:=hftk
 have ft:=hbt.frozen k
 have c0:w.cell? ⟨ga,0,none⟩=some (.slice (some ⟨gt,0,none⟩) N c):=(hb.cell 0).trans rfl
 have cs0:w.cell? ⟨gs,0,none⟩=some (.int .i64 (k:Int)):=(hs.cell 0).trans rfl
 have hgl:=hb.lt
 have hgsl:=hs.lt
 have hkI:(k:Int) < (N:Int):=by omega
 have hst:gs≠gt:=Bk.ne hs hbt (by decide)
 obtain ⟨W,hW⟩:∃W,w.setCell ⟨gt,k,none⟩ (.bool false)=W:=⟨_,rfl⟩
 have hbW:Bk W ga 217 #[.slice (some ⟨gt,0,none⟩) N c,.slice Af m cf,.int .i64 268435456]:=by rw [←hW];exact hb.far (p:=⟨gt,k,none⟩) hta _
 have hsW:Bk W gs 3 #[.int .i64 (k:Int)]:=by rw [←hW];exact hs.far (p:=⟨gt,k,none⟩) hst _
 have hrtW:W.ownsRow 0 4 1 (.slice (some ⟨gt,0,none⟩) N c) N ((tk.set k false).map Value.bool):=by
  rw [←hW,List.map_set]
  exact (World.ownsRow.stored hrt k (.bool false)).1
 have hrfW:W.ownsRow 0 3 1 (.slice Af m cf) m (fr.map sv):=by
  rw [←hW]
  exact own_same hrf fun b cs _ hb'=>hb'.far (p:=⟨gt,k,none⟩) (Bk.ne hb' hbt (by decide)) _
 have hFt:F gt:=OwnF.at hot
 have hkW:Keep F w W:=by rw [←hW];exact Keep.setCell (F:=F) (Keep.refl _ _) (p:=⟨gt,k,none⟩) (.inl hFt) _
 have d0:W.cell? ⟨ga,1,none⟩=some (.slice Af m cf):=(hbW.cell 1).trans rfl
 have hgW:=hbW.lt
 have hrW:Rd W W.heap.size 1 (some ⟨gs,0,none⟩) 1 [.int .i64 (k:Int)]:=⟨rfl,fun _=>⟨gs,0,rfl,hsW.lt,fun j u hu=>by
  rw [Nat.zero_add,hsW.cell]
  rcases j with _ | j
  · exact hu
  · simp at hu⟩⟩
 have HbW:=lhd hbW
 have HrtW:=lhd hrtW
 have HrfW:=lhd hrfW
 have HkW:=lhd hkW
 have HrW:=lhd hrW
 have HW:=lhd hW
 have Hof:=lhd hof
 have Hm:=lhd hm
 have HN:=lhd hN
 have Hne:=lhd (own_bk_ne hrfW hbW (by decide))
 clear hb hrt hrf hot hof hN hm hbt hs hk hbW hsW hrtW hrfW hkW hW hrW
 go_enter Tryz.func211,Tryz.ntmps211
 go_wp2_with fail
 refine wp_loop_rounds 2 ?_
 rw [rounds_succ]
 go_wp2_with fail
 refine his.mono ?_
 rintro e w1 ⟨rfl,rfl⟩
 clear his
 go_wp2_with fail
 rw [HW.out]
 clear c0 cs0 ck ft
 rw [rounds_succ]
 go_wp2_with (at_builtin;refine wpList_append_rd _ rfl (.tmp 48) (.tmp 49) _ rfl 0 3 i0 (.int .i64 0) 1 8 Tryz.underlying22 hi0 hz0 hz1 hz2 rfl (by decide) (.slice Af m cf) m _ rfl HrfW.out _ _ _ _ _ rfl HrW.out (by simp [Value.oneCell']) (by unfold maxLen;omega) (by omega) (Nat.zero_le _) ?_;intro v5 w5 hown5 hg5 hat5;have hbk5:=HbW.out.grown hg5 Hne.out;have f5:=hbk5.frozen 1;have d5:=hbk5.cell 1;have Hown5:=lhd hown5;have Hg5:=lhd hg5;have Hat5:=lhd hat5;have Hbk5:=lhd hbk5;obtain ⟨A9,c9,rfl,hm9⟩:=made_of_own hown5;clear hown5 hg5 hat5 hbk5 hm9)
 go_ret
 have hk5:Keep F w w5:=HkW.out.grown Hg5.out (fun j hj=>.inl (Hof.out j hj))
 have hb6:=Hbk5.out.set 1 (.slice A9 (m+1) c9)
 have hrt5:=World.ownsRow.kept HrtW.out Hg5.out (by
  rcases hh:(Value.slice Af m cf).ownBlock with _ | x
  · right
    simp [Value.ownBlock]
  · right
    intro e
    have e':gt=x:=by simpa [Value.ownBlock] using e
    subst e'
    rcases HrfW.out.2 with ⟨h1,_⟩|⟨g',cap,cur',h1,_,h3,_⟩
    · rw [h1] at hh
      simp [Value.ownBlock] at hh
    · rw [h1] at hh
      have e2:g'=gt:=by simpa [Value.ownBlock] using hh
      subst e2
      exact own_bk_ne HrtW.out (t:=3) h3 (by decide) rfl)
 have hrt6:=own_same (w':=w5.setCell ⟨ga,1,none⟩ (.slice A9 (m+1) c9)) hrt5 fun b cs _ hb'=>hb'.far (Bk.ne hb' Hbk5.out (by decide)) _
 have hrf6:=own_same (w':=w5.setCell ⟨ga,1,none⟩ (.slice A9 (m+1) c9)) Hown5.out fun b cs _ hb'=>hb'.far (Bk.ne hb' Hbk5.out (by decide)) _
 have hsz:=HkW.out.size
 refine ⟨rfl,⟨.inl hFa,some ⟨gt,0,none⟩,c,A9,c9,?_,?_,?_,?_,?_⟩,?_⟩
 · rw [List.length_set,HN.out,List.length_append,Hm.out]
   exact hb6
 · rw [List.length_set,HN.out]
   exact hrt6
 · rw [List.length_append,Hm.out,List.map_append]
   exact hrf6
 · exact OwnF.slice (.inl hFt)
 · intro b hb
   rw [List.length_append,Hm.out] at hb
   rcases Hat5.out with h | h
   · exact .inl (Hof.out b (h.symm.trans hb))
   · have e3:=h.symm.trans hb
     injection e3 with e3
     exact .inr (by omega)
 · exact Keep.setCell (F:=F) hk5 (p:=⟨ga,1,none⟩) (.inl hFa) _
theorem u8_info:(Tryz.prog.info? 5).map (fun i=>(i.zero,i.size,i.bytes))=some (some (.int .u8 0),1,1):=by kernel_rfl
theorem Grow_nil (n:Nat) (w:World) (hn:n≤1099511627776):
 Calls Tryz.prog 111 #[.slice none 0 0,.int .i64 (n:Int)] w fun e w'=>∃v,e=.returned v∧w'.ownsRow w.heap.size 5 1 v 0 []∧Below w.heap.size w w':=by
 obtain ⟨i0,hi0,hz0,hz1,hz2⟩:=info_parts u8_info
 rcases Nat.eq_zero_or_pos n with h0 | h0
 · subst h0
   go_enter Tryz.func111,Tryz.ntmps111
   go_wp2
   go_ret
   exact ⟨_,rfl,World.ownsRow_nil _ _ _ _,Below.refl _ _⟩
 · have hrun:=Lib.run_append_nil_zeros (P:=Tryz.prog) w 23 3 23 5 i0 (.int .u8 0) .i64 .i64 Tryz.underlying23 Tryz.underlying3 hi0 hz0 n h0 (by omega) (by omega) (by rw [hz2];omega)
   have hge:=grownCap_ge w n 0 5
   have hle:=grownCap_le_maxLen w n 0 5 (by unfold maxLen;omega)
   generalize grownCap w n 0 5=cp at*
   have hsz:(Builtin.zeroCells (Value.int .u8 0).cells n++Builtin.zeroCells (Value.int .u8 0).cells (cp - n)).size=cp*1:=by
    simp [Builtin.zeroCells,Value.cells]
    omega
   have Hsz:=lhd hsz
   have Hrun:=lhd hrun
   clear hsz hrun
   have hdec:¬((n:Int) < 0):=by omega
   go_enter Tryz.func111,Tryz.ntmps111
   go_wp2_with (at_builtin;refine Lib.wpList_append_run _ rfl (.tmp 20) (.tmp 21) _ _ rfl _ _ rfl rfl _ _ Hrun.out ?_)
   go_ret
   exact ⟨_,rfl,World.ownsRow_made _ _ _ (Nat.le_refl _) hle Hsz.out,(Below.refl _ _).drew.alloc (Nat.le_refl _) _⟩
structure Sl where
 A:Option Addr
 n:Nat
 c:Nat
 l:List UInt8
def slV (s:Sl):Value:=.slice s.A s.n s.c
def catS (ss:List Sl):List UInt8:=ss.flatMap (·.l)
theorem catS_snoc (ss:List Sl) (k:Nat) (s:Sl) (h:ss[k]?=some s):catS (ss.take (k+1))=catS (ss.take k)++s.l:=by
 rw [List.take_add_one,h]
 simp [catS]
theorem catS_take_le (ss:List Sl) (k:Nat):(catS (ss.take k)).length≤(catS ss).length:=by
 have:catS ss=catS (ss.take k)++catS (ss.drop k):=by
  unfold catS
  rw [←List.flatMap_append,List.take_append_drop]
 rw [this,List.length_append]
 omega
theorem Concat_any (A0:Option Addr) (m0 c0 B:Nat) (ss:List Sl) (T:List UInt8) (N:Nat) (hT:catS ss=T) (hN:T.length=N) (w:World) (hr0:Rd w B 1 A0 m0 (ss.map slV)) (hss:∀s∈ss,Rd w B 1 s.A s.n (s.l.map bv)) (hB:B≤w.heap.size) (hm:m0≤1099511627776) (hn:N≤1099511627776):
 Calls Tryz.prog 47 #[.slice A0 m0 c0] w fun e w'=>∃A' c',e=.returned (.slice A' N c')∧Made w' w.heap.size 5 1 A' N c' (T.map bv)∧Below w.heap.size w w':=by
 obtain ⟨i0,hi0,hz0,hz1,hz2⟩:=info_parts u8_info
 have hlen:ss.length=m0:=by simpa using hr0.1
 have hpart:∀k,(catS (ss.take k)).length≤1099511627776:=fun k=>by have:=catS_take_le ss k;rw [hT] at this;omega
 have hrow:∀k s,ss[k]?=some s→s.l.length=s.n∧(catS (ss.take (k+1))).length=(catS (ss.take k)).length+s.n:=fun k s hs=>by
  have h1:=(hss s (List.mem_of_getElem? hs)).1
  have h2:s.l.length=s.n:=by simpa using h1
  rw [catS_snoc ss k s hs,List.length_append,h2]
  exact ⟨rfl,rfl⟩
 have Hlen:=lhd hlen
 have Hpart:=lhd hpart
 have Hrow:=lhd hrow
 have Hr0:=lhd (hr0.mono hB)
 have Hss:=lhd (fun s hs=>(hss s hs).mono hB)
 have HT:=lhd hT
 have HN:=lhd hN
 clear hlen hpart hrow hr0 hss hT hN
 go_enter Tryz.func47,Tryz.ntmps47
 go_wp2
 go_loopw [3,11] (fun v i wr=>∃k:Nat,k≤m0∧i=.int .i64 k∧v=.int .i64 ((catS (ss.take k)).length:Int)∧w=wr) (fun _ i _=>m0 -(intOf i).toNat)
 case atStart=>exact ⟨0,Nat.zero_le _,rfl,by simp [catS],rfl⟩
 case round=>
  obtain ⟨k,hk,rfl,rfl,rfl⟩:=hrel
  by_cases hlt:k < m0
  · obtain ⟨s,hs⟩:∃s,ss[k]?=some s:=⟨ss[k]'(by have:=Hlen.out;omega),List.getElem?_eq_getElem (by have:=Hlen.out;omega)⟩
    obtain ⟨b,off,u,rfl,hbl,hu,hc⟩:=Hr0.out.get hlt
    rw [List.getElem?_map,hs] at hu
    simp at hu
    subst hu
    unfold slV at hc
    obtain ⟨h1,h2⟩:=Hrow.out k s hs
    have h3:=Hpart.out (k+1)
    generalize hq:(catS (ss.take k)).length=q at*
    have Hnext:=lhd h2
    rw [h2] at h3
    clear h1 h2 hs hq
    have hneg:¬((q:Int)+(s.n:Int) < 0):=by omega
    go_wp2
    go_roundw
    case rel=>exact ⟨k+1,by omega,by go_num,by rw [Hnext.out];go_num,trivial⟩
    case measure=>simp [intOf];omega
  · have hkm:k=m0:=by omega
    have hge:m0≤k:=by omega
    have htk:ss.take k=ss:=List.take_of_length_le (by have:=Hlen.out;omega)
    rw [htk,HT.out,HN.out]
    clear hkm htk
    go_wp2_with fail
    refine (Grow_nil N _ hn).mono ?_
    rintro e w1 ⟨v1,rfl,hown1,hb1⟩
    go_wp2_with fail
    go_loopw [6,27] (fun v i wr=>∃k:Nat,k≤m0∧i=.int .i64 k∧wr.ownsRow w.heap.size 5 1 v (catS (ss.take k)).length ((catS (ss.take k)).map bv)∧Below w.heap.size w wr) (fun _ i _=>m0 -(intOf i).toNat)
    case atStart=>exact ⟨0,Nat.zero_le _,rfl,hown1,hb1⟩
    case round=>
        obtain ⟨k,hk,rfl,hown,hb⟩:=hrel
        have hsz:=hb.size
        by_cases hlt:k < m0
        · obtain ⟨s,hs⟩:∃s,ss[k]?=some s:=⟨ss[k]'(by have:=Hlen.out;omega),List.getElem?_eq_getElem (by have:=Hlen.out;omega)⟩
          obtain ⟨b,off,u,rfl,hbl,hu,hc⟩:=(Hr0.out.below hb).get hlt
          rw [List.getElem?_map,hs] at hu
          simp at hu
          subst hu
          unfold slV at hc
          have hrs:=lhd ((Hss.out s (List.mem_of_getElem? hs)).below hb)
          obtain ⟨h1,h2⟩:=Hrow.out k s hs
          have h3:=Hpart.out (k+1)
          have hsn:=lhd (catS_snoc ss k s hs)
          have Hnext:=lhd h2
          generalize hq:(catS (ss.take k)).length=q at*
          rw [h2] at h3
          have Hown:=lhd hown
          clear h1 h2 hs hown
          go_wp2_with (at_builtin;refine wpList_append_rd _ rfl (.tmp 31) (.tmp 32) _ rfl w.heap.size 5 i0 (.int .u8 0) 1 1 Tryz.underlying23 hi0 hz0 hz1 hz2 rfl (by decide) _ q _ rfl Hown.out w.heap.size s.A s.n s.c _ rfl hrs.out (oneCell_bv _) (by unfold maxLen;omega) (by omega) hsz ?_;intro v5 w5 hown5 hg5 hat5)
          have hB5:=below_grown hb Hown.out hg5 hsz
          go_roundw
          case rel=>
           refine ⟨k+1,by omega,by go_num,?_,hB5⟩
           rw [Hnext.out,hsn.out,List.map_append]
           exact hown5
          case measure=>simp [intOf];omega
        · have hkm:k=m0:=by omega
          have hge:m0≤k:=by omega
          have htk:ss.take k=ss:=List.take_of_length_le (by have:=Hlen.out;omega)
          rw [htk,HT.out,HN.out] at hown
          obtain ⟨A',c',rfl,hm'⟩:=made_of_own hown
          clear hkm htk hown
          go_wp2
          go_ret
          exact ⟨A',c',rfl,hm',hb⟩
end Go.Proofs.YtipaccakmndkgaaGreatDoor
namespace Go.Proofs.YtipaccakmndkgaaGreatDoor
open Go.RowKit Go.Shelf
def PAllPost (w:World) (C:List (Nat×Nat)) (e:Ending) (w':World):Prop:=
 ∃A c,e=.returned (.slice A C.length c)∧Made w' w.heap.size 159 2 A C.length c (pairsL C)∧Below w.heap.size w w'
end Go.Proofs.YtipaccakmndkgaaGreatDoor
namespace Go.Proofs.YtipaccakmndkgaaGreatDoor
open Go.RowKit Go.Shelf
open Go.Sort (Holds PermIn SortedIn SWO heap_grow_old)
theorem sort_own {w:World} {m base g cap n k:Nat} {os:Array Obj} {cur:Array Value} (d':Array (Fin (m+1))) (hd:d'.size=n) (hb:Bk w g 3 cur) (hg:base≤g) (h1:n≤cap) (h2:cap≤maxLen) (h3:cur.size=cap):
 (sortWorld (encF m) w g 0 k d' os).ownsRow base 3 1 (.slice (some ⟨g,0,none⟩) n cap) n ((d'.toList.map fun x=>x.val).map sv):=by
 have hgl:=hb.lt
 have hh:(sortWorld (encF m) w g 0 k d' os).heap[g]?=some (.cells (Go.Sort.putCells (encF m) 0 d' cur) 3 (0,0)):=by
  unfold sortWorld
  rw [heap_grow_old _ _ (by show g < (w.heap.modify g _).size;simpa using hgl)]
  have hb':w.heap[g]?=some (.cells cur 3 (0,0)):=hb
  simp [Go.Sort.putRow,Go.Sort.mapBlock,Go.Sort.ahead,Array.getElem?_modify,hb',Go.Sort.onCells]
 refine ⟨by simp [hd],.inr ⟨g,cap,_,rfl,hg,hh,h1,h2,by simp [Go.Sort.putCells,h3],?_⟩⟩
 rw [Nat.mul_one]
 refine ei_take_ext (by simp [hd]) (by simp [Go.Sort.putCells];omega) fun j hj=>?_
 have hjc:j < cur.size:=by omega
 have hjd:j < d'.size:=by omega
 simp [Go.Sort.putCells,Array.getElem?_mapIdx,hjc,hjd,encF,sv,getB]
theorem ordA_vals {c:Nat} {ks:List Nat} (h:∀k∈ks,k < c+1):(ordA c ks).toList.map (fun x=>x.val)=ks:=by
 unfold ordA
 rw [List.map_map]
 conv=>rhs;rw [←List.map_id ks]
 exact List.map_congr_left fun k hk=>Nat.mod_eq_of_lt (h k hk)
def cfK (c:Nat) (f:Nat→Nat) (x y:Fin (c+1)):Int:=Lib.compareInt ((f x.val:Nat):Int) ((f y.val:Nat):Int)
theorem lt_cfK (c:Nat) (f:Nat→Nat) (x y:Fin (c+1)):ltOf (cfK c f) x y=decide (f x.val < f y.val):=by
 unfold ltOf cfK
 rw [decide_eq_decide,cmp_neg]
 omega
theorem swo_cfK (c:Nat) (f:Nat→Nat):SWO (ltOf (cfK c f)) where
 irrefl x:=by rw [lt_cfK];simp
 trans x y z h1 h2:=by
  rw [lt_cfK,decide_eq_true_eq] at*
  omega
 ntrans x y z h1 h2:=by
  rw [lt_cfK,decide_eq_false_iff_not] at*
  omega
theorem sorted_vals {c:Nat} {ks:List Nat} {f:Nat→Nat} {d':Array (Fin (c+1))} (h:∀k∈ks,k < c+1) (hp:PermIn 0 (ordA c ks).size (ordA c ks) d') (hs:SortedIn (ltOf (cfK c f)) 0 (ordA c ks).size d') (hnd:ks.Nodup) (hf:∀x∈ks,∀y∈ks,f x=f y→x=y):
 (d'.toList.map fun x=>x.val).Perm ks∧(d'.toList.map fun x=>x.val).Pairwise (fun a b=>f a < f b):=by
 have hperm:(d'.toList.map fun x=>x.val).Perm ks:=by
  have:=(perm_of_in hp).map (fun x:Fin (c+1)=>x.val)
  rwa [ordA_vals h] at this
 refine ⟨hperm,?_⟩
 have hnd':(d'.toList.map fun x=>x.val).Nodup:=hperm.nodup_iff.2 hnd
 rw [List.pairwise_iff_getElem]
 intro i j hi hj hij
 have hi':i < d'.size:=by simpa using hi
 have hj':j < d'.size:=by simpa using hj
 have h1:=hs i j (Nat.zero_le _) hij (by rw [←hp.1];exact hj')
 rw [lt_cfK,decide_eq_false_iff_not,getB _ _ hi',getB _ _ hj'] at h1
 have e1:(d'.toList.map fun x=>x.val)[i]=d'[i].val:=by simp
 have e2:(d'.toList.map fun x=>x.val)[j]=d'[j].val:=by simp
 have hne:(d'.toList.map fun x=>x.val)[i]≠(d'.toList.map fun x=>x.val)[j]:=List.pairwise_iff_getElem.1 hnd' i j hi hj hij
 have m1:d'[i].val∈ks:=hperm.subset (by rw [←e1];exact List.getElem_mem hi)
 have m2:d'[j].val∈ks:=hperm.subset (by rw [←e2];exact List.getElem_mem hj)
 rw [e1,e2] at hne⊢
 have hne2:f d'[i].val≠f d'[j].val:=fun e=>hne (hf _ m1 _ m2 e)
 omega
end Go.Proofs.YtipaccakmndkgaaGreatDoor
namespace Go.Proofs.YtipaccakmndkgaaGreatDoor
open Go.RowKit Go.Shelf
end Go.Proofs.YtipaccakmndkgaaGreatDoor
