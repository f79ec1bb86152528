/- The walks of the tree's Ones and Select. Conditions: at most 128 bits; there is such a bit; the table of math/bits stands in its variable. The walk of the reference's Same of two lists (scrimshawref6). Conditions: none. The walks of the wave's rank of one tree: the closure, look, rank. No conditions. -/
import Derived.Test.YtipaccakmndkgaaGreatDoorPsl9
import Derived.BigQuiet
import Derived.Test.YtipaccakmndkgaaGreatDoorPsl10
set_option linter.unusedVariables false
set_option linter.unusedSimpArgs false
set_option maxRecDepth 100000
set_option maxHeartbeats 1000000
namespace Go.Proofs.YtipaccakmndkgaaGreatDoor
open Go.RowKit
theorem nv_inj {a b:Nat} (h:a≠b):((a:Int)==(b:Int))=false:=by rw [beq_eq_false_iff_ne];omega
theorem take_ext {L1 L2:List Nat} {k n:Nat} (h1:L1.length=n) (h2:L2.length=n) (h:L1.take k=L2.take k) (hk:n≤k):L1=L2:=by
 rw [List.take_of_length_le (by omega),List.take_of_length_le (by omega)] at h
 exact h
theorem refSame_any (A1 A2:Option Addr) (n1 c1 n2 c2 B1 B2:Nat) (L1 L2:List Nat) (w:World) (h1:Rd w B1 1 A1 n1 (L1.map sv)) (h2:Rd w B2 1 A2 n2 (L2.map sv)) (hn:n1≤1099511627776) (hn2:n2≤1099511627776):
 Calls Tryz.prog 26 #[.slice A1 n1 c1,.slice A2 n2 c2] w fun e w'=>e=.returned (.bool (decide (L1=L2)))∧Below w.heap.size w w':=by
 have l1:L1.length=n1:=by simpa using h1.1
 have l2:L2.length=n2:=by simpa using h2.1
 have H1:=lhd h1
 have H2:=lhd h2
 have HL1:=lhd l1
 have HL2:=lhd l2
 clear h1 h2 l1 l2
 by_cases hne:n1=n2
 · subst hne
   go_enter Tryz.func26,Tryz.ntmps26
   go_wp2
   go_loopw [5] (fun i wr=>∃k:Nat,k≤n1∧i=.int .i64 k∧L1.take k=L2.take k∧∃m,wr=w.drewN m) (fun i _=>n1 -(intOf i).toNat)
   case atStart=>exact ⟨0,Nat.zero_le _,rfl,rfl,0,rfl⟩
   case round=>
    obtain ⟨k,hk,rfl,hpre,mm,rfl⟩:=hrel
    by_cases hlt:k < n1
    · obtain ⟨x,hx⟩:∃x,L1[k]?=some x:=⟨L1[k]'(by have:=HL1.out;omega),List.getElem?_eq_getElem (by have:=HL1.out;omega)⟩
      obtain ⟨y,hy⟩:∃y,L2[k]?=some y:=⟨L2[k]'(by have:=HL2.out;omega),List.getElem?_eq_getElem (by have:=HL2.out;omega)⟩
      obtain ⟨b1,o1,u1,rfl,hb1,hu1,d1⟩:=H1.out.get hlt
      obtain ⟨b2,o2,u2,rfl,hb2,hu2,d2⟩:=H2.out.get hlt
      rw [List.getElem?_map,hx] at hu1
      rw [List.getElem?_map,hy] at hu2
      simp only [Option.map_some,Option.some.injEq] at hu1 hu2
      subst hu1
      subst hu2
      unfold sv at d1 d2
      have Hpre:=lhd hpre
      have Hx:=lhd hx
      have Hy:=lhd hy
      clear hpre hx hy
      by_cases hxy:x=y
      · subst hxy
        go_wp2
        go_quiet (fail)
        go_wp2
        go_roundw
        case rel=>
         refine ⟨k+1,by omega,by go_num,?_,_,rfl⟩
         rw [List.take_add_one,List.take_add_one,Hpre.out,Hx.out,Hy.out]
        case measure=>simp [intOf];omega
      · have t:=nv_inj hxy
        have hfin:L1≠L2:=fun h=>hxy (by
         have a:=Hx.out
         rw [h,Hy.out] at a
         injection a with a
         exact a.symm)
        have Hfin:=lhd hfin
        clear hfin
        go_wp2
        go_quiet (fail)
        go_wp2
        go_ret
        exact ⟨ret_bool (by rw [decide_eq_false Hfin.out]),below_drewN (below_drewN (Below.refl _ _) _) _⟩
    · have hge:n1≤k:=by omega
      have hfin:=lhd (take_ext HL1.out HL2.out hpre hge)
      clear hpre
      go_wp2
      go_ret
      exact ⟨ret_bool (by rw [decide_eq_true hfin.out]),below_drewN (Below.refl _ _) _⟩
 · have hfin:L1≠L2:=fun h=>hne (by rw [←HL1.out,←HL2.out,h])
   have Hfin:=lhd hfin
   have t:=nv_inj hne
   clear hfin
   go_enter Tryz.func26,Tryz.ntmps26
   go_wp2
   go_ret
   exact ⟨ret_bool (by rw [decide_eq_false Hfin.out]),Below.refl _ _⟩
@[irreducible] def wcells (S:Nat→Value) (n v:Int):Array Value:=#[S 0,S 1,S 2,S 3,S 4,S 5,S 6,S 7,S 8,.int .i64 n,.int .i64 v]
theorem wcells_get (S:Nat→Value) (n v:Int):(wcells S n v)[0]?=some (S 0)∧(wcells S n v)[1]?=some (S 1)∧(wcells S n v)[2]?=some (S 2)∧(wcells S n v)[3]?=some (S 3)∧(wcells S n v)[4]?=some (S 4)∧(wcells S n v)[5]?=some (S 5)∧(wcells S n v)[6]?=some (S 6)∧(wcells S n v)[7]?=some (S 7)∧(wcells S n v)[8]?=some (S 8)∧(wcells S n v)[9]?=some (.int .i64 n)∧(wcells S n v)[10]?=some (.int .i64 v):=by
 unfold wcells
 exact ⟨rfl,rfl,rfl,rfl,rfl,rfl,rfl,rfl,rfl,rfl,rfl⟩
theorem wcells_visits (S:Nat→Value) (n v v':Int):(wcells S n v).setIfInBounds 10 (.int .i64 v')=wcells S n v':=by
 unfold wcells
 rfl
theorem wcells_at (S:Nat→Value) (n v:Int) (i:Nat) (hi:i < 9):(wcells S n v)[i]?=some (S i):=by
 obtain ⟨h0,h1,h2,h3,h4,h5,h6,h7,h8,_⟩:=wcells_get S n v
 rcases i with _ | _ | _ | _ | _ | _ | _ | _ | _ | i
 all_goals first | assumption | omega
theorem wcells_set (S:Nat→Value) (n v:Int) (i:Nat) (hi:i < 9) (u:Value):(wcells S n v).setIfInBounds i u=wcells (fun j=>if j=i then u else S j) n v:=by
 unfold wcells
 rcases i with _ | _ | _ | _ | _ | _ | _ | _ | _ | i
 all_goals first | rfl | omega
theorem Vis.waveC {w w':World} {g:Nat} {S:Nat→Value} {n v:Int} (h:Vis w w') (hb:Bk w g 174 (wcells S n v)):∃v',Bk w' g 174 (wcells S n v'):=by
 rcases h.wave hb with h1 |⟨v',h1⟩
 · exact ⟨v,h1⟩
 · rw [wcells_visits] at h1
   exact ⟨v',h1⟩
theorem Rank1_any (gt gk gb gn:Nat) (lv p:Int) (x:Value) (bs:List Bool) (k:Nat) (b:Bool) (w:World) (ht:TreeAt w gt bs) (hk:Bk w gk 3 #[.int .i64 (k:Int)]) (hb:Bk w gb 4 #[.bool b]) (hn:Bk w gn 3 #[x]) (hkl:k≤bs.length):
 Calls Tryz.prog 198 #[.agg #[.pointer (some ⟨gt,0,none⟩),.int .i64 lv,.int .i64 p],.pointer (some ⟨gk,0,none⟩),.pointer (some ⟨gb,0,none⟩),.pointer (some ⟨gn,0,none⟩)] w fun e w'=>e=.returned (.tuple #[])∧
  ∃w1,VisK (fun b=>b=gt) w w1∧Bk w1 gn 3 #[x]∧w'=w1.setCell ⟨gn,0,none⟩ (.int .i64 (((bs.take k).count b:Nat):Int)):=by
 have c1:w.cell? ⟨gk,0,none⟩=some (.int .i64 (k:Int)):=(hk.cell 0).trans rfl
 have c2:w.cell? ⟨gb,0,none⟩=some (.bool b):=(hb.cell 0).trans rfl
 have l1:=hk.lt
 have l2:=hb.lt
 have l3:=hn.lt
 have Ht:=lhd ht
 have Hn:=lhd hn
 clear ht hk hb hn
 go_enter Tryz.func198,Tryz.ntmps198
 go_wp2_with fail
 refine (TreeRank_any gt bs k b _ (Ht.out.below ((Below.refl _ _).alloc (Nat.le_refl _) _)) hkl).mono ?_
 rintro e w1 ⟨rfl,hv⟩
 have hv0:VisK (fun b=>b=gt) w w1:=(VisK.of_below ((Below.refl _ _).alloc (Nat.le_refl _) _)).trans hv
 have hn1:=hv0.1.bk Hn.out (by decide) (by decide)
 have c3:w1.cell? ⟨gn,0,none⟩=some x:=(hn1.cell 0).trans rfl
 have f3:=hn1.frozen 0
 have HV:=lhd hv0
 have Hn1:=lhd hn1
 clear hv hv0 hn1
 go_wp2_with fail
 go_end0
 exact ⟨rfl,w1,HV.out,Hn1.out,rfl⟩
theorem Vis.of_wave {w w':World} {gv:Nat} {S:Nat→Value} {n v v':Int} (k:Keep (fun b=>b=gv) w w') (h:Bk w gv 174 (wcells S n v)) (h':Bk w' gv 174 (wcells S n v')):Vis w w':=by
 refine ⟨k.os,k.tape,k.output,k.size,fun b hb _=>?_⟩
 by_cases e:b=gv
 · subst e
   exact .inr (.inr ⟨_,v',h,by rw [wcells_visits];exact h'⟩)
 · exact .inl (k.block b hb e)
theorem Look1_any (gv gt gk gb gn:Nat) (S:Nat→Value) (n v lv p:Int) (x:Value) (bs:List Bool) (k:Nat) (b:Bool) (w:World) (hw:Bk w gv 174 (wcells S n v)) (ht:TreeAt w gt bs) (hk:Bk w gk 3 #[.int .i64 (k:Int)]) (hb:Bk w gb 4 #[.bool b]) (hn:Bk w gn 3 #[x]) (hkl:k≤bs.length):
 Calls Tryz.prog 130 #[.pointer (some ⟨gv,0,none⟩),.agg #[.pointer (some ⟨gt,0,none⟩),.int .i64 lv,.int .i64 p],.func (.func 198) #[] #[.pointer (some ⟨gk,0,none⟩),.pointer (some ⟨gb,0,none⟩),.pointer (some ⟨gn,0,none⟩)]] w fun e w'=>e=.returned (.tuple #[])∧
  VisF (fun b=>b=gn) w w'∧Keep (fun b=>b=gv∨b=gt∨b=gn) w w'∧Bk w' gn 3 #[.int .i64 (((bs.take k).count b:Nat):Int)]:=by
 obtain ⟨o,ho⟩:∃o,Obj.cells #[.pointer (some ⟨gt,0,none⟩),.int .i64 lv,.int .i64 p] 177=o:=⟨_,rfl⟩
 have hal:=(Below.refl w.heap.size w).alloc (Nat.le_refl _) o
 have hs1:=Bk.new w 177 #[.pointer (some ⟨gt,0,none⟩),.int .i64 lv,.int .i64 p]
 rw [ho] at hs1
 have l1:=hk.lt
 have l2:=hb.lt
 have l3:=hn.lt
 have l4:=hw.lt
 have n1:=Bk.ne hn hw (by decide)
 have Ht:=lhd ht
 have Hn:=lhd hn
 have Hk:=lhd hk
 have Hb:=lhd hb
 have Hw:=lhd hw
 have HA:=lhd hal
 have Hs:=lhd hs1
 have Ho:=lhd ho
 clear ht hk hb hn hw hal hs1 ho
 go_enter Tryz.func130,Tryz.ntmps130
 go_wp2_with fail
 rw [Ho.out]
 refine (Rank1_any gt gk gb gn lv p x bs k b _ (Ht.out.below HA.out) (Hk.out.alloc _) (Hb.out.alloc _) (Hn.out.alloc _) hkl).mono ?_
 rintro e w2 ⟨rfl,w1,hv1,hn1,rfl⟩
 obtain ⟨v1,hw1⟩:=((Vis.of_below HA.out).trans hv1.1).waveC Hw.out
 have hw2:=hw1.far (p:=⟨gn,0,none⟩) (fun h=>n1 h.symm) (.int .i64 (((bs.take k).count b:Nat):Int))
 have ht1:=Ht.out.vis ((Vis.of_below HA.out).trans hv1.1)
 have ht2:TreeAt (w1.setCell ⟨gn,0,none⟩ (.int .i64 (((bs.take k).count b:Nat):Int))) gt bs:=ht1.same fun c t cs hin h=>h.far (fun e=>by
  have e':c=gn:=e
  subst e'
  rw [←(bk_inj hn1 h).1] at hin
  exact absurd hin (by decide)) _
 obtain ⟨vt,hvt⟩:=ht2.visits
 have hs2:=(hv1.1.bk Hs.out (by decide) (by decide)).far (p:=⟨gn,0,none⟩) (fun h=>absurd (show w.heap.size=gn from h) (by omega)) (.int .i64 (((bs.take k).count b:Nat):Int))
 have hnn:=hn1.set 0 (.int .i64 (((bs.take k).count b:Nat):Int))
 have hfin:VisF (fun b=>b=gn) w (w1.setCell ⟨gn,0,none⟩ (.int .i64 (((bs.take k).count b:Nat):Int))):=VisF.put (F:=fun b=>b=gn) (VisF.of_vis ((Vis.of_below HA.out).trans hv1.1)) (p:=⟨gn,0,none⟩) (.inl rfl) _
 have hkp:Keep (fun b=>b=gv∨b=gt∨b=gn) w (w1.setCell ⟨gn,0,none⟩ (.int .i64 (((bs.take k).count b:Nat):Int))):=Keep.setCell (F:=fun b=>b=gv∨b=gt∨b=gn) ((Keep.of_below HA.out).trans (hv1.2.mono fun b _ e=>.inr (.inl e))) (p:=⟨gn,0,none⟩) (.inl (.inr (.inr rfl))) _
 obtain ⟨W,hW⟩:∃W,w1.setCell ⟨gn,0,none⟩ (.int .i64 (((bs.take k).count b:Nat):Int))=W:=⟨_,rfl⟩
 rw [hW] at hw2 ht2 hvt hs2 hnn hfin hkp⊢
 have s0:W.cell? ⟨w.heap.size,0,none⟩=some (.pointer (some ⟨gt,0,none⟩)):=(hs2.cell 0).trans rfl
 have Hw2:=lhd hw2
 have Hs2:=lhd hs2
 have HN:=lhd hnn
 have HF:=lhd hfin
 have HK:=lhd hkp
 have Ht2:=lhd ht2
 have Hvt:=lhd hvt
 have htlt:=ht2.lt
 have hslt:=hs2.lt
 have hgs:=Bk.ne hw2 hs2 (by decide)
 have hgn:=Bk.ne hw2 hnn (by decide)
 have hgvt:gt≠gv:=by
  rintro rfl
  obtain ⟨ga,v,⟨_,_,h2⟩|⟨_,_,_,_,_,h3⟩⟩:=Ht2.out
  · exact absurd (bk_inj h2 Hw2.out).1 (by decide)
  · exact absurd (bk_inj h3.tree Hw2.out).1 (by decide)
 clear hw2 hs2 hnn hfin hkp ht2 hvt hW hw1 ht1 hn1 hv1 HA Ht Hn Hk Hb Hw Hs s0
 go_wp2_with fail
 refine wp_region_any (by kernel_rfl) ?_
 refine wpAny_keep [9,10,11,12,13,14,15,16,17,18] (fun b=>b=gv) 10 [3,10] (fun w2=>Bk w2 gv 174 (wcells S n v1)) (fun _ w2=>Bk w2 gv 174 (wcells S n (IntKind.i64.wrap (v1+vt)))) [is (.pointer (some ⟨gv,0,none⟩)),is (.pointer (some ⟨gv,0,none⟩)),is (.pointer (some ⟨gv,10,none⟩)),is (.int .i64 v1),is (.pointer (some ⟨w.heap.size,0,none⟩)),is (.pointer (some ⟨gt,0,none⟩)),is (.int .i64 vt),is (.int .i64 (IntKind.i64.wrap (v1+vt))),is (.pointer (some ⟨gv,0,none⟩)),is (.pointer (some ⟨gv,10,none⟩)),anyV] _ _ rfl (by kernel_rfl) (by kernel_rfl) (Hw2.out) (fun w2 w3 h _ hg=>Bk.below h hg h.lt) (fun _ _ _ h k=>Bk.below h k h.lt) (by repeat' (first | exact stbk_is _ _ | exact stbk_any _ |(refine List.forall_mem_cons.2 ⟨?_,?_⟩)|(intro p hp;cases hp))) ?_ ?_
 · refine steps_of ?_
   refine steps_cons (step_on3 rfl rfl fun ev _ _ _ _ _ hold _ _ _ _ hK=>?_) ?_
   · have e0:ev (.tmp 0)=.pointer (some ⟨gv,0,none⟩):=hold 0 (by kernel_rfl)
     go_simp
     exact kq hK rfl
   refine steps_cons (step_on3 rfl rfl fun _ _ _ _ _ _ _ hval _ _ _ hK=>?_) ?_
   · have e9:_=_:=hval 0 9 (by kernel_rfl) rfl
     go_simp
     exact kq hK rfl
   refine steps_cons (step_on3 rfl rfl fun _ _ _ _ _ _ _ hval _ _ _ hK=>?_) ?_
   · have e10:_=_:=hval 1 10 (by kernel_rfl) rfl
     go_simp
     exact kq hK rfl
   refine steps_cons (step_on3 rfl rfl fun _ w5 _ hU _ _ _ hval _ _ _ hK=>?_) ?_
   · have hpre:=hU rfl
     have e11:_=_:=hval 2 11 (by kernel_rfl) rfl
     have c12:w5.cell? ⟨gv,10,none⟩=some (.int .i64 v1):=(hpre.cell 10).trans (wcells_get _ _ _).2.2.2.2.2.2.2.2.2.2
     go_simp
     exact kq hK rfl
   refine steps_cons (step_on3 rfl rfl fun ev _ _ _ _ _ hold _ _ _ _ hK=>?_) ?_
   · have e4:ev (.tmp 4)=.pointer (some ⟨w.heap.size,0,none⟩):=hold 4 (by kernel_rfl)
     go_simp
     exact kq hK rfl
   refine steps_cons (step_on3 rfl rfl fun _ w5 hS _ _ _ _ hval _ _ _ hK=>?_) ?_
   · replace hS:Keep (fun b=>b=gv) W w5:=⟨hS.os,hS.tape,hS.output,hS.size,hS.block⟩
     have e13:_=_:=hval 4 13 (by kernel_rfl) rfl
     have c14:w5.cell? ⟨w.heap.size,0,none⟩=some (.pointer (some ⟨gt,0,none⟩)):=((hS.bk Hs2.out (fun h=>hgs (show w.heap.size=gv from h).symm)).cell 0).trans rfl
     go_simp
     exact kq hK rfl
   refine steps_cons (step_on3 rfl rfl fun _ w5 hS _ _ _ _ hval _ _ _ hK=>?_) ?_
   · replace hS:Keep (fun b=>b=gv) W w5:=⟨hS.os,hS.tape,hS.output,hS.size,hS.block⟩
     have e14:_=_:=hval 5 14 (by kernel_rfl) rfl
     go_simp
     refine (TreeVisits_any gt vt w5 ((hS.cell htlt hgvt).trans Hvt.out)).mono ?_
     rintro e w8 ⟨rfl,hb8⟩
     exact hK _ _ (kstep_grow hb8) rfl
   refine steps_cons (step_on3 rfl rfl fun _ _ _ _ _ _ _ hval _ _ _ hK=>?_) ?_
   · have e12:_=_:=hval 3 12 (by kernel_rfl) rfl
     have e15:_=_:=hval 6 15 (by kernel_rfl) rfl
     go_simp
     exact kq hK rfl
   refine steps_cons (step_on3 rfl rfl fun _ _ _ _ _ _ _ hval _ _ _ hK=>?_) ?_
   · have e9:_=_:=hval 0 9 (by kernel_rfl) rfl
     go_simp
     exact kq hK rfl
   refine steps_cons (step_on3 rfl rfl fun _ _ _ _ _ _ _ hval _ _ _ hK=>?_) ?_
   · have e17:_=_:=hval 8 17 (by kernel_rfl) rfl
     go_simp
     exact kq hK rfl
   refine steps_cons (step_on3 rfl rfl fun _ w5 _ hU _ _ _ hval _ _ _ hK=>?_) ?_
   · have hpre:=hU rfl
     have e18:_=_:=hval 9 18 (by kernel_rfl) rfl
     have e16:_=_:=hval 7 16 (by kernel_rfl) rfl
     have c18:w5.cell? ⟨gv,10,none⟩=some (.int .i64 v1):=(hpre.cell 10).trans (wcells_get _ _ _).2.2.2.2.2.2.2.2.2.2
     have f18:=hpre.frozen 10
     go_simp
     refine hK (.bool true) _ (kstep_keep (Keep.setCell (F:=fun b=>b=gv) (Keep.refl _ _) (p:=⟨gv,10,none⟩) (.inl rfl) _)) ?_
     rw [←wcells_visits S n v1]
     exact hpre.set 10 _
   exact steps_nil
 · intro ev w6 hS hval hall
   replace hS:Keep (fun b=>b=gv) W w6:=⟨hS.os,hS.tape,hS.output,hS.size,hS.block⟩
   obtain ⟨vJ,pJ⟩:∃vJ0,(fun _ w2=>Bk w2 gv 174 (wcells S n (IntKind.i64.wrap (v1+vt)))) vJ0 w6:=hall 10 (by decide)
   simp only [putsOf,List.foldl_cons,List.foldl_nil,Act.put,List.setIfInBounds_toArray,List.set_cons_zero,List.set_cons_succ]
   clear hval hall
   have hv6:=Vis.of_wave hS Hw2.out pJ
   have h1:=VisF.trans HF.out (VisF.of_vis hv6)
   have h2:=HK.out.trans (hS.mono fun b _ e=>.inl e)
   have h3:=hS.bk HN.out (fun e=>hgn (show gn=gv from e).symm)
   have H1:=lhd h1
   have H2:=lhd h2
   have H3:=lhd h3
   clear hv6 h1 h2 h3 pJ hS
   go_wp2_with fail
   go_end0
   exact ⟨rfl,H1.out,H2.out,H3.out⟩
theorem WRank1_any (gv gt:Nat) (S:Nat→Value) (n v lv p:Int) (bs:List Bool) (k:Nat) (b:Bool) (w:World) (hw:Bk w gv 174 (wcells S n v)) (ht:TreeAt w gt bs) (hkl:k≤bs.length):
 Calls Tryz.prog 133 #[.pointer (some ⟨gv,0,none⟩),.agg #[.pointer (some ⟨gt,0,none⟩),.int .i64 lv,.int .i64 p],.int .i64 (k:Int),.bool b] w fun e w'=>e=.returned (.int .i64 (((bs.take k).count b:Nat):Int))∧VisK (fun b=>b=gv∨b=gt) w w':=by
 have hmf:∀(fn:Fn) (first cap:Array Value) (w:World),(Instr.makeFunc fn first cap).run Tryz.prog w=.ok (.func fn first cap) w:=fun _ _ _ _=>rfl
 obtain ⟨W,hW⟩:∃W,(((w.alloc (.cells #[.pointer (some ⟨gt,0,none⟩),.int .i64 lv,.int .i64 p] 177)).alloc (.cells #[.int .i64 (k:Int)] 3)).alloc (.cells #[.bool b] 4)).alloc (.cells #[.int .i64 0] 3)=W:=⟨_,rfl⟩
 have hB:Below w.heap.size w W:=by
  rw [←hW]
  exact ((((Below.refl _ _).alloc (Nat.le_refl _) _).alloc (by simp) _).alloc (by simp;omega) _).alloc (by simp;omega) _
 have h1:Bk W (w.heap.size+1) 3 #[.int .i64 (k:Int)]:=by
  rw [←hW]
  have h:=Bk.new (w.alloc (.cells #[.pointer (some ⟨gt,0,none⟩),.int .i64 lv,.int .i64 p] 177)) 3 #[.int .i64 (k:Int)]
  rw [show (w.alloc (.cells #[.pointer (some ⟨gt,0,none⟩),.int .i64 lv,.int .i64 p] 177)).heap.size=w.heap.size+1 from by simp] at h
  exact (h.alloc _).alloc _
 have h2:Bk W (w.heap.size+1+1) 4 #[.bool b]:=by
  rw [←hW]
  have h:=Bk.new ((w.alloc (.cells #[.pointer (some ⟨gt,0,none⟩),.int .i64 lv,.int .i64 p] 177)).alloc (.cells #[.int .i64 (k:Int)] 3)) 4 #[.bool b]
  rw [show ((w.alloc (.cells #[.pointer (some ⟨gt,0,none⟩),.int .i64 lv,.int .i64 p] 177)).alloc (.cells #[.int .i64 (k:Int)] 3)).heap.size=w.heap.size+1+1 from by simp] at h
  exact h.alloc _
 have h3:Bk W (w.heap.size+1+1+1) 3 #[.int .i64 0]:=by
  rw [←hW]
  have h:=Bk.new (((w.alloc (.cells #[.pointer (some ⟨gt,0,none⟩),.int .i64 lv,.int .i64 p] 177)).alloc (.cells #[.int .i64 (k:Int)] 3)).alloc (.cells #[.bool b] 4)) 3 #[.int .i64 0]
  rw [show (((w.alloc (.cells #[.pointer (some ⟨gt,0,none⟩),.int .i64 lv,.int .i64 p] 177)).alloc (.cells #[.int .i64 (k:Int)] 3)).alloc (.cells #[.bool b] 4)).heap.size=w.heap.size+1+1+1 from by simp] at h
  exact h
 have hw1:=hw.below hB hw.lt
 have ht1:=ht.below hB
 have Hw1:=lhd hw1
 have Ht1:=lhd ht1
 have H1:=lhd h1
 have H2:=lhd h2
 have H3:=lhd h3
 have HW:=lhd hW
 have HB:=lhd hB
 clear hw ht hw1 ht1 h1 h2 h3 hW hB
 go_enter Tryz.func133,Tryz.ntmps133
 go_wp2_with fail
 rw [HW.out]
 refine (Look1_any gv gt _ _ _ S n v lv p _ bs k b W Hw1.out Ht1.out H1.out H2.out H3.out hkl).mono ?_
 rintro e w1 ⟨rfl,hvf,hkp,hn⟩
 have hfin:Vis w w1:=VisF.to_vis (VisF.trans (VisF.of_vis (Vis.of_below HB.out)) hvf) (fun b hb e=>by omega)
 have hkf:Keep (fun b=>b=gv∨b=gt) w w1:=(Keep.of_below HB.out).trans' hkp (fun b hb e=>by
  rcases e with e | e | e
  · exact .inl e
  · exact .inr e
  · omega)
 have c9:w1.cell? ⟨w.heap.size+1+1+1,0,none⟩=some (.int .i64 (((bs.take k).count b:Nat):Int)):=(hn.cell 0).trans rfl
 have HF:=lhd hfin
 have HK:=lhd hkf
 clear hvf hkp hn hfin hkf
 go_wp2_with fail
 go_ret
 exact ⟨rfl,HF.out,HK.out⟩
end Go.Proofs.YtipaccakmndkgaaGreatDoor
