/- The walk of live's reorder: rows that are right but for one place are put right. Conditions: at most 127 bytes; there is a pair. -/
import Derived.Test.YtipaccakmndkgaaGreatDoorPsl36
import Derived.Test.YtipaccakmndkgaaGreatDoorPsl6
set_option linter.unusedVariables false
set_option linter.unusedSimpArgs false
set_option maxRecDepth 100000
set_option maxHeartbeats 2000000
namespace Go.Proofs.YtipaccakmndkgaaGreatDoor
open Go.RowKit Go.Shelf
def aOf (R:List Nat) (i:Nat):Int:=if i=0 then -1 else ((ro R (i - 1):Nat):Int)
theorem aOf_succ (R:List Nat) (j:Nat):aOf R (j+1)=((ro R j:Nat):Int):=by unfold aOf;rw [if_neg (by omega),Nat.add_sub_cancel]
structure ReoI (w0 wr:World) (B:Nat) (own0 own:Nat→Nat) (gl gk gp rate:Nat) (mv:Int) (S T:List Nat) (N i:Nat) (R:List Nat) (pr0 pr:List (Nat×Nat)):Prop where
 near:Near S R N i
 live:LiveM wr B own gl gk gp rate mv (N+1) (N+1) (lastL S R) T pr
 tal:T.Perm (lastL S R)
 right:∀x∈pr,R[x.1]?=some x.2
 plc:∀p,(∃x∈pr,x.2=p)↔∃x∈pr0,x.2=p
 ne:0 < i→pr≠ []
 lf:LF B w0 wr own0 own
theorem narT_perm {L T:List Nat} (h:T.Perm L) (s k:Nat):narT L T s k=narL L s k:=by
 unfold narT narL
 rw [h.countP_eq]
section
variable {w0 wr : World} {B : Nat} {own0 own : Nat → Nat} {gl gk gp rate : Nat} {mv : Int} {S T : List Nat} {N j : Nat} {R : List Nat} {pr0 pr : List (Nat × Nat)}
theorem reo_at (h:Near S R N j) {p:Nat} (hp:p≤N):(lastL S R)[ro R p]?=some (prevL S p):=by
 unfold lastL
 rw [List.getElem?_map,ro_get (h.mem.2 hp)]
 rfl
theorem reo_stop (h:Near S R N (j+1)) (hj:j < N) (he:ro R j=tgt S R j):Near S R N 0:=by
 refine near_go h hj rfl (List.Perm.refl R) he (fun p hp hpj=>?_) 0 (.inr ⟨he,rfl⟩)
 have hne:ro R p≠ro R j:=fun e=>hpj (ro_inj hp (h.mem.2 (by omega)) e)
 rw [←he]
 unfold inR outR
 split <;> split <;> omega
theorem reo_move (h:Near S R N (j+1)) (hj:j < N):Near S (insN (delN R (ro R j)) (tgt S R j) j) N j∧ro (insN (delN R (ro R j)) (tgt S R j) j) j=tgt S R j∧(∀p,p≤N→p≠j→ro (insN (delN R (ro R j)) (tgt S R j) j) p=inR (outR (ro R p) (ro R j)) (tgt S R j))∧(insN (delN R (ro R j)) (tgt S R j) j).Perm R:=by
 have htl:=tgt_lt h hj
 obtain ⟨m1,m2,m3⟩:=ro_move h.nodup (t:=tgt S R j) (ro_get (h.mem.2 (show j≤N by omega))) (by rw [h.len];exact htl)
 exact ⟨near_go h hj rfl m1 m2 m3 j (.inl rfl),m2,fun p hp hpj=>m3 p (h.mem.2 hp) hpj,m1⟩
theorem reo_pairs (h:Near S R N (j+1)) (hj:j < N) (hr:∀x∈pr,R[x.1]?=some x.2):∀x∈pr.map (fun x=>(mvR (ro R j) (tgt S R j) x.1,x.2)),(insN (delN R (ro R j)) (tgt S R j) j)[x.1]?=some x.2:=fun x hx=>by
 obtain ⟨y,hy,rfl⟩:=List.mem_map.1 hx
 have hyr:=hr y hy
 have hroy:ro R y.2=y.1:=ro_of h.nodup hyr
 have hym:y.2≤N:=h.mem.1 (List.mem_of_getElem? hyr)
 obtain ⟨m1,m2,m3,m4⟩:=reo_move h hj
 show (insN (delN R (ro R j)) (tgt S R j) j)[mvR (ro R j) (tgt S R j) y.1]?=some y.2
 have key:mvR (ro R j) (tgt S R j) y.1=ro (insN (delN R (ro R j)) (tgt S R j) j) y.2:=by
  unfold mvR
  by_cases c:y.1=ro R j
  · have e:y.2=j:=ro_inj (h.mem.2 hym) (h.mem.2 (by omega)) (by rw [hroy,c])
    rw [if_pos c,e,m2]
  · have e:y.2≠j:=fun e=>c (by rw [←hroy,e])
    rw [if_neg c,m3 _ hym e,hroy]
 rw [key]
 exact ro_get (m1.mem.2 hym)
theorem reo_step {w':World} {own':Nat→Nat} {mv':Int} {pr':List (Nat×Nat)} (h:ReoI w0 wr B own0 own gl gk gp rate mv S T N (j+1) R pr0 pr) (hj:j < N) (hl:LiveM w' B own' gl gk gp rate mv' (N+1) (N+1) (insN (delN (lastL S R) (ro R j)) (tgt S R j) (prevL S j)) T pr') (hp:pr'.Perm (pr.map fun x=>(mvR (ro R j) (tgt S R j) x.1,x.2))) (hf:LF B wr w' own own'):
 ReoI w0 w' B own0 own' gl gk gp rate mv' S T N j (insN (delN R (ro R j)) (tgt S R j) j) pr0 pr':=by
 obtain ⟨m1,m2,m3,m4⟩:=reo_move h.near hj
 have hll:lastL S (insN (delN R (ro R j)) (tgt S R j) j)=insN (delN (lastL S R) (ro R j)) (tgt S R j) (prevL S j):=lastL_move (ro_get (h.near.mem.2 (by omega)))
 refine ⟨m1,by rw [hll];exact hl,h.tal.trans ?_,fun x hx=>reo_pairs h.near hj h.right x (hp.subset hx),fun p=>?_,fun h0 e=>?_,h.lf.trans hf⟩
 · unfold lastL
   exact (m4.map _).symm
 · rw [←h.plc p]
   constructor
   · rintro ⟨x,hx,rfl⟩
     obtain ⟨y,hy,e⟩:=List.mem_map.1 (hp.subset hx)
     exact ⟨y,hy,by rw [←e]⟩
   · rintro ⟨x,hx,rfl⟩
     exact ⟨_,hp.symm.subset (List.mem_map.2 ⟨x,hx,rfl⟩),rfl⟩
 · subst e
   have:=hp.length_eq
   simp at this
   exact h.ne (by omega) (List.eq_nil_of_length_eq_zero this.symm)
end
theorem nx_move {S R:List Nat} {N m:Nat} (h:Near S R N (m+2)) (hm:m+1 < N):((inR (outR (ro R m) (ro R (m+1))) (tgt S R (m+1)):Nat):Int)=aOf (insN (delN R (ro R (m+1))) (tgt S R (m+1)) (m+1)) (m+1):=by
 rw [aOf_succ,(reo_move h hm).2.2.1 m (by omega) (by omega)]
theorem Grew.after {w w5 w8:World} {own own2:Nat→Nat} (hb:∀b,own b≠0→b < w.heap.size) (hs:Keep (fun b=>own b=2∨16≤own b) w w5) (g:Grew w5 w8 own own2):Grew w w8 own own2:=by
 have h1:=hs.size
 refine ⟨fun b hlt=>g.old b (by omega),fun b hge e=>?_,hs.trans g.keep⟩
 by_cases c:b < w5.heap.size
 · have h2:=g.old b c
   have h3:=hb b (by omega)
   omega
 · exact g.new b (by omega) e
def ReoPost (w0:World) (B:Nat) (own0:Nat→Nat) (gl gk gp rate:Nat) (S T:List Nat) (N:Nat) (pr0:List (Nat×Nat)) (e:Ending) (w':World):Prop:=
 e=.returned (.tuple #[])∧∃own mv R pr,ReoI w0 w' B own0 own gl gk gp rate mv S T N 0 R pr0 pr
theorem Reorder_any (w0 w:World) (B:Nat) (own0 own1:Nat→Nat) (gl gk gp rate:Nat) (mv1:Int) (S T:List Nat) (N i0:Nat) (R1:List Nat) (pr0 pr1:List (Nat×Nat)) (h:ReoI w0 w B own0 own1 gl gk gp rate mv1 S T N i0 R1 pr0 pr1) (hi0:i0≤N) (hN:N≤127) (hS:∀x∈S,x < 257):
 Calls Tryz.prog 65 #[.pointer (some ⟨gl,0,none⟩),.int .i64 (i0:Int),.int .i64 ((ro R1 i0:Nat):Int),.int .i64 (aOf R1 i0)] w (ReoPost w0 B own0 gl gk gp rate S T N pr0):=by
 have H0:=lhd h
 have HS:=lhd hS
 clear h hS
 unfold ReoPost
 go_enter Tryz.func65,Tryz.ntmps65
 go_wp2_with fail
 go_loopw [1,2,3] (fun x y z wr=>∃(i:Nat) (own:Nat→Nat) (mv:Int) (R:List Nat) (pr:List (Nat×Nat)),i≤N∧x=.int .i64 (i:Int)∧y=.int .i64 ((ro R i:Nat):Int)∧z=.int .i64 (aOf R i)∧ReoI w0 wr B own0 own gl gk gp rate mv S T N i R pr0 pr) (fun x _ _ _=>(intOf x).toNat)
 case atStart=>exact ⟨i0,own1,mv1,R1,pr1,hi0,rfl,rfl,rfl,H0.out⟩
 case round=>
  clear H0
  obtain ⟨i,own,mv,R,pr,hiN,rfl,rfl,rfl,hinv⟩:=hrel
  rcases i with _ | j
  · have Hinv:=lhd hinv
    clear hinv
    go_wp2_with fail
    go_end0
    exact ⟨rfl,own,mv,R,pr,Hinv.out⟩
  · have hj:j < N:=by omega
    have hnear:=hinv.near
    obtain ⟨L,hL⟩:∃L,lastL S R=L:=⟨_,rfl⟩
    have hLl:L.length=N+1:=by rw [←hL,lastL_len,hnear.len]
    have hL257:∀x∈L,x < 257:=by rw [←hL];exact lastL_lt HS.out
    have hTl:T.length=N+1:=by rw [hinv.tal.length_eq,hL,hLl]
    have hSl:S.length=N+1:=hnear.endk.len
    have hLc:=reo_at hnear (show j+1≤N by omega)
    have hLa:=reo_at hnear (show j≤N by omega)
    rw [prevL_succ (by omega)] at hLc
    rw [hL] at hLc hLa
    have ht:narT L T (S.getD j 0) (ro R (j+1))=tgt S R j:=by rw [←hL,narT_perm hinv.tal];rfl
    have htl:=tgt_lt hnear hj
    have hstop:=fun e=>reo_stop hnear hj e
    have hlive:=hinv.live
    rw [hL] at hlive
    rw [aOf_succ]
    have hal:ro R j < N+1:=by
        have:=List.idxOf_lt_length_iff.2 (hnear.mem.2 (show j≤N by omega))
        rw [hnear.len] at this
        exact this
    have hcl:ro R (j+1) < N+1:=by
        have:=List.idxOf_lt_length_iff.2 (hnear.mem.2 (show j+1≤N by omega))
        rw [hnear.len] at this
        exact this
    obtain ⟨t,hte⟩:∃t,tgt S R j=t:=⟨_,rfl⟩
    obtain ⟨ra,hae⟩:∃ra,ro R j=ra:=⟨_,rfl⟩
    obtain ⟨cur,hce⟩:∃c,ro R (j+1)=c:=⟨_,rfl⟩
    obtain ⟨c,hcc⟩:∃c,S.getD j 0=c:=⟨_,rfl⟩
    obtain ⟨d,hdd⟩:∃d,prevL S j=d:=⟨_,rfl⟩
    rw [hte] at ht htl
    rw [hae] at hLa hal
    rw [hce] at ht hLc hcl
    rw [hcc] at ht hLc
    rw [hdd] at hLa
    rw [hae,hce]
    have hto:=LTo_any cur c hlive hLc hL257 (by omega) (by omega)
    rw [ht] at hto
    have e1:IntKind.i64.wrap (((j+1:Nat):Int) - 1)=(j:Int):=by rw [IntKind.wrap_i64];omega
    obtain ⟨jj,hjj⟩:∃jj,j+1=jj:=⟨_,rfl⟩
    rw [hjj] at e1⊢
    have hjpos:decide ((jj:Int) > 0)=true:=decide_eq_true (by omega)
    have hjpN:0 < jj:=by omega
    have Hinv:=lhd hinv
    have Hlive:=lhd hlive
    have HL:=lhd hL
    have HLl:=lhd hLl
    have HL257:=lhd hL257
    have HLc:=lhd hLc
    have HLa:=lhd hLa
    have Hte:=lhd hte
    have Hae:=lhd hae
    have Hce:=lhd hce
    have Hcc:=lhd hcc
    have Hdd:=lhd hdd
    have Hjj:=lhd hjj
    have HTl:=lhd hTl
    have HSl:=lhd hSl
    have Hstop:=lhd hstop
    have htl':t≤N:=by omega
    clear hinv hlive hL hLl hL257 hLc hLa hte hae hce hcc hdd hjj hTl hSl hstop hnear ht htl
    go_wp2_with fail
    refine hto.mono ?_
    clear hto
    rintro e w1 ⟨rfl,hv1⟩
    have hl1:=Hlive.out.vis hv1.1
    have hf1:=LF.of_vb (own:=own) hv1
    have Hl1:=lhd hl1
    have Hf1:=lhd hf1
    clear hl1 hf1 hv1
    by_cases hat:ra=t
    · have hatb:((ra:Int)==(t:Int))=true:=by rw [hat];simp
      go_wp2_with fail
      refine bodyPost_ret (results_none rfl _ _ _) rfl ?_
      have hI:=Hinv.out
      exact ⟨rfl,own,mv,R,pr,Hstop.out (by rw [Hae.out,Hte.out];exact hat),by rw [HL.out];exact Hl1.out,hI.tal,hI.right,hI.plc,fun h9=>absurd h9 (Nat.lt_irrefl 0),hI.lf.trans Hf1.out⟩
    · have hatb:((ra:Int)==(t:Int))=false:=by rw [beq_eq_false_iff_ne];omega
      obtain ⟨gv,gt,hgw,hwv⟩:=Hl1.out.gw
      have q0:=Hl1.out.blk.cell 0
      have q1:=hgw.cell 0
      have hgetc:=WaveGet_any B gv L cur c w1 hwv (by rw [HLl.out];exact hcl) (by have h9:=HLc.out;rw [List.getElem?_eq_getElem (by rw [HLl.out];exact hcl)] at h9;injection h9) HL257.out (by rw [HLl.out];omega)
      clear hgw hwv
      go_wp2_with fail
      refine hgetc.mono ?_
      clear hgetc
      rintro e w2 ⟨rfl,hv2⟩
      have hl2:=Hl1.out.vis hv2.1
      have hf2:=Hf1.out.trans (LF.of_vb (own:=own) hv2)
      have Hl2:=lhd hl2
      have Hf2:=lhd hf2
      clear hl2 hf2 hv2 q0 q1
      obtain ⟨gv2,gt2,hgw,hwv⟩:=Hl2.out.gw
      have q0:=Hl2.out.blk.cell 0
      have q1:=hgw.cell 0
      have hgetd:=WaveGet_any B gv2 L ra d w2 hwv (by rw [HLl.out];exact hal) (by have h9:=HLa.out;rw [List.getElem?_eq_getElem (by rw [HLl.out];exact hal)] at h9;injection h9) HL257.out (by rw [HLl.out];omega)
      clear hgw hwv Hl1 Hf1
      go_wp2_with fail
      refine hgetd.mono ?_
      clear hgetd
      rintro e w3 ⟨rfl,hv3⟩
      have hl3:=Hl2.out.vis hv3.1
      have hf3:=Hf2.out.trans (LF.of_vb (own:=own) hv3)
      have Hl3:=lhd hl3
      have Hf3:=lhd hf3
      clear hl3 hf3 hv3 q0 q1 Hl2 Hf2
      rcases Nat.eq_zero_or_pos j with hj0 | hj0
      · have hj1:decide ((jj:Int) > 1)=false:=decide_eq_false (by have:=Hjj.out;omega)
        have hj2:¬(jj:Int) > 1:=by have:=Hjj.out;omega
        have hnx:aOf (insN (delN R (ro R j)) (tgt S R j) j) j=-1:=by rw [hj0];rfl
        have Hnx:=lhd hnx
        clear hnx hj0
        have g0:w3.cell? ⟨gl,0,none⟩=some (.pointer (some ⟨gk,0,none⟩)):=(Hl3.out.blk.cell 0).trans rfl
        have hgl3:=Hl3.out.blk.lt
        have hglF:¬(own gl=2∨16≤own gl):=by have:=Hl3.out.col;omega
        have hnew:∀b,w3.heap.size≤b→own b≠1:=fun b hb e=>by have:=(Hl3.out.bnd b (by omega)).2;omega
        go_wp2_with fail
        refine wp_region_any (by kernel_rfl) ?_
        refine wpAny_keep_tail 11 [60,61,62,63,64,65,66,67,68,69,70] (fun b=>own b=2∨16≤own b) 10 [10] (fun w2=>WalkE w2 B own gk L T) (fun v w2=>v=.int .i64 (d:Int)∧∃own2,WalkE w2 B own2 gk (delN L ra) T∧Grew w3 w2 own own2) [is (.pointer (some ⟨gl,0,none⟩)),is (.pointer (some ⟨gl,0,none⟩)),is (.pointer (some ⟨gl,0,none⟩)),is (.pointer (some ⟨gk,0,none⟩)),is (.int .i64 (t:Int)),is (.pointer (some ⟨gl,0,none⟩)),is (.pointer (some ⟨gl,0,none⟩)),is (.pointer (some ⟨gl,0,none⟩)),is (.pointer (some ⟨gk,0,none⟩)),is (.int .i64 (ra:Int)),anyV] _ _ rfl (by decide) (by kernel_rfl) (by kernel_rfl) (by kernel_rfl) ((Hl3.out.walk.vis (Vis.of_below (below_drewN (Below.refl _ _) 1)))) (fun w2 w3 h _ hg=>h.vis (Vis.of_below hg)) (fun _ _ _ ⟨h1,own2,h2,h3⟩ k=>⟨h1,own2,h2.vis (Vis.of_below k),h3.old,h3.new,h3.keep.trans (Keep.of_below k)⟩) (by repeat' (first | exact stbk_is _ _ | exact stbk_any _ |(refine List.forall_mem_cons.2 ⟨?_,?_⟩)|(intro p hp;cases hp))) ?_ ?_
        · refine steps_of_n ?_
          refine steps_cons (step_on3 rfl rfl fun ev _ _ _ _ _ hold _ _ _ _ hK=>?_) ?_
          · have e0:ev (.tmp 0)=.pointer (some ⟨gl,0,none⟩):=hold 0 (by kernel_rfl)
            go_simp
            exact kq hK rfl
          refine steps_cons (step_on3 rfl rfl fun _ _ _ _ _ _ _ hval _ _ _ hK=>?_) ?_
          · have e60:_=_:=hval 0 60 (by kernel_rfl) rfl
            go_simp
            exact kq hK rfl
          refine steps_cons (step_on3 rfl rfl fun _ _ _ _ _ _ _ hval _ _ _ hK=>?_) ?_
          · have e61:_=_:=hval 1 61 (by kernel_rfl) rfl
            go_simp
            exact kq hK rfl
          refine steps_cons (step_on3 rfl rfl fun _ w5 hS _ _ _ _ hval _ _ _ hK=>?_) ?_
          · replace hS:Keep (fun b=>own b=2∨16≤own b) w3 w5:=⟨hS.os,hS.tape,hS.output,hS.size,hS.block⟩
            have e62:_=_:=hval 2 62 (by kernel_rfl) rfl
            have c63:w5.cell? ⟨gl,0,none⟩=some (.pointer (some ⟨gk,0,none⟩)):=(hS.cell (p:=⟨gl,0,none⟩) hgl3 hglF).trans g0
            go_simp
            exact kq hK rfl
          refine steps_cons (step_on3 rfl rfl fun ev _ _ _ _ _ hold _ _ _ _ hK=>?_) ?_
          · have e8:ev (.tmp 8)=.int .i64 (t:Int):=hold 8 (by kernel_rfl)
            go_simp
            exact kq hK rfl
          refine steps_cons (step_on3 rfl rfl fun ev _ _ _ _ _ hold _ _ _ _ hK=>?_) ?_
          · have e0:ev (.tmp 0)=.pointer (some ⟨gl,0,none⟩):=hold 0 (by kernel_rfl)
            go_simp
            exact kq hK rfl
          refine steps_cons (step_on3 rfl rfl fun _ _ _ _ _ _ _ hval _ _ _ hK=>?_) ?_
          · have e65:_=_:=hval 5 65 (by kernel_rfl) rfl
            go_simp
            exact kq hK rfl
          refine steps_cons (step_on3 rfl rfl fun _ _ _ _ _ _ _ hval _ _ _ hK=>?_) ?_
          · have e66:_=_:=hval 6 66 (by kernel_rfl) rfl
            go_simp
            exact kq hK rfl
          refine steps_cons (step_on3 rfl rfl fun _ w5 hS _ _ _ _ hval _ _ _ hK=>?_) ?_
          · replace hS:Keep (fun b=>own b=2∨16≤own b) w3 w5:=⟨hS.os,hS.tape,hS.output,hS.size,hS.block⟩
            have e67:_=_:=hval 7 67 (by kernel_rfl) rfl
            have c68:w5.cell? ⟨gl,0,none⟩=some (.pointer (some ⟨gk,0,none⟩)):=(hS.cell (p:=⟨gl,0,none⟩) hgl3 hglF).trans g0
            go_simp
            exact kq hK rfl
          refine steps_cons (step_on3 rfl rfl fun ev _ _ _ _ _ hold _ _ _ _ hK=>?_) ?_
          · have e3:ev (.tmp 3)=.int .i64 (ra:Int):=hold 3 (by kernel_rfl)
            go_simp
            exact kq hK rfl
          refine steps_cons (step_on3 rfl rfl fun _ w5 hS hU _ _ _ hval _ _ _ hK=>?_) ?_
          · replace hS:Keep (fun b=>own b=2∨16≤own b) w3 w5:=⟨hS.os,hS.tape,hS.output,hS.size,hS.block⟩
            have hpre:=hU rfl
            have e68:_=_:=hval 8 68 (by kernel_rfl) rfl
            have e69:_=_:=hval 9 69 (by kernel_rfl) rfl
            go_simp
            refine (WalkCut_any B gk own L T ra d w5 hpre HLa.out HL257.out (by rw [HLl.out];omega)).mono ?_
            rintro e w8 ⟨rfl,own2,hE8,hG8⟩
            exact hK _ _ (kstep_keep hG8.keep) ⟨rfl,own2,hE8,Grew.after (fun b hb=>(Hl3.out.bnd b hb).2) hS hG8⟩
          exact steps_nil
        · intro ev w6 f hS hval
          replace hS:Keep (fun b=>own b=2∨16≤own b) w3 w6:=⟨hS.os,hS.tape,hS.output,hS.size,hS.block⟩
          have e63:ev (.tmp 63)=.pointer (some ⟨gk,0,none⟩):=hval 3 63 (by decide) rfl
          have e64:ev (.tmp 64)=.int .i64 (t:Int):=hval 4 64 (by decide) rfl
          have p70:(fun v w2=>v=.int .i64 (d:Int)∧∃own2,WalkE w2 B own2 gk (delN L ra) T∧Grew w3 w2 own own2) (ev (.tmp 70)) w6:=hval 10 70 (by decide) rfl
          simp only [putsOf,List.foldl_cons,List.foldl_nil,Act.put,List.setIfInBounds_toArray,List.set_cons_zero,List.set_cons_succ]
          rw [e63]
          rw [e64]
          clear hval
          obtain ⟨e70,own2,hE6,hG6⟩:=p70
          have HE6:=lhd hE6
          have HG6:=lhd hG6
          clear hE6 hG6 g0 hgl3 hglF hnew hS
          change wpAny Tryz.prog Region.Mode.any _ _ (1+f) (firstN 11 12) _ w6
          rw [Nat.add_comm 1 f]
          refine wpAny_one (f:=f) (i:=11) (by kernel_rfl) ?_
          refine wpOp_run rfl rfl ?_
          generalize hK:wpAny Tryz.prog _ _ _ f _=K5
          go_simp
          have hdl:=delN_len L (show ra < L.length by rw [HLl.out];omega)
          refine (WalkPut_any B gk own2 (delN L ra) T t d w6 HE6.out (HL257.out d (List.mem_of_getElem? HLa.out)) (by have:=HLl.out;omega) (delN_lt HL257.out) (by have:=HLl.out;omega)).mono ?_
          rintro e w7 ⟨rfl,own3,hE7,hG7⟩
          subst hK
          refine wpAny_all (by kernel_rfl) ?_
          obtain ⟨hl7,hf7⟩:=Hl3.out.walkOp hE7 (HG6.out.trans hG7)
          have hrow:=PermRowMove_any (fun b=>own3 b=1) gp (N+1) (N+1) ra t pr w7 hl7.perm (by omega) (by omega) (by omega) (by omega) (Hinv.out.ne (by omega))
          have g1:w7.cell? ⟨gl,1,none⟩=some (.pointer (some ⟨gp,0,none⟩)):=(hl7.blk.cell 1).trans rfl
          have hgl7:=hl7.blk.lt
          have Hl7:=lhd hl7
          have Hf7:=lhd (Hf3.out.trans hf7)
          clear hl7 hf7 hE7 hG7 HG6 HE6 hdl
          go_wp2_with fail
          refine hrow.mono ?_
          clear hrow
          rintro e w8 ⟨rfl,⟨pr',hpp,hP8⟩,hk8⟩
          obtain ⟨hl8,hf8⟩:=Hl7.out.permOp (hP8.mono fun b _ f=>.inl f) hk8
          have Hpp:=lhd hpp
          have Hl8:=lhd hl8
          have Hf8:=lhd (Hf7.out.trans hf8)
          clear hl8 hf8 hP8 hk8 hpp g1 hgl7 Hl7 Hf7
          obtain ⟨own8,ho8⟩:∃o,recol own3 w7.heap.size w8.heap.size 1=o:=⟨_,rfl⟩
          rw [ho8] at Hl8 Hf8
          have g3:w8.cell? ⟨gl,3,none⟩=some (.int .i64 mv):=(Hl8.out.blk.cell 3).trans rfl
          have f3:=Hl8.out.blk.frozen 3
          have hgl8:=Hl8.out.blk.lt
          go_wp2_with fail
          obtain ⟨hl9,hf9⟩:=Hl8.out.setMv (wrap64 (mv+1))
          have Hl9:=lhd hl9
          have Hf9:=lhd (Hf8.out.trans hf9)
          clear hl9 hf9 g3 f3 hgl8 Hl8 Hf8 ho8
          generalize w8.setCell ⟨gl,3,none⟩ (.int .i64 (wrap64 (mv+1)))=w9 at Hl9 Hf9⊢
          go_wp2_with fail
          go_roundw
          case rel=>
           have hll:LiveM w9 B own8 gl gk gp rate (wrap64 (mv+1)) (N+1) (N+1) (insN (delN (lastL S R) (ro R j)) (tgt S R j) (prevL S j)) T pr':=by rw [HL.out,Hae.out,Hte.out,Hdd.out];exact Hl9.out
           have hst:=reo_step Hinv.out hj hll (by rw [Hae.out,Hte.out];exact Hpp.out) Hf9.out
           have hm2:=(reo_move Hinv.out.near hj).2.1
           exact ⟨j,own8,wrap64 (mv+1),_,pr',by omega,rfl,by rw [hm2,Hte.out],by rw [Hnx.out],hst⟩
          case measure=>simp [intOf];have:=Hjj.out;omega
      · obtain ⟨m,hm⟩:∃m,j=m+1:=⟨j - 1,by omega⟩
        have hj1:decide ((jj:Int) > 1)=true:=decide_eq_true (by have:=Hjj.out;omega)
        have hj2:(jj:Int) > 1:=by have:=Hjj.out;omega
        have hnearm:Near S R N (m+2):=by have:=Hinv.out.near;rwa [hm] at this
        obtain ⟨n1,n2⟩:=next_row hnearm (by omega)
        have hnx:((inR (outR (ro R m) (ro R j)) (tgt S R j):Nat):Int)=aOf (insN (delN R (ro R j)) (tgt S R j) j) j:=by
         subst hm
         exact nx_move hnearm hj
        have hdm:S.getD m 0=d:=by
         have:=Hdd.out
         rw [hm,prevL_succ (by have:=HSl.out;omega)] at this
         exact this
        rw [←hm] at n1 n2
        rw [show m+2=j+1 by omega,hdm,Hcc.out,Hae.out,Hce.out,HL.out] at n1 n2
        rw [Hae.out,Hte.out] at hnx
        have hto2:=LTo_any ra d Hl3.out HLa.out HL257.out (by rw [HLl.out];omega) (by rw [HTl.out];omega)
        have hTn:narT L T d ra=narL L d ra:=narT_perm (by rw [←HL.out];exact Hinv.out.tal) d ra
        rw [hTn] at hto2
        have hnl:narL L d ra≤N+1:=by have:=narL_le L d ra;rw [HLl.out] at this;exact this
        obtain ⟨nl,hnle⟩:∃x,narL L d ra=x:=⟨_,rfl⟩
        rw [hnle] at n1 n2 hto2 hnl
        obtain ⟨rm,hrm⟩:∃x,ro R m=x:=⟨_,rfl⟩
        rw [hrm] at n1 hnx
        have hrmN:rm≤N:=by
         have hrl:ro R m < R.length:=List.idxOf_lt_length_iff.2 (hnearm.mem.2 (show m≤N by omega))
         rw [hnearm.len,hrm] at hrl
         omega
        have Hnx:=lhd hnx
        have Hn1:=lhd n1
        have Hn2:=lhd n2
        clear hnx n1 n2 hnearm hdm hTn hnle hrm hm
        go_wp2_with fail
        refine hto2.mono ?_
        clear hto2
        rintro e w4 ⟨rfl,hv4⟩
        have hl4:=Hl3.out.vis hv4.1
        have hf4:=Hf3.out.trans (LF.of_vb (own:=own) hv4)
        have Hl3:=lhd hl4
        have Hf3:=lhd hf4
        clear hl4 hf4 hv4
        by_cases hcd:c=d
        · have hcdb:((c:Int)==(d:Int))=true:=by rw [hcd];simp
          have hbe:besN nl cur ra=rm:=by have:=Hn1.out;rwa [if_pos hcd] at this
          have hbs:=Beside_any nl cur ra w4 (by
           by_cases h9:cur < ra
           · exact .inl (Hn2.out hcd h9)
           · exact .inr h9) (by omega)
          rw [hbe] at hbs
          clear hbe
          go_wp2_with fail
          refine hbs.mono ?_
          clear hbs
          rintro e w5 ⟨rfl,rfl⟩
          have g0:w4.cell? ⟨gl,0,none⟩=some (.pointer (some ⟨gk,0,none⟩)):=(Hl3.out.blk.cell 0).trans rfl
          have hgl3:=Hl3.out.blk.lt
          have hglF:¬(own gl=2∨16≤own gl):=by have:=Hl3.out.col;omega
          have hnew:∀b,w4.heap.size≤b→own b≠1:=fun b hb e=>by have:=(Hl3.out.bnd b (by omega)).2;omega
          go_wp2_with fail
          refine wp_region_any (by kernel_rfl) ?_
          refine wpAny_keep_tail 11 [60,61,62,63,64,65,66,67,68,69,70] (fun b=>own b=2∨16≤own b) 10 [10] (fun w2=>WalkE w2 B own gk L T) (fun v w2=>v=.int .i64 (d:Int)∧∃own2,WalkE w2 B own2 gk (delN L ra) T∧Grew w4 w2 own own2) [is (.pointer (some ⟨gl,0,none⟩)),is (.pointer (some ⟨gl,0,none⟩)),is (.pointer (some ⟨gl,0,none⟩)),is (.pointer (some ⟨gk,0,none⟩)),is (.int .i64 (t:Int)),is (.pointer (some ⟨gl,0,none⟩)),is (.pointer (some ⟨gl,0,none⟩)),is (.pointer (some ⟨gl,0,none⟩)),is (.pointer (some ⟨gk,0,none⟩)),is (.int .i64 (ra:Int)),anyV] _ _ rfl (by decide) (by kernel_rfl) (by kernel_rfl) (by kernel_rfl) ((Hl3.out.walk.vis (Vis.of_below (below_drewN (Below.refl _ _) 1)))) (fun w2 w3 h _ hg=>h.vis (Vis.of_below hg)) (fun _ _ _ ⟨h1,own2,h2,h3⟩ k=>⟨h1,own2,h2.vis (Vis.of_below k),h3.old,h3.new,h3.keep.trans (Keep.of_below k)⟩) (by repeat' (first | exact stbk_is _ _ | exact stbk_any _ |(refine List.forall_mem_cons.2 ⟨?_,?_⟩)|(intro p hp;cases hp))) ?_ ?_
          · refine steps_of_n ?_
            refine steps_cons (step_on3 rfl rfl fun ev _ _ _ _ _ hold _ _ _ _ hK=>?_) ?_
            · have e0:ev (.tmp 0)=.pointer (some ⟨gl,0,none⟩):=hold 0 (by kernel_rfl)
              go_simp
              exact kq hK rfl
            refine steps_cons (step_on3 rfl rfl fun _ _ _ _ _ _ _ hval _ _ _ hK=>?_) ?_
            · have e60:_=_:=hval 0 60 (by kernel_rfl) rfl
              go_simp
              exact kq hK rfl
            refine steps_cons (step_on3 rfl rfl fun _ _ _ _ _ _ _ hval _ _ _ hK=>?_) ?_
            · have e61:_=_:=hval 1 61 (by kernel_rfl) rfl
              go_simp
              exact kq hK rfl
            refine steps_cons (step_on3 rfl rfl fun _ w5 hS _ _ _ _ hval _ _ _ hK=>?_) ?_
            · replace hS:Keep (fun b=>own b=2∨16≤own b) w4 w5:=⟨hS.os,hS.tape,hS.output,hS.size,hS.block⟩
              have e62:_=_:=hval 2 62 (by kernel_rfl) rfl
              have c63:w5.cell? ⟨gl,0,none⟩=some (.pointer (some ⟨gk,0,none⟩)):=(hS.cell (p:=⟨gl,0,none⟩) hgl3 hglF).trans g0
              go_simp
              exact kq hK rfl
            refine steps_cons (step_on3 rfl rfl fun ev _ _ _ _ _ hold _ _ _ _ hK=>?_) ?_
            · have e8:ev (.tmp 8)=.int .i64 (t:Int):=hold 8 (by kernel_rfl)
              go_simp
              exact kq hK rfl
            refine steps_cons (step_on3 rfl rfl fun ev _ _ _ _ _ hold _ _ _ _ hK=>?_) ?_
            · have e0:ev (.tmp 0)=.pointer (some ⟨gl,0,none⟩):=hold 0 (by kernel_rfl)
              go_simp
              exact kq hK rfl
            refine steps_cons (step_on3 rfl rfl fun _ _ _ _ _ _ _ hval _ _ _ hK=>?_) ?_
            · have e65:_=_:=hval 5 65 (by kernel_rfl) rfl
              go_simp
              exact kq hK rfl
            refine steps_cons (step_on3 rfl rfl fun _ _ _ _ _ _ _ hval _ _ _ hK=>?_) ?_
            · have e66:_=_:=hval 6 66 (by kernel_rfl) rfl
              go_simp
              exact kq hK rfl
            refine steps_cons (step_on3 rfl rfl fun _ w5 hS _ _ _ _ hval _ _ _ hK=>?_) ?_
            · replace hS:Keep (fun b=>own b=2∨16≤own b) w4 w5:=⟨hS.os,hS.tape,hS.output,hS.size,hS.block⟩
              have e67:_=_:=hval 7 67 (by kernel_rfl) rfl
              have c68:w5.cell? ⟨gl,0,none⟩=some (.pointer (some ⟨gk,0,none⟩)):=(hS.cell (p:=⟨gl,0,none⟩) hgl3 hglF).trans g0
              go_simp
              exact kq hK rfl
            refine steps_cons (step_on3 rfl rfl fun ev _ _ _ _ _ hold _ _ _ _ hK=>?_) ?_
            · have e3:ev (.tmp 3)=.int .i64 (ra:Int):=hold 3 (by kernel_rfl)
              go_simp
              exact kq hK rfl
            refine steps_cons (step_on3 rfl rfl fun _ w5 hS hU _ _ _ hval _ _ _ hK=>?_) ?_
            · replace hS:Keep (fun b=>own b=2∨16≤own b) w4 w5:=⟨hS.os,hS.tape,hS.output,hS.size,hS.block⟩
              have hpre:=hU rfl
              have e68:_=_:=hval 8 68 (by kernel_rfl) rfl
              have e69:_=_:=hval 9 69 (by kernel_rfl) rfl
              go_simp
              refine (WalkCut_any B gk own L T ra d w5 hpre HLa.out HL257.out (by rw [HLl.out];omega)).mono ?_
              rintro e w8 ⟨rfl,own2,hE8,hG8⟩
              exact hK _ _ (kstep_keep hG8.keep) ⟨rfl,own2,hE8,Grew.after (fun b hb=>(Hl3.out.bnd b hb).2) hS hG8⟩
            exact steps_nil
          · intro ev w6 f hS hval
            replace hS:Keep (fun b=>own b=2∨16≤own b) w4 w6:=⟨hS.os,hS.tape,hS.output,hS.size,hS.block⟩
            have e63:ev (.tmp 63)=.pointer (some ⟨gk,0,none⟩):=hval 3 63 (by decide) rfl
            have e64:ev (.tmp 64)=.int .i64 (t:Int):=hval 4 64 (by decide) rfl
            have p70:(fun v w2=>v=.int .i64 (d:Int)∧∃own2,WalkE w2 B own2 gk (delN L ra) T∧Grew w4 w2 own own2) (ev (.tmp 70)) w6:=hval 10 70 (by decide) rfl
            simp only [putsOf,List.foldl_cons,List.foldl_nil,Act.put,List.setIfInBounds_toArray,List.set_cons_zero,List.set_cons_succ]
            rw [e63]
            rw [e64]
            clear hval
            obtain ⟨e70,own2,hE6,hG6⟩:=p70
            have HE6:=lhd hE6
            have HG6:=lhd hG6
            clear hE6 hG6 g0 hgl3 hglF hnew hS
            change wpAny Tryz.prog Region.Mode.any _ _ (1+f) (firstN 11 12) _ w6
            rw [Nat.add_comm 1 f]
            refine wpAny_one (f:=f) (i:=11) (by kernel_rfl) ?_
            refine wpOp_run rfl rfl ?_
            generalize hK:wpAny Tryz.prog _ _ _ f _=K5
            go_simp
            have hdl:=delN_len L (show ra < L.length by rw [HLl.out];omega)
            refine (WalkPut_any B gk own2 (delN L ra) T t d w6 HE6.out (HL257.out d (List.mem_of_getElem? HLa.out)) (by have:=HLl.out;omega) (delN_lt HL257.out) (by have:=HLl.out;omega)).mono ?_
            rintro e w7 ⟨rfl,own3,hE7,hG7⟩
            subst hK
            refine wpAny_all (by kernel_rfl) ?_
            obtain ⟨hl7,hf7⟩:=Hl3.out.walkOp hE7 (HG6.out.trans hG7)
            have hrow:=PermRowMove_any (fun b=>own3 b=1) gp (N+1) (N+1) ra t pr w7 hl7.perm (by omega) (by omega) (by omega) (by omega) (Hinv.out.ne (by omega))
            have g1:w7.cell? ⟨gl,1,none⟩=some (.pointer (some ⟨gp,0,none⟩)):=(hl7.blk.cell 1).trans rfl
            have hgl7:=hl7.blk.lt
            have Hl7:=lhd hl7
            have Hf7:=lhd (Hf3.out.trans hf7)
            clear hl7 hf7 hE7 hG7 HG6 HE6 hdl
            go_wp2_with fail
            refine hrow.mono ?_
            clear hrow
            rintro e w8 ⟨rfl,⟨pr',hpp,hP8⟩,hk8⟩
            obtain ⟨hl8,hf8⟩:=Hl7.out.permOp (hP8.mono fun b _ f=>.inl f) hk8
            have Hpp:=lhd hpp
            have Hl8:=lhd hl8
            have Hf8:=lhd (Hf7.out.trans hf8)
            clear hl8 hf8 hP8 hk8 hpp g1 hgl7 Hl7 Hf7
            obtain ⟨own8,ho8⟩:∃o,recol own3 w7.heap.size w8.heap.size 1=o:=⟨_,rfl⟩
            rw [ho8] at Hl8 Hf8
            have g3:w8.cell? ⟨gl,3,none⟩=some (.int .i64 mv):=(Hl8.out.blk.cell 3).trans rfl
            have f3:=Hl8.out.blk.frozen 3
            have hgl8:=Hl8.out.blk.lt
            go_wp2_with fail
            obtain ⟨hl9,hf9⟩:=Hl8.out.setMv (wrap64 (mv+1))
            have Hl9:=lhd hl9
            have Hf9:=lhd (Hf8.out.trans hf9)
            clear hl9 hf9 g3 f3 hgl8 Hl8 Hf8 ho8
            generalize w8.setCell ⟨gl,3,none⟩ (.int .i64 (wrap64 (mv+1)))=w9 at Hl9 Hf9⊢
            have hout:=Out_any2 (rm:Int) (ra:Int) w9 (by omega)
            rw [outI_nat] at hout
            have hor:outR rm ra≤200:=by unfold outR;split <;> omega
            obtain ⟨orr,hore⟩:∃x,outR rm ra=x:=⟨_,rfl⟩
            rw [hore] at hout hor
            have hin:=In_any2 (orr:Int) (t:Int) w9 (by omega)
            rw [inI_nat] at hin
            have hnx2:=Hnx.out
            rw [hore] at hnx2
            have hrmge:decide ((rm:Int)≥0)=true:=by simp
            have Hnx2:=lhd hnx2
            obtain ⟨irr,hire⟩:∃x,inR orr t=x:=⟨_,rfl⟩
            rw [hire] at hin Hnx2
            clear hnx2 hore hire
            go_wp2_with fail
            refine hout.mono ?_
            rintro e wA ⟨rfl,rfl⟩
            go_wp2_with fail
            refine hin.mono ?_
            rintro e wB ⟨rfl,rfl⟩
            clear hout hin
            go_wp2_with fail
            go_roundw
            case rel=>
             have hll:LiveM w9 B own8 gl gk gp rate (wrap64 (mv+1)) (N+1) (N+1) (insN (delN (lastL S R) (ro R j)) (tgt S R j) (prevL S j)) T pr':=by rw [HL.out,Hae.out,Hte.out,Hdd.out];exact Hl9.out
             have hst:=reo_step Hinv.out hj hll (by rw [Hae.out,Hte.out];exact Hpp.out) Hf9.out
             have hm2:=(reo_move Hinv.out.near hj).2.1
             exact ⟨j,own8,wrap64 (mv+1),_,pr',by omega,rfl,by rw [hm2,Hte.out],by rw [Hnx2.out,Hae.out,Hte.out],hst⟩
            case measure=>simp [intOf];have:=Hjj.out;omega
        · have hcdb:((c:Int)==(d:Int))=false:=by rw [beq_eq_false_iff_ne];omega
          have hbe:nl=rm:=by have:=Hn1.out;rwa [if_neg hcd] at this
          rw [hbe]
          clear hbe
          have g0:w4.cell? ⟨gl,0,none⟩=some (.pointer (some ⟨gk,0,none⟩)):=(Hl3.out.blk.cell 0).trans rfl
          have hgl3:=Hl3.out.blk.lt
          have hglF:¬(own gl=2∨16≤own gl):=by have:=Hl3.out.col;omega
          have hnew:∀b,w4.heap.size≤b→own b≠1:=fun b hb e=>by have:=(Hl3.out.bnd b (by omega)).2;omega
          go_wp2_with fail
          refine wp_region_any (by kernel_rfl) ?_
          refine wpAny_keep_tail 11 [60,61,62,63,64,65,66,67,68,69,70] (fun b=>own b=2∨16≤own b) 10 [10] (fun w2=>WalkE w2 B own gk L T) (fun v w2=>v=.int .i64 (d:Int)∧∃own2,WalkE w2 B own2 gk (delN L ra) T∧Grew w4 w2 own own2) [is (.pointer (some ⟨gl,0,none⟩)),is (.pointer (some ⟨gl,0,none⟩)),is (.pointer (some ⟨gl,0,none⟩)),is (.pointer (some ⟨gk,0,none⟩)),is (.int .i64 (t:Int)),is (.pointer (some ⟨gl,0,none⟩)),is (.pointer (some ⟨gl,0,none⟩)),is (.pointer (some ⟨gl,0,none⟩)),is (.pointer (some ⟨gk,0,none⟩)),is (.int .i64 (ra:Int)),anyV] _ _ rfl (by decide) (by kernel_rfl) (by kernel_rfl) (by kernel_rfl) ((Hl3.out.walk.vis (Vis.of_below (below_drewN (Below.refl _ _) 1)))) (fun w2 w3 h _ hg=>h.vis (Vis.of_below hg)) (fun _ _ _ ⟨h1,own2,h2,h3⟩ k=>⟨h1,own2,h2.vis (Vis.of_below k),h3.old,h3.new,h3.keep.trans (Keep.of_below k)⟩) (by repeat' (first | exact stbk_is _ _ | exact stbk_any _ |(refine List.forall_mem_cons.2 ⟨?_,?_⟩)|(intro p hp;cases hp))) ?_ ?_
          · refine steps_of_n ?_
            refine steps_cons (step_on3 rfl rfl fun ev _ _ _ _ _ hold _ _ _ _ hK=>?_) ?_
            · have e0:ev (.tmp 0)=.pointer (some ⟨gl,0,none⟩):=hold 0 (by kernel_rfl)
              go_simp
              exact kq hK rfl
            refine steps_cons (step_on3 rfl rfl fun _ _ _ _ _ _ _ hval _ _ _ hK=>?_) ?_
            · have e60:_=_:=hval 0 60 (by kernel_rfl) rfl
              go_simp
              exact kq hK rfl
            refine steps_cons (step_on3 rfl rfl fun _ _ _ _ _ _ _ hval _ _ _ hK=>?_) ?_
            · have e61:_=_:=hval 1 61 (by kernel_rfl) rfl
              go_simp
              exact kq hK rfl
            refine steps_cons (step_on3 rfl rfl fun _ w5 hS _ _ _ _ hval _ _ _ hK=>?_) ?_
            · replace hS:Keep (fun b=>own b=2∨16≤own b) w4 w5:=⟨hS.os,hS.tape,hS.output,hS.size,hS.block⟩
              have e62:_=_:=hval 2 62 (by kernel_rfl) rfl
              have c63:w5.cell? ⟨gl,0,none⟩=some (.pointer (some ⟨gk,0,none⟩)):=(hS.cell (p:=⟨gl,0,none⟩) hgl3 hglF).trans g0
              go_simp
              exact kq hK rfl
            refine steps_cons (step_on3 rfl rfl fun ev _ _ _ _ _ hold _ _ _ _ hK=>?_) ?_
            · have e8:ev (.tmp 8)=.int .i64 (t:Int):=hold 8 (by kernel_rfl)
              go_simp
              exact kq hK rfl
            refine steps_cons (step_on3 rfl rfl fun ev _ _ _ _ _ hold _ _ _ _ hK=>?_) ?_
            · have e0:ev (.tmp 0)=.pointer (some ⟨gl,0,none⟩):=hold 0 (by kernel_rfl)
              go_simp
              exact kq hK rfl
            refine steps_cons (step_on3 rfl rfl fun _ _ _ _ _ _ _ hval _ _ _ hK=>?_) ?_
            · have e65:_=_:=hval 5 65 (by kernel_rfl) rfl
              go_simp
              exact kq hK rfl
            refine steps_cons (step_on3 rfl rfl fun _ _ _ _ _ _ _ hval _ _ _ hK=>?_) ?_
            · have e66:_=_:=hval 6 66 (by kernel_rfl) rfl
              go_simp
              exact kq hK rfl
            refine steps_cons (step_on3 rfl rfl fun _ w5 hS _ _ _ _ hval _ _ _ hK=>?_) ?_
            · replace hS:Keep (fun b=>own b=2∨16≤own b) w4 w5:=⟨hS.os,hS.tape,hS.output,hS.size,hS.block⟩
              have e67:_=_:=hval 7 67 (by kernel_rfl) rfl
              have c68:w5.cell? ⟨gl,0,none⟩=some (.pointer (some ⟨gk,0,none⟩)):=(hS.cell (p:=⟨gl,0,none⟩) hgl3 hglF).trans g0
              go_simp
              exact kq hK rfl
            refine steps_cons (step_on3 rfl rfl fun ev _ _ _ _ _ hold _ _ _ _ hK=>?_) ?_
            · have e3:ev (.tmp 3)=.int .i64 (ra:Int):=hold 3 (by kernel_rfl)
              go_simp
              exact kq hK rfl
            refine steps_cons (step_on3 rfl rfl fun _ w5 hS hU _ _ _ hval _ _ _ hK=>?_) ?_
            · replace hS:Keep (fun b=>own b=2∨16≤own b) w4 w5:=⟨hS.os,hS.tape,hS.output,hS.size,hS.block⟩
              have hpre:=hU rfl
              have e68:_=_:=hval 8 68 (by kernel_rfl) rfl
              have e69:_=_:=hval 9 69 (by kernel_rfl) rfl
              go_simp
              refine (WalkCut_any B gk own L T ra d w5 hpre HLa.out HL257.out (by rw [HLl.out];omega)).mono ?_
              rintro e w8 ⟨rfl,own2,hE8,hG8⟩
              exact hK _ _ (kstep_keep hG8.keep) ⟨rfl,own2,hE8,Grew.after (fun b hb=>(Hl3.out.bnd b hb).2) hS hG8⟩
            exact steps_nil
          · intro ev w6 f hS hval
            replace hS:Keep (fun b=>own b=2∨16≤own b) w4 w6:=⟨hS.os,hS.tape,hS.output,hS.size,hS.block⟩
            have e63:ev (.tmp 63)=.pointer (some ⟨gk,0,none⟩):=hval 3 63 (by decide) rfl
            have e64:ev (.tmp 64)=.int .i64 (t:Int):=hval 4 64 (by decide) rfl
            have p70:(fun v w2=>v=.int .i64 (d:Int)∧∃own2,WalkE w2 B own2 gk (delN L ra) T∧Grew w4 w2 own own2) (ev (.tmp 70)) w6:=hval 10 70 (by decide) rfl
            simp only [putsOf,List.foldl_cons,List.foldl_nil,Act.put,List.setIfInBounds_toArray,List.set_cons_zero,List.set_cons_succ]
            rw [e63]
            rw [e64]
            clear hval
            obtain ⟨e70,own2,hE6,hG6⟩:=p70
            have HE6:=lhd hE6
            have HG6:=lhd hG6
            clear hE6 hG6 g0 hgl3 hglF hnew hS
            change wpAny Tryz.prog Region.Mode.any _ _ (1+f) (firstN 11 12) _ w6
            rw [Nat.add_comm 1 f]
            refine wpAny_one (f:=f) (i:=11) (by kernel_rfl) ?_
            refine wpOp_run rfl rfl ?_
            generalize hK:wpAny Tryz.prog _ _ _ f _=K5
            go_simp
            have hdl:=delN_len L (show ra < L.length by rw [HLl.out];omega)
            refine (WalkPut_any B gk own2 (delN L ra) T t d w6 HE6.out (HL257.out d (List.mem_of_getElem? HLa.out)) (by have:=HLl.out;omega) (delN_lt HL257.out) (by have:=HLl.out;omega)).mono ?_
            rintro e w7 ⟨rfl,own3,hE7,hG7⟩
            subst hK
            refine wpAny_all (by kernel_rfl) ?_
            obtain ⟨hl7,hf7⟩:=Hl3.out.walkOp hE7 (HG6.out.trans hG7)
            have hrow:=PermRowMove_any (fun b=>own3 b=1) gp (N+1) (N+1) ra t pr w7 hl7.perm (by omega) (by omega) (by omega) (by omega) (Hinv.out.ne (by omega))
            have g1:w7.cell? ⟨gl,1,none⟩=some (.pointer (some ⟨gp,0,none⟩)):=(hl7.blk.cell 1).trans rfl
            have hgl7:=hl7.blk.lt
            have Hl7:=lhd hl7
            have Hf7:=lhd (Hf3.out.trans hf7)
            clear hl7 hf7 hE7 hG7 HG6 HE6 hdl
            go_wp2_with fail
            refine hrow.mono ?_
            clear hrow
            rintro e w8 ⟨rfl,⟨pr',hpp,hP8⟩,hk8⟩
            obtain ⟨hl8,hf8⟩:=Hl7.out.permOp (hP8.mono fun b _ f=>.inl f) hk8
            have Hpp:=lhd hpp
            have Hl8:=lhd hl8
            have Hf8:=lhd (Hf7.out.trans hf8)
            clear hl8 hf8 hP8 hk8 hpp g1 hgl7 Hl7 Hf7
            obtain ⟨own8,ho8⟩:∃o,recol own3 w7.heap.size w8.heap.size 1=o:=⟨_,rfl⟩
            rw [ho8] at Hl8 Hf8
            have g3:w8.cell? ⟨gl,3,none⟩=some (.int .i64 mv):=(Hl8.out.blk.cell 3).trans rfl
            have f3:=Hl8.out.blk.frozen 3
            have hgl8:=Hl8.out.blk.lt
            go_wp2_with fail
            obtain ⟨hl9,hf9⟩:=Hl8.out.setMv (wrap64 (mv+1))
            have Hl9:=lhd hl9
            have Hf9:=lhd (Hf8.out.trans hf9)
            clear hl9 hf9 g3 f3 hgl8 Hl8 Hf8 ho8
            generalize w8.setCell ⟨gl,3,none⟩ (.int .i64 (wrap64 (mv+1)))=w9 at Hl9 Hf9⊢
            have hout:=Out_any2 (rm:Int) (ra:Int) w9 (by omega)
            rw [outI_nat] at hout
            have hor:outR rm ra≤200:=by unfold outR;split <;> omega
            obtain ⟨orr,hore⟩:∃x,outR rm ra=x:=⟨_,rfl⟩
            rw [hore] at hout hor
            have hin:=In_any2 (orr:Int) (t:Int) w9 (by omega)
            rw [inI_nat] at hin
            have hnx2:=Hnx.out
            rw [hore] at hnx2
            have hrmge:decide ((rm:Int)≥0)=true:=by simp
            have Hnx2:=lhd hnx2
            obtain ⟨irr,hire⟩:∃x,inR orr t=x:=⟨_,rfl⟩
            rw [hire] at hin Hnx2
            clear hnx2 hore hire
            go_wp2_with fail
            refine hout.mono ?_
            rintro e wA ⟨rfl,rfl⟩
            go_wp2_with fail
            refine hin.mono ?_
            rintro e wB ⟨rfl,rfl⟩
            clear hout hin
            go_wp2_with fail
            go_roundw
            case rel=>
             have hll:LiveM w9 B own8 gl gk gp rate (wrap64 (mv+1)) (N+1) (N+1) (insN (delN (lastL S R) (ro R j)) (tgt S R j) (prevL S j)) T pr':=by rw [HL.out,Hae.out,Hte.out,Hdd.out];exact Hl9.out
             have hst:=reo_step Hinv.out hj hll (by rw [Hae.out,Hte.out];exact Hpp.out) Hf9.out
             have hm2:=(reo_move Hinv.out.near hj).2.1
             exact ⟨j,own8,wrap64 (mv+1),_,pr',by omega,rfl,by rw [hm2,Hte.out],by rw [Hnx2.out,Hae.out,Hte.out],hst⟩
            case measure=>simp [intOf];have:=Hjj.out;omega
end Go.Proofs.YtipaccakmndkgaaGreatDoor
