/- The walks of perm's each with the closure of RowMove. Conditions: at most 2^20 pairs. Plain laws for an edit: the start behind a delete and behind a change (plain Lean). No conditions. The walks of perm.each by the closures of RowOut and PosOut. Conditions: as in EdPermC. -/
import Derived.Test.YtipaccakmndkgaaGreatDoorPfe35
import Derived.Test.YtipaccakmndkgaaGreatDoorPfe36
namespace Go.Proofs.YtipaccakmndkgaaGreatDoor
open Go.RowKit
set_option linter.unusedVariables false
set_option linter.unusedSimpArgs false
set_option maxRecDepth 100000 in
set_option maxHeartbeats 1000000 in
theorem RowMoveC_any (B gl n c gx0 gx1 z0 z1 k:Nat) (C:List (Nat×Nat)) (w:World) (h:w.ownsRow B 159 2 (.slice (some ⟨gl,0,none⟩) n c) n (pairsL C)) (hk:k < C.length) (hx0:Bk w gx0 3 #[.int .i64 (z0:Int)]) (hx1:Bk w gx1 3 #[.int .i64 (z1:Int)]) (hC:rowK C k≤1000000000000):
 Calls Tryz.prog 204 #[.pointer (some ⟨gl,k*2,none⟩),.pointer (some ⟨gx0,0,none⟩),.pointer (some ⟨gx1,0,none⟩)] w fun e w'=>e=.returned (.tuple #[])∧w'.ownsRow B 159 2 (.slice (some ⟨gl,0,none⟩) n c) n (pairsL (C.set k (mvR z0 z1 (rowK C k),posK C k)))∧Keep (fun b=>b=gl) w w':=by
 obtain ⟨p0,p1⟩:=pairsL_get C k hk
 have hn:C.length=n:=by have h1:=h.1;rw [pairsL_len] at h1;omega
 have d0:=(World.ownsRow.cellAt h (k*2) (by omega)).trans p0
 have x0:w.cell? ⟨gx0,0,none⟩=some (.int .i64 (z0:Int)):=(hx0.cell 0).trans rfl
 have x1:w.cell? ⟨gx1,0,none⟩=some (.int .i64 (z1:Int)):=(hx1.cell 0).trans rfl
 obtain ⟨cur,hcur⟩:=own_bk h
 have fr:=hcur.frozen (k*2)
 have hgl:=hcur.lt
 have hgx0:=hx0.lt
 have hgx1:=hx1.lt
 have n0:gx0≠gl:=Bk.ne hx0 hcur (by decide)
 have n1:gx1≠gl:=Bk.ne hx1 hcur (by decide)
 have hself:=pair_self C k hk
 have hset:=fun v=>pairsL_set0 C k v hk
 obtain ⟨r,hr⟩:∃r,rowK C k=r:=⟨_,rfl⟩
 rw [hr] at d0 hself hC
 rw [hr]
 have H:=Lib.hid h
 have Hself:=Lib.hid hself
 have Hset:=Lib.hid hset
 have hst:∀v:Nat,(w.setCell ⟨gl,k*2,none⟩ (.int .i64 (v:Int))).ownsRow B 159 2 (.slice (some ⟨gl,0,none⟩) n c) n (pairsL (C.set k (v,posK C k))):=fun v=>by
  have:=(World.ownsRow.stored H.out (k*2) (.int .i64 (v:Int))).1
  rwa [Hset.out] at this
 have hst2:∀u v:Nat,((w.setCell ⟨gl,k*2,none⟩ (.int .i64 (u:Int))).setCell ⟨gl,k*2,none⟩ (.int .i64 (v:Int))).ownsRow B 159 2 (.slice (some ⟨gl,0,none⟩) n c) n (pairsL (C.set k (v,posK C k))):=fun u v=>by
  have h1:=(World.ownsRow.stored (World.ownsRow.stored H.out (k*2) (.int .i64 (u:Int))).1 (k*2) (.int .i64 (v:Int))).1
  rw [List.set_set,Hset.out] at h1
  exact h1
 have hkk:∀v:Value,Keep (fun b=>b=gl) w (w.setCell ⟨gl,k*2,none⟩ v):=fun v=>Keep.setCell (F:=fun b=>b=gl) (Keep.refl _ _) (p:=⟨gl,k*2,none⟩) (.inl rfl) _
 have Hst:=Lib.hid hst
 have Hst2:=Lib.hid hst2
 have Hkk:=Lib.hid hkk
 clear h hk hx0 hx1 p0 p1 hcur hself hset hn hr hst hst2 hkk
 have hgoal:∀v:Nat,mvR z0 z1 r=v→C.set k (mvR z0 z1 r,posK C k)=C.set k (v,posK C k):=fun v e=>by rw [e]
 by_cases c0:r=z0
 · subst c0
   have e9:mvR r z1 r=z1:=by unfold mvR;rw [if_pos rfl]
   rw [e9]
   clear hgoal
   go_enter Tryz.func204,Tryz.ntmps204
   go_wp2_with fail
   go_quiet (fail)
   go_wp2_with fail
   refine bodyPost_ret (results_none rfl _ _ _) rfl ?_
   exact ⟨rfl,own_heap (Hst.out z1) rfl,(Keep.setCell (F:=fun b=>b=gl) ((Keep.refl _ _).drewN _) (p:=⟨gl,k*2,none⟩) (.inl rfl) _)⟩
 · have b0:((r:Int)==(z0:Int))=false:=by rw [beq_eq_false_iff_ne];omega
   have m0:mvR z0 z1 r=inR (outR r z0) z1:=by unfold mvR;rw [if_neg c0]
   by_cases c1:z0 < r
   · obtain ⟨q,hq⟩:∃q,r=q+1:=⟨r - 1,by omega⟩
     have b1:decide ((r:Int) > (z0:Int))=true:=decide_eq_true (by omega)
     have e1:IntKind.i64.wrap ((r:Int) - 1)=(q:Int):=by rw [IntKind.wrap_i64];omega
     have m1:outR r z0=q:=by unfold outR;rw [if_pos c1];omega
     rw [m1] at m0
     by_cases c2:z1≤q
     · have b2:decide ((q:Int)≥(z1:Int))=true:=decide_eq_true (by omega)
       have e2:wrap64 ((q:Int)+1)=(r:Int):=by rw [wrap64_id (by omega) (by omega)];omega
       have e9:mvR z0 z1 r=r:=by rw [m0];unfold inR;rw [if_pos c2];exact hq.symm
       rw [e9]
       clear hgoal m0 m1 hC hq
       go_enter Tryz.func204,Tryz.ntmps204
       go_wp2_with fail
       go_quiet (fail)
       go_wp2_with fail
       go_quiet (fail)
       go_wp2_with fail
       go_quiet (fail)
       go_wp2_with fail
       go_end0
       exact ⟨rfl,own_heap (Hst2.out q r) rfl,(Keep.setCell (F:=fun b=>b=gl) (Keep.drewN (Keep.setCell (F:=fun b=>b=gl) ((Keep.refl _ _).drewN _) (p:=⟨gl,k*2,none⟩) (.inl rfl) _) _) (p:=⟨gl,k*2,none⟩) (.inl rfl) _)⟩
     · have b2:decide ((q:Int)≥(z1:Int))=false:=decide_eq_false (by omega)
       have e9:mvR z0 z1 r=q:=by rw [m0];unfold inR;rw [if_neg c2]
       rw [e9]
       clear hgoal m0 m1 hC hq
       go_enter Tryz.func204,Tryz.ntmps204
       go_wp2_with fail
       go_quiet (fail)
       go_wp2_with fail
       go_quiet (fail)
       go_wp2_with fail
       go_quiet (fail)
       go_wp2_with fail
       go_end0
       exact ⟨rfl,own_heap (Hst.out q) rfl,Keep.drewN (Keep.setCell (F:=fun b=>b=gl) ((Keep.refl _ _).drewN _) (p:=⟨gl,k*2,none⟩) (.inl rfl) _) _⟩
   · have b1:decide ((r:Int) > (z0:Int))=false:=decide_eq_false (by omega)
     by_cases c2:z1≤r
     · have b2:decide ((r:Int)≥(z1:Int))=true:=decide_eq_true (by omega)
       have e2:wrap64 ((r:Int)+1)=((r+1:Nat):Int):=by rw [wrap64_id (by omega) (by omega)];omega
       have e9:mvR z0 z1 r=r+1:=by rw [m0];unfold outR;rw [if_neg c1];unfold inR;rw [if_pos c2]
       rw [e9]
       clear hgoal m0
       go_enter Tryz.func204,Tryz.ntmps204
       go_wp2_with fail
       go_quiet (fail)
       go_wp2_with fail
       go_quiet (fail)
       go_wp2_with fail
       go_quiet (fail)
       go_wp2_with fail
       go_end0
       exact ⟨rfl,own_heap (Hst.out (r+1)) rfl,(Keep.setCell (F:=fun b=>b=gl) ((Keep.refl _ _).drewN _) (p:=⟨gl,k*2,none⟩) (.inl rfl) _)⟩
     · have b2:decide ((r:Int)≥(z1:Int))=false:=decide_eq_false (by omega)
       have e9:mvR z0 z1 r=r:=by rw [m0];unfold outR;rw [if_neg c1];unfold inR;rw [if_neg c2]
       rw [e9,Hself.out]
       clear hgoal m0
       go_enter Tryz.func204,Tryz.ntmps204
       go_wp2_with fail
       go_quiet (fail)
       go_wp2_with fail
       go_quiet (fail)
       go_wp2_with fail
       go_quiet (fail)
       go_wp2_with fail
       go_end0
       exact ⟨rfl,H.out,(((Keep.refl _ _).drewN _).drewN _).drewN _⟩
set_option maxRecDepth 100000 in
set_option maxHeartbeats 1000000 in
theorem EachRowMove_any (B gp ga gx0 gx1 z0 z1:Nat) (vl vo vt vf:Value) (R P:Nat) (ks:List Nat) (C:List (Nat×Nat)) (tk:List Bool) (fr:List Nat) (w:World) (h:PermAt w B gp ga vl vo vt vf R P ks C tk fr) (hnd:ks.Nodup) (hl:ks.length≤1000000) (hx0:Bk w gx0 3 #[.int .i64 (z0:Int)]) (hgx0:∀b,vl.ownBlock=some b→b≠gx0) (hx1:Bk w gx1 3 #[.int .i64 (z1:Int)]) (hgx1:∀b,vl.ownBlock=some b→b≠gx1) (hC:∀k,k∈ks→rowK C k≤1000000000000∧posK C k≤1000000000000):
 Calls Tryz.prog 137 #[.pointer (some ⟨gp,0,none⟩),.func (.func 204) #[] #[.pointer (some ⟨gx0,0,none⟩),.pointer (some ⟨gx1,0,none⟩)]] w fun e w'=>e=.returned (.tuple #[])∧Keep (fun b=>vl.ownBlock=some b) w w'∧∃C',C'.length=C.length∧(∀k,k∈ks→(rowK C' k,posK C' k)=(mvR z0 z1 (rowK C k),posK C k))∧PermAt w' B gp ga vl vo vt vf R P ks C' tk fr:=by
 obtain ⟨A2,c2,hvo,_,_⟩:=own_shape h.orow
 have c2':w.cell? ⟨gp,2,none⟩=some (.slice A2 ks.length c2):=(h.blk.cell 2).trans (by rw [hvo];rfl)
 have hgp:=h.blk.lt
 obtain ⟨n,hn⟩:∃n,ks.length=n:=⟨_,rfl⟩
 rw [hn] at c2' hl
 have H:=Lib.hid h
 have Hn:=Lib.hid hn
 have Hvo:=Lib.hid hvo
 have Hnd:=Lib.hid hnd
 have HC:=Lib.hid hC
 clear h hn hvo hnd hC
 go_enter Tryz.func137,Tryz.ntmps137
 go_wp2_with fail
 go_loopw [11] (fun i wr=>∃(j:Nat) (Cj:List (Nat×Nat)),j≤n∧i=.int .i64 (j:Int)∧Cj.length=C.length∧(∀k,k∈ks.take j→(rowK Cj k,posK Cj k)=(mvR z0 z1 (rowK C k),posK C k))∧(∀k,k∈ks.drop j→(rowK Cj k,posK Cj k)=(rowK C k,posK C k))∧PermAt wr B gp ga vl vo vt vf R P ks Cj tk fr∧Keep (fun b=>vl.ownBlock=some b) w wr) (fun i _=>n -(intOf i).toNat)
 case atStart=>exact ⟨0,C,Nat.zero_le _,rfl,rfl,fun k hk=>by simp at hk,fun k _=>rfl,H.out,Keep.refl _ _⟩
 case round=>
  obtain ⟨j,Cj,hj,rfl,hlen,hd1,hd2,hp,hk⟩:=hrel
  by_cases hlt:j < n
  · have hjl:j < ks.length:=by rw [Hn.out];exact hlt
    obtain ⟨k,hkj⟩:∃k,ks[j]?=some k:=⟨_,List.getElem?_eq_getElem hjl⟩
    have hkm:=List.mem_of_getElem? hkj
    have hkC:k < Cj.length:=hp.lt k hkm
    have ho2:=hp.orow
    rw [Hvo.out] at ho2
    obtain ⟨g2,k2,e2,_,hg2⟩:=World.ownsRow.form ho2 (by omega)
    injection e2 with e2a _ e2c
    subst e2a e2c
    have hlr:=hp.lrow
    obtain ⟨g1,k1,e1,_,hg1⟩:=World.ownsRow.form hlr (by omega)
    rw [e1] at hlr
    have d2:wr.cell? ⟨g2,j,none⟩=some (.int .i64 (k:Int)):=(World.ownsRow.cellAt ho2 j (by omega)).trans (by rw [List.getElem?_map,hkj];rfl)
    have d1:wr.cell? ⟨gp,1,none⟩=some (.slice (some ⟨g1,0,none⟩) Cj.length k1):=(hp.blk.cell 1).trans (by rw [e1];rfl)
    have hgpr:=hp.blk.lt
    have hsz:=hk.size
    have hkd:k∈ks.drop j:=by
        rw [List.drop_eq_getElem_cons hjl,List.getElem_eq_getElem?_get]
        simp [hkj]
    have hCk:(rowK Cj k,posK Cj k)=(rowK C k,posK C k):=hd2 k hkd
    injection hCk with hCr hCp
    have hxr:=fun (b:Nat) (e:Value.ownBlock vl=some b)=>(World.ownsRow.lt hp.lrow b e).2
    obtain ⟨N,hN⟩:∃N,Cj.length=N:=⟨_,rfl⟩
    rw [hN] at hlr d1 hkC
    have hxr0:=hk.bk hx0 (fun e=>hgx0 _ e rfl)
    have hxr1:=hk.bk hx1 (fun e=>hgx1 _ e rfl)
    have hkI:(k:Int) < (N:Int):=by omega
    have Hp:=Lib.hid hp
    have Hk:=Lib.hid hk
    have Hlr:=Lib.hid hlr
    have Hkj:=Lib.hid hkj
    have Hd1:=Lib.hid hd1
    have Hd2:=Lib.hid hd2
    have HN:=Lib.hid hN
    have Hlen:=Lib.hid hlen
    have He1:=Lib.hid e1
    have HCr:=Lib.hid hCr
    have HCp:=Lib.hid hCp
    have Hkm:=Lib.hid hkm
    clear hp hk hlr hkj hd1 hd2 hN hlen e1 hCr hCp hkm hkd ho2 hxr
    go_wp2_with fail
    refine (RowMoveC_any B g1 N k1 gx0 gx1 z0 z1 k Cj wr Hlr.out (by rw [HN.out];exact hkC) hxr0 hxr1 (by rw [HCr.out];exact (HC.out k Hkm.out).1)).mono ?_
    rintro e w1 ⟨rfl,hl1,hk1⟩
    have hC':PermAt w1 B gp ga vl vo vt vf R P ks (Cj.set k (mvR z0 z1 (rowK Cj k),posK Cj k)) tk fr:=by
        have hp:=Hp.out
        have hne:∀b t cs,t≠159→Bk wr b t cs→b≠g1:=fun b t cs ht hb e=>by
         subst e
         obtain ⟨cu,hcu⟩:=own_bk Hlr.out
         exact ht (bk_inj hb hcu).1
        refine ⟨hk1.bk hp.blk (hne _ _ _ (by decide) hp.blk),?_,own_same hp.orow fun b cs _ hb=>hk1.bk hb (hne _ _ _ (by decide) hb),hk1.bk hp.ar (hne _ _ _ (by decide) hp.ar),own_same hp.trow fun b cs _ hb=>hk1.bk hb (hne _ _ _ (by decide) hb),own_same hp.frow fun b cs _ hb=>hk1.bk hb (hne _ _ _ (by decide) hb),hp.apart,fun x hx=>by rw [List.length_set];exact hp.lt x hx,hp.lo⟩
        rw [List.length_set,HN.out,He1.out,HN.out]
        exact hl1
    have hk':Keep (fun b=>vl.ownBlock=some b) w w1:=Hk.out.trans (hk1.mono fun b _ e=>by rw [He1.out,show b=g1 from e];rfl)
    have hget:∀x,(rowK (Cj.set k (mvR z0 z1 (rowK Cj k),posK Cj k)) x,posK (Cj.set k (mvR z0 z1 (rowK Cj k),posK Cj k)) x)=if x=k then (mvR z0 z1 (rowK Cj k),posK Cj k) else (rowK Cj x,posK Cj x):=fun x=>by
        unfold rowK posK
        rw [List.getD_eq_getElem?_getD,List.getElem?_set]
        by_cases cx:k=x
        · subst cx
          rw [if_pos rfl,if_pos rfl,if_pos (by rw [HN.out];exact hkC)]
          rfl
        · rw [if_neg cx,if_neg (fun e=>cx e.symm),List.getD_eq_getElem?_getD]
    have hrel:∃(j':Nat) (Cj':List (Nat×Nat)),j'≤n∧Value.int .i64 ((j+1:Nat):Int)=.int .i64 (j':Int)∧Cj'.length=C.length∧(∀k,k∈ks.take j'→(rowK Cj' k,posK Cj' k)=(mvR z0 z1 (rowK C k),posK C k))∧(∀k,k∈ks.drop j'→(rowK Cj' k,posK Cj' k)=(rowK C k,posK C k))∧PermAt w1 B gp ga vl vo vt vf R P ks Cj' tk fr∧Keep (fun b=>vl.ownBlock=some b) w w1:=by
        refine ⟨j+1,_,by omega,rfl,by rw [List.length_set];exact Hlen.out,fun x hx=>?_,fun x hx=>?_,hC',hk'⟩
        · rw [hget]
          by_cases cx:x=k
          · subst cx
            rw [if_pos rfl,HCr.out,HCp.out]
          · rw [if_neg cx]
            refine Hd1.out x ?_
            rw [List.take_add_one,Hkj.out] at hx
            simp at hx
            rcases hx with hx | hx
            · exact hx
            · exact absurd hx cx
        · rw [hget]
          have hxk:x≠k:=fun e=>by
           subst e
           have hd:ks.drop j=x::ks.drop (j+1):=by
              have hjl:j < ks.length:=by rw [Hn.out];exact hlt
              rw [List.drop_eq_getElem_cons hjl]
              have h9:=Hkj.out
              rw [List.getElem?_eq_getElem hjl] at h9
              injection h9 with h9
              rw [h9]
           have hnd:=(List.drop_sublist j ks).nodup Hnd.out
           rw [hd,List.nodup_cons] at hnd
           exact hnd.1 hx
          rw [if_neg hxk]
          exact Hd2.out x (List.mem_of_mem_drop (by rw [←List.drop_drop] at hx;exact hx:x∈(ks.drop j).drop 1))
    have Hrel:=Lib.hid hrel
    clear hC' hk' hget hrel hk1 hl1 d1 d2
    go_wp2_with fail
    go_roundw
    case rel=>exact Hrel.out
    case measure=>simp [intOf];omega
  · obtain rfl:j=n:=by omega
    have Hp:=Lib.hid hp
    have Hk:=Lib.hid hk
    have Hd1:=Lib.hid hd1
    clear hp hk hd1 hd2
    go_wp2_with fail
    go_end0
    refine ⟨rfl,Hk.out,Cj,hlen,fun k hk=>Hd1.out k ?_,Hp.out⟩
    rw [List.take_of_length_le (by rw [Hn.out];exact Nat.le_refl _)]
    exact hk
end Go.Proofs.YtipaccakmndkgaaGreatDoor
namespace Go.Proofs.YtipaccakmndkgaaGreatDoor
set_option linter.unusedVariables false
set_option linter.unusedSimpArgs false
section
variable {S R : List Nat} {N : Nat}
def ush (k p:Nat):Nat:=if p < k then p else p - 1
theorem ush_sh (k p:Nat):ush k (sh k p)=p:=by
 unfold ush sh
 (repeat' split)<;> omega
theorem sh_ush {k p:Nat} (h:p≠k):sh k (ush k p)=p:=by
 unfold ush sh
 (repeat' split)<;> omega
theorem del_sh (l:List Nat) {k:Nat} (p:Nat) (h:k < l.length):(delN l k).getD p 0=l.getD (sh k p) 0:=by
 rw [delN_gD l h]
 unfold sh
 split <;> rfl
theorem del_end (h:EndOk S (N+1)) {at_:Nat} (ha:at_≤N):EndOk (delN S at_) N:=by
 obtain ⟨e1,e2,e3⟩:=h
 have hl:=delN_len S (k:=at_) (by omega)
 refine ⟨by omega,?_,fun p hp=>?_⟩
 · rw [del_sh _ _ (by omega)]
   unfold sh
   rw [if_neg (by omega)]
   exact e2
 · rw [del_sh _ _ (by omega)]
   refine e3 _ ?_
   unfold sh
   split <;> omega
theorem del_row (hp:R.Perm (List.range (N+1+1))) {at_:Nat} (ha:at_≤N):(at_::delN R (ro R at_)).Perm R∧(delN R (ro R at_)).Nodup∧(∀q∈R,q≠at_→(delN R (ro R at_))[outR (ro R q) (ro R at_)]?=some q)∧∀q,q∈delN R (ro R at_)↔q∈R∧q≠at_:=by
 have hn:R.Nodup:=hp.nodup_iff.2 List.nodup_range
 have hm:at_∈R:=hp.mem_iff.2 (List.mem_range.2 (by omega))
 have hg:=ro_get hm
 have hlt:=(List.getElem?_eq_some_iff.1 hg).1
 have hperm:=delN_perm hg
 have hnd:=hperm.nodup_iff.2 hn
 rw [List.nodup_cons] at hnd
 refine ⟨hperm,hnd.2,fun q hq hqa=>?_,fun q=>?_⟩
 · have hgq:=ro_get hq
   have hne:ro R q≠ro R at_:=fun e=>hqa (ro_inj hq hm e)
   rw [delN_get _ hlt]
   unfold outR
   by_cases c:ro R at_ < ro R q
   · rw [if_pos c,if_neg (by omega),show ro R q - 1+1=ro R q by omega]
     exact hgq
   · rw [if_neg c,if_pos (by omega)]
     exact hgq
 · constructor
   · intro h
     exact ⟨hperm.mem_iff.1 (List.mem_cons_of_mem _ h),fun e=>hnd.1 (e ▸ h)⟩
   · rintro ⟨h1,h2⟩
     rcases List.mem_cons.1 (hperm.mem_iff.2 h1) with h | h
     · exact absurd h h2
     · exact h
theorem ro_del (hp:R.Perm (List.range (N+1+1))) {at_:Nat} (ha:at_≤N):((delN R (ro R at_)).map (ush at_)).Perm (List.range (N+1))∧∀p,p≤N→ro ((delN R (ro R at_)).map (ush at_)) p=outR (ro R (sh at_ p)) (ro R at_):=by
 obtain ⟨h1,h2,h3,h4⟩:=del_row hp ha
 have hnd:((delN R (ro R at_)).map (ush at_)).Nodup:=by
  refine List.pairwise_map.2 (h2.imp_of_mem fun {a b} ha' hb' hab e=>hab ?_)
  have e1:=sh_ush (k:=at_) ((h4 a).1 ha').2
  have e2:=sh_ush (k:=at_) ((h4 b).1 hb').2
  rw [←e1,←e2,e]
 have hmr:∀p,p≤N→sh at_ p∈R:=fun p hp'=>hp.mem_iff.2 (List.mem_range.2 (by unfold sh;split <;> omega))
 refine ⟨(List.perm_ext_iff_of_nodup hnd List.nodup_range).2 fun q=>?_,fun p hpN=>?_⟩
 · rw [List.mem_map,List.mem_range]
   constructor
   · rintro ⟨a,ha',rfl⟩
     have:=List.mem_range.1 (hp.mem_iff.1 ((h4 a).1 ha').1)
     have:=((h4 a).1 ha').2
     unfold ush
     split <;> omega
   · intro hq
     exact ⟨sh at_ q,(h4 _).2 ⟨hmr q (by omega),sh_ne _ _⟩,ush_sh _ _⟩
 · refine ro_of hnd ?_
   rw [List.getElem?_map,h3 _ (hmr p hpN) (sh_ne _ _)]
   show some (ush at_ (sh at_ p))=some p
   rw [ush_sh]
theorem near_del (h0:IsSuf S R) (he:EndOk S (N+1)) {at_:Nat} (ha:at_≤N):Near (delN S at_) ((delN R (ro R at_)).map (ush at_)) N at_:=by
 have h:=h0.near he
 have hS:=he.len
 obtain ⟨g1,g2⟩:=ro_del h.perm ha
 have hm:∀p,p≤N+1→p∈R:=fun p hp=>h.mem.2 hp
 have hsh:∀p,p≤N→sh at_ p≤N+1:=fun p hp=>by unfold sh;split <;> omega
 have hord:∀p q,p≤N→q≤N→(ro ((delN R (ro R at_)).map (ush at_)) p < ro ((delN R (ro R at_)).map (ush at_)) q↔ro R (sh at_ p) < ro R (sh at_ q)):=fun p q hp hq=>by
  rw [g2 p hp,g2 q hq]
  have n1:ro R (sh at_ p)≠ro R at_:=fun e=>sh_ne _ _ (ro_inj (hm _ (hsh p hp)) (hm at_ (by omega)) e)
  have n2:ro R (sh at_ q)≠ro R at_:=fun e=>sh_ne _ _ (ro_inj (hm _ (hsh q hq)) (hm at_ (by omega)) e)
  unfold outR
  split <;> split <;> omega
 refine ⟨del_end he ha,g1,fun p q hp hq hlt=>?_,fun p q hp hq hpq hpi hqi=>?_⟩
 · rw [del_sh _ _ (by omega),del_sh _ _ (by omega)]
   exact h.first _ _ (hsh p hp) (hsh q hq) ((hord p q hp hq).1 hlt)
 · have hne:sh at_ p≠sh at_ q:=fun e=>hpq (sh_inj e)
   rw [hord p q hp hq,h.cons _ _ (hsh p hp) (hsh q hq) hne (by omega) (by omega)]
   unfold keyR
   rw [del_sh _ _ (by omega),del_sh _ _ (by omega)]
   by_cases ce:S.getD (sh at_ p) 0=S.getD (sh at_ q) 0
   · by_cases cz:S.getD (sh at_ p) 0=0
     · have hz:∀x,x≤N+1→S.getD x 0=0→x=N+1:=fun x hx hx0=>Nat.le_antisymm hx (Nat.not_lt.1 fun hl=>by have:=he.pos x hl;omega)
       have x1:=hz _ (hsh p hp) cz
       have x2:=hz _ (hsh q hq) (by omega)
       omega
     · have hs:∀x,x≤N→x+1≠at_→S.getD (sh at_ x) 0≠0→x < N∧sh at_ x+1=sh at_ (x+1):=fun x hx hxa hx0=>by
        have h1:sh at_ x≠N+1:=fun e=>hx0 (by rw [e];exact he.last)
        have h2:x < N:=by
         rcases Nat.lt_or_ge x N with h3 | h3
         · exact h3
         · exfalso
           apply h1
           unfold sh
           rw [if_neg (by omega)]
           omega
        refine ⟨h2,?_⟩
        unfold sh
        split <;> split <;> omega
       obtain ⟨a1,a2⟩:=hs p hp hpi cz
       obtain ⟨b1,b2⟩:=hs q hq hqi (by omega)
       rw [a2,b2,hord (p+1) (q+1) (by omega) (by omega)]
   · omega
theorem lastL_del (hp:R.Perm (List.range (N+1+1))) (he:EndOk S (N+1)) {at_:Nat} (ha:at_≤N):lastL (delN S at_) ((delN R (ro R at_)).map (ush at_))=delN ((lastL S R).set (ro R (at_+1)) (prevL S at_)) (ro R at_):=by
 have hn:R.Nodup:=hp.nodup_iff.2 List.nodup_range
 have hS:=he.len
 have hl:=delN_len S (k:=at_) (by omega)
 have hmem:∀p,p∈R→p≤N+1:=fun p hpm=>by have:=List.mem_range.1 (hp.mem_iff.1 hpm);omega
 have hat:at_∈R:=hp.mem_iff.2 (List.mem_range.2 (by omega))
 have hat1:at_+1∈R:=hp.mem_iff.2 (List.mem_range.2 (by omega))
 have hlt:=(List.getElem?_eq_some_iff.1 (ro_get hat)).1
 have hpv:∀p,p≤N+1→p≠at_→prevL (delN S at_) (ush at_ p)=if p=at_+1 then prevL S at_ else prevL S p:=fun p hp' hpa=>by
  by_cases c:p=at_+1
  · subst c
    rw [if_pos rfl,show ush at_ (at_+1)=at_ by unfold ush;rw [if_neg (by omega)];omega]
    rcases at_ with _ | a
    · rw [prevL_zero (by omega),prevL_zero (by omega),del_sh _ _ (by omega)]
      unfold sh
      rw [if_neg (by omega)]
      congr 1
      omega
    · rw [prevL_succ (by omega),prevL_succ (by omega),del_sh _ _ (by omega)]
      unfold sh
      rw [if_pos (by omega)]
  · rw [if_neg c]
    rcases p with _ | p
    · rw [show ush at_ 0=0 by unfold ush;split <;> omega,prevL_zero (by omega),prevL_zero (by omega),del_sh _ _ (by omega)]
      unfold sh
      rw [if_neg (by omega)]
      congr 1
      omega
    · by_cases c2:p+1 < at_
      · rw [show ush at_ (p+1)=p+1 by unfold ush;rw [if_pos c2],prevL_succ (by omega),prevL_succ (by omega),del_sh _ _ (by omega)]
        unfold sh
        rw [if_pos (by omega)]
      · obtain ⟨x,rfl⟩:∃x,p=x+1:=⟨p - 1,by omega⟩
        rw [show ush at_ (x+1+1)=x+1 by unfold ush;rw [if_neg c2];omega,prevL_succ (by omega),prevL_succ (by omega),del_sh _ _ (by omega)]
        unfold sh
        rw [if_neg (by omega)]
 unfold lastL
 rw [List.map_map]
 apply List.ext_getElem?
 intro j
 have hlt2:ro R at_ < ((R.map (prevL S)).set (ro R (at_+1)) (prevL S at_)).length:=by simpa using hlt
 rw [List.getElem?_map,delN_get _ hlt,delN_get _ hlt2]
 have key:∀i,i≠ro R at_→Option.map (prevL (delN S at_)∘ ush at_) R[i]?=((R.map (prevL S)).set (ro R (at_+1)) (prevL S at_))[i]?:=fun i hi=>by
  rw [List.getElem?_set,List.getElem?_map]
  cases hg:R[i]? with
  | none=>
    have:¬ro R (at_+1)=i:=fun e=>by
        rw [←e,ro_get hat1] at hg
        cases hg
    rw [if_neg this]
    rfl
  | some p=>
    have hpm:=List.mem_of_getElem? hg
    have hri:=ro_of hn hg
    have hpa:p≠at_:=fun e=>hi (by rw [←hri,e])
    show some (prevL (delN S at_) (ush at_ p))=_
    rw [hpv p (hmem p hpm) hpa]
    by_cases c:p=at_+1
    · subst c
      rw [if_pos rfl,if_pos hri,if_pos (by rw [hri];simpa using (List.getElem?_eq_some_iff.1 hg).1)]
    · rw [if_neg c,if_neg (fun e=>c ?_)]
      · rfl
      · rw [←e,ro_get hat1] at hg
        injection hg with hg
        exact hg.symm
 by_cases c:j < ro R at_
 · rw [if_pos c,if_pos c]
   exact key j (by omega)
 · rw [if_neg c,if_neg c]
   exact key (j+1) (by omega)
end
end Go.Proofs.YtipaccakmndkgaaGreatDoor
namespace Go.Proofs.YtipaccakmndkgaaGreatDoor
open Go.RowKit
set_option linter.unusedVariables false
set_option linter.unusedSimpArgs false
set_option maxRecDepth 100000 in
theorem RowOutC_any (B gl n c gx z k:Nat) (C:List (Nat×Nat)) (w:World) (h:w.ownsRow B 159 2 (.slice (some ⟨gl,0,none⟩) n c) n (pairsL C)) (hk:k < C.length) (hx:Bk w gx 3 #[.int .i64 (z:Int)]) (hC:rowK C k≤1000000000000):
 Calls Tryz.prog 148 #[.pointer (some ⟨gl,k*2,none⟩),.pointer (some ⟨gx,0,none⟩)] w fun e w'=>e=.returned (.tuple #[])∧w'.ownsRow B 159 2 (.slice (some ⟨gl,0,none⟩) n c) n (pairsL (C.set k (outR (rowK C k) z,posK C k)))∧Keep (fun b=>b=gl) w w':=by
 obtain ⟨p0,p1⟩:=pairsL_get C k hk
 have hn:C.length=n:=by have h1:=h.1;rw [pairsL_len] at h1;omega
 have d0:=(World.ownsRow.cellAt h (k*2) (by omega)).trans p0
 have d1:=(World.ownsRow.cellAt h (k*2+1) (by omega)).trans p1
 have x0:w.cell? ⟨gx,0,none⟩=some (.int .i64 (z:Int)):=(hx.cell 0).trans rfl
 obtain ⟨cur,hcur⟩:=own_bk h
 have fr:=hcur.frozen (k*2)
 have hgl:=hcur.lt
 have hgx:=hx.lt
 have hself:=pair_self C k hk
 have hset:=fun v=>pairsL_set0 C k v hk
 obtain ⟨r,hr⟩:∃r,rowK C k=r:=⟨_,rfl⟩
 obtain ⟨p,hp⟩:∃p,posK C k=p:=⟨_,rfl⟩
 rw [hr] at d0 hself hC
 rw [hp] at d1 hself hset
 rw [hr,hp]
 have H:=Lib.hid h
 have Hself:=Lib.hid hself
 have Hset:=Lib.hid hset
 clear h hk hx p0 p1 hcur hself hset hn hr hp
 by_cases hz:z < r
 · have z1:decide ((r:Int) > (z:Int))=true:=decide_eq_true (by omega)
   have e1:IntKind.i64.wrap ((r:Int) - 1)=((r - 1:Nat):Int):=by rw [IntKind.wrap_i64];omega
   have ho:=(World.ownsRow.stored H.out (k*2) (.int .i64 ((r - 1:Nat):Int))).1
   rw [Hset.out] at ho
   have Ho:=Lib.hid ho
   clear ho
   go_enter Tryz.func148,Tryz.ntmps148
   go_wp2_with fail
   go_quiet (fail)
   go_wp2_with fail
   go_end0
   refine ⟨rfl,?_,Keep.setCell (F:=fun b=>b=gl) ((Keep.refl _ _).drewN _) (p:=⟨gl,k*2,none⟩) (.inl rfl) _⟩
   have e2:outR (r) z=r - 1:=by unfold outR;rw [if_pos (by omega)]
   rw [e2]
   exact Ho.out
 · have z1:decide ((r:Int) > (z:Int))=false:=decide_eq_false (by omega)
   go_enter Tryz.func148,Tryz.ntmps148
   go_wp2_with fail
   go_quiet (fail)
   go_wp2_with fail
   go_end0
   refine ⟨rfl,?_,(Keep.refl _ _).drewN _⟩
   have e2:outR (r) z=r:=by unfold outR;rw [if_neg (by omega)]
   rw [e2,Hself.out]
   exact H.out
set_option maxRecDepth 100000 in
theorem PosOutC_any (B gl n c gx z k:Nat) (C:List (Nat×Nat)) (w:World) (h:w.ownsRow B 159 2 (.slice (some ⟨gl,0,none⟩) n c) n (pairsL C)) (hk:k < C.length) (hx:Bk w gx 3 #[.int .i64 (z:Int)]) (hC:posK C k≤1000000000000):
 Calls Tryz.prog 150 #[.pointer (some ⟨gl,k*2,none⟩),.pointer (some ⟨gx,0,none⟩)] w fun e w'=>e=.returned (.tuple #[])∧w'.ownsRow B 159 2 (.slice (some ⟨gl,0,none⟩) n c) n (pairsL (C.set k (rowK C k,outR (posK C k) z)))∧Keep (fun b=>b=gl) w w':=by
 obtain ⟨p0,p1⟩:=pairsL_get C k hk
 have hn:C.length=n:=by have h1:=h.1;rw [pairsL_len] at h1;omega
 have d0:=(World.ownsRow.cellAt h (k*2) (by omega)).trans p0
 have d1:=(World.ownsRow.cellAt h (k*2+1) (by omega)).trans p1
 have x0:w.cell? ⟨gx,0,none⟩=some (.int .i64 (z:Int)):=(hx.cell 0).trans rfl
 obtain ⟨cur,hcur⟩:=own_bk h
 have fr:=hcur.frozen (k*2+1)
 have hgl:=hcur.lt
 have hgx:=hx.lt
 have hself:=pair_self C k hk
 have hset:=fun v=>pairsL_set1 C k v hk
 obtain ⟨r,hr⟩:∃r,rowK C k=r:=⟨_,rfl⟩
 obtain ⟨p,hp⟩:∃p,posK C k=p:=⟨_,rfl⟩
 rw [hr] at d0 hself hset
 rw [hp] at d1 hself hC
 rw [hr,hp]
 have H:=Lib.hid h
 have Hself:=Lib.hid hself
 have Hset:=Lib.hid hset
 clear h hk hx p0 p1 hcur hself hset hn hr hp
 by_cases hz:z < p
 · have z1:decide ((p:Int) > (z:Int))=true:=decide_eq_true (by omega)
   have e1:IntKind.i64.wrap ((p:Int) - 1)=((p - 1:Nat):Int):=by rw [IntKind.wrap_i64];omega
   have ho:=(World.ownsRow.stored H.out (k*2+1) (.int .i64 ((p - 1:Nat):Int))).1
   rw [Hset.out] at ho
   have Ho:=Lib.hid ho
   clear ho
   go_enter Tryz.func150,Tryz.ntmps150
   go_wp2_with fail
   go_quiet (fail)
   go_wp2_with fail
   go_end0
   refine ⟨rfl,?_,Keep.setCell (F:=fun b=>b=gl) ((Keep.refl _ _).drewN _) (p:=⟨gl,k*2+1,none⟩) (.inl rfl) _⟩
   have e2:outR (p) z=p - 1:=by unfold outR;rw [if_pos (by omega)]
   rw [e2]
   exact Ho.out
 · have z1:decide ((p:Int) > (z:Int))=false:=decide_eq_false (by omega)
   go_enter Tryz.func150,Tryz.ntmps150
   go_wp2_with fail
   go_quiet (fail)
   go_wp2_with fail
   go_end0
   refine ⟨rfl,?_,(Keep.refl _ _).drewN _⟩
   have e2:outR (p) z=p:=by unfold outR;rw [if_neg (by omega)]
   rw [e2,Hself.out]
   exact H.out
set_option maxRecDepth 100000 in
set_option maxHeartbeats 1000000 in
theorem EachRowOut_any (B gp ga gx0 z0:Nat) (vl vo vt vf:Value) (R P:Nat) (ks:List Nat) (C:List (Nat×Nat)) (tk:List Bool) (fr:List Nat) (w:World) (h:PermAt w B gp ga vl vo vt vf R P ks C tk fr) (hnd:ks.Nodup) (hl:ks.length≤1000000) (hx0:Bk w gx0 3 #[.int .i64 (z0:Int)]) (hgx0:∀b,vl.ownBlock=some b→b≠gx0) (hC:∀k,k∈ks→rowK C k≤1000000000000∧posK C k≤1000000000000):
 Calls Tryz.prog 137 #[.pointer (some ⟨gp,0,none⟩),.func (.func 148) #[] #[.pointer (some ⟨gx0,0,none⟩)]] w fun e w'=>e=.returned (.tuple #[])∧Keep (fun b=>vl.ownBlock=some b) w w'∧∃C',C'.length=C.length∧(∀k,k∈ks→(rowK C' k,posK C' k)=(outR (rowK C k) z0,posK C k))∧PermAt w' B gp ga vl vo vt vf R P ks C' tk fr:=by
 obtain ⟨A2,c2,hvo,_,_⟩:=own_shape h.orow
 have c2':w.cell? ⟨gp,2,none⟩=some (.slice A2 ks.length c2):=(h.blk.cell 2).trans (by rw [hvo];rfl)
 have hgp:=h.blk.lt
 obtain ⟨n,hn⟩:∃n,ks.length=n:=⟨_,rfl⟩
 rw [hn] at c2' hl
 have H:=Lib.hid h
 have Hn:=Lib.hid hn
 have Hvo:=Lib.hid hvo
 have Hnd:=Lib.hid hnd
 have HC:=Lib.hid hC
 clear h hn hvo hnd hC
 go_enter Tryz.func137,Tryz.ntmps137
 go_wp2_with fail
 go_loopw [11] (fun i wr=>∃(j:Nat) (Cj:List (Nat×Nat)),j≤n∧i=.int .i64 (j:Int)∧Cj.length=C.length∧(∀k,k∈ks.take j→(rowK Cj k,posK Cj k)=(outR (rowK C k) z0,posK C k))∧(∀k,k∈ks.drop j→(rowK Cj k,posK Cj k)=(rowK C k,posK C k))∧PermAt wr B gp ga vl vo vt vf R P ks Cj tk fr∧Keep (fun b=>vl.ownBlock=some b) w wr) (fun i _=>n -(intOf i).toNat)
 case atStart=>exact ⟨0,C,Nat.zero_le _,rfl,rfl,fun k hk=>by simp at hk,fun k _=>rfl,H.out,Keep.refl _ _⟩
 case round=>
  obtain ⟨j,Cj,hj,rfl,hlen,hd1,hd2,hp,hk⟩:=hrel
  by_cases hlt:j < n
  · have hjl:j < ks.length:=by rw [Hn.out];exact hlt
    obtain ⟨k,hkj⟩:∃k,ks[j]?=some k:=⟨_,List.getElem?_eq_getElem hjl⟩
    have hkm:=List.mem_of_getElem? hkj
    have hkC:k < Cj.length:=hp.lt k hkm
    have ho2:=hp.orow
    rw [Hvo.out] at ho2
    obtain ⟨g2,k2,e2,_,hg2⟩:=World.ownsRow.form ho2 (by omega)
    injection e2 with e2a _ e2c
    subst e2a e2c
    have hlr:=hp.lrow
    obtain ⟨g1,k1,e1,_,hg1⟩:=World.ownsRow.form hlr (by omega)
    rw [e1] at hlr
    have d2:wr.cell? ⟨g2,j,none⟩=some (.int .i64 (k:Int)):=(World.ownsRow.cellAt ho2 j (by omega)).trans (by rw [List.getElem?_map,hkj];rfl)
    have d1:wr.cell? ⟨gp,1,none⟩=some (.slice (some ⟨g1,0,none⟩) Cj.length k1):=(hp.blk.cell 1).trans (by rw [e1];rfl)
    have hgpr:=hp.blk.lt
    have hsz:=hk.size
    have hkd:k∈ks.drop j:=by
        rw [List.drop_eq_getElem_cons hjl,List.getElem_eq_getElem?_get]
        simp [hkj]
    have hCk:(rowK Cj k,posK Cj k)=(rowK C k,posK C k):=hd2 k hkd
    injection hCk with hCr hCp
    have hxr:=fun (b:Nat) (e:Value.ownBlock vl=some b)=>(World.ownsRow.lt hp.lrow b e).2
    obtain ⟨N,hN⟩:∃N,Cj.length=N:=⟨_,rfl⟩
    rw [hN] at hlr d1 hkC
    have hxr0:=hk.bk hx0 (fun e=>hgx0 _ e rfl)
    have hkI:(k:Int) < (N:Int):=by omega
    have Hp:=Lib.hid hp
    have Hk:=Lib.hid hk
    have Hlr:=Lib.hid hlr
    have Hkj:=Lib.hid hkj
    have Hd1:=Lib.hid hd1
    have Hd2:=Lib.hid hd2
    have HN:=Lib.hid hN
    have Hlen:=Lib.hid hlen
    have He1:=Lib.hid e1
    have HCr:=Lib.hid hCr
    have HCp:=Lib.hid hCp
    have Hkm:=Lib.hid hkm
    clear hp hk hlr hkj hd1 hd2 hN hlen e1 hCr hCp hkm hkd ho2 hxr
    go_wp2_with fail
    refine (RowOutC_any B g1 N k1 gx0 z0 k Cj wr Hlr.out (by rw [HN.out];exact hkC) hxr0 (by rw [HCr.out];exact (HC.out k Hkm.out).1)).mono ?_
    rintro e w1 ⟨rfl,hl1,hk1⟩
    have hC':PermAt w1 B gp ga vl vo vt vf R P ks (Cj.set k (outR (rowK Cj k) z0,posK Cj k)) tk fr:=by
        have hp:=Hp.out
        have hne:∀b t cs,t≠159→Bk wr b t cs→b≠g1:=fun b t cs ht hb e=>by
         subst e
         obtain ⟨cu,hcu⟩:=own_bk Hlr.out
         exact ht (bk_inj hb hcu).1
        refine ⟨hk1.bk hp.blk (hne _ _ _ (by decide) hp.blk),?_,own_same hp.orow fun b cs _ hb=>hk1.bk hb (hne _ _ _ (by decide) hb),hk1.bk hp.ar (hne _ _ _ (by decide) hp.ar),own_same hp.trow fun b cs _ hb=>hk1.bk hb (hne _ _ _ (by decide) hb),own_same hp.frow fun b cs _ hb=>hk1.bk hb (hne _ _ _ (by decide) hb),hp.apart,fun x hx=>by rw [List.length_set];exact hp.lt x hx,hp.lo⟩
        rw [List.length_set,HN.out,He1.out,HN.out]
        exact hl1
    have hk':Keep (fun b=>vl.ownBlock=some b) w w1:=Hk.out.trans (hk1.mono fun b _ e=>by rw [He1.out,show b=g1 from e];rfl)
    have hget:∀x,(rowK (Cj.set k (outR (rowK Cj k) z0,posK Cj k)) x,posK (Cj.set k (outR (rowK Cj k) z0,posK Cj k)) x)=if x=k then (outR (rowK Cj k) z0,posK Cj k) else (rowK Cj x,posK Cj x):=fun x=>by
        unfold rowK posK
        rw [List.getD_eq_getElem?_getD,List.getElem?_set]
        by_cases cx:k=x
        · subst cx
          rw [if_pos rfl,if_pos rfl,if_pos (by rw [HN.out];exact hkC)]
          rfl
        · rw [if_neg cx,if_neg (fun e=>cx e.symm),List.getD_eq_getElem?_getD]
    have hrel:∃(j':Nat) (Cj':List (Nat×Nat)),j'≤n∧Value.int .i64 ((j+1:Nat):Int)=.int .i64 (j':Int)∧Cj'.length=C.length∧(∀k,k∈ks.take j'→(rowK Cj' k,posK Cj' k)=(outR (rowK C k) z0,posK C k))∧(∀k,k∈ks.drop j'→(rowK Cj' k,posK Cj' k)=(rowK C k,posK C k))∧PermAt w1 B gp ga vl vo vt vf R P ks Cj' tk fr∧Keep (fun b=>vl.ownBlock=some b) w w1:=by
        refine ⟨j+1,_,by omega,rfl,by rw [List.length_set];exact Hlen.out,fun x hx=>?_,fun x hx=>?_,hC',hk'⟩
        · rw [hget]
          by_cases cx:x=k
          · subst cx
            rw [if_pos rfl,HCr.out,HCp.out]
          · rw [if_neg cx]
            refine Hd1.out x ?_
            rw [List.take_add_one,Hkj.out] at hx
            simp at hx
            rcases hx with hx | hx
            · exact hx
            · exact absurd hx cx
        · rw [hget]
          have hxk:x≠k:=fun e=>by
           subst e
           have hd:ks.drop j=x::ks.drop (j+1):=by
              have hjl:j < ks.length:=by rw [Hn.out];exact hlt
              rw [List.drop_eq_getElem_cons hjl]
              have h9:=Hkj.out
              rw [List.getElem?_eq_getElem hjl] at h9
              injection h9 with h9
              rw [h9]
           have hnd:=(List.drop_sublist j ks).nodup Hnd.out
           rw [hd,List.nodup_cons] at hnd
           exact hnd.1 hx
          rw [if_neg hxk]
          exact Hd2.out x (List.mem_of_mem_drop (by rw [←List.drop_drop] at hx;exact hx:x∈(ks.drop j).drop 1))
    have Hrel:=Lib.hid hrel
    clear hC' hk' hget hrel hk1 hl1 d1 d2
    go_wp2_with fail
    go_roundw
    case rel=>exact Hrel.out
    case measure=>simp [intOf];omega
  · obtain rfl:j=n:=by omega
    have Hp:=Lib.hid hp
    have Hk:=Lib.hid hk
    have Hd1:=Lib.hid hd1
    clear hp hk hd1 hd2
    go_wp2_with fail
    go_end0
    refine ⟨rfl,Hk.out,Cj,hlen,fun k hk=>Hd1.out k ?_,Hp.out⟩
    rw [List.take_of_length_le (by rw [Hn.out];exact Nat.le_refl _)]
    exact hk
set_option maxRecDepth 100000 in
set_option maxHeartbeats 1000000 in
theorem EachPosOut_any (B gp ga gx0 z0:Nat) (vl vo vt vf:Value) (R P:Nat) (ks:List Nat) (C:List (Nat×Nat)) (tk:List Bool) (fr:List Nat) (w:World) (h:PermAt w B gp ga vl vo vt vf R P ks C tk fr) (hnd:ks.Nodup) (hl:ks.length≤1000000) (hx0:Bk w gx0 3 #[.int .i64 (z0:Int)]) (hgx0:∀b,vl.ownBlock=some b→b≠gx0) (hC:∀k,k∈ks→rowK C k≤1000000000000∧posK C k≤1000000000000):
 Calls Tryz.prog 137 #[.pointer (some ⟨gp,0,none⟩),.func (.func 150) #[] #[.pointer (some ⟨gx0,0,none⟩)]] w fun e w'=>e=.returned (.tuple #[])∧Keep (fun b=>vl.ownBlock=some b) w w'∧∃C',C'.length=C.length∧(∀k,k∈ks→(rowK C' k,posK C' k)=(rowK C k,outR (posK C k) z0))∧PermAt w' B gp ga vl vo vt vf R P ks C' tk fr:=by
 obtain ⟨A2,c2,hvo,_,_⟩:=own_shape h.orow
 have c2':w.cell? ⟨gp,2,none⟩=some (.slice A2 ks.length c2):=(h.blk.cell 2).trans (by rw [hvo];rfl)
 have hgp:=h.blk.lt
 obtain ⟨n,hn⟩:∃n,ks.length=n:=⟨_,rfl⟩
 rw [hn] at c2' hl
 have H:=Lib.hid h
 have Hn:=Lib.hid hn
 have Hvo:=Lib.hid hvo
 have Hnd:=Lib.hid hnd
 have HC:=Lib.hid hC
 clear h hn hvo hnd hC
 go_enter Tryz.func137,Tryz.ntmps137
 go_wp2_with fail
 go_loopw [11] (fun i wr=>∃(j:Nat) (Cj:List (Nat×Nat)),j≤n∧i=.int .i64 (j:Int)∧Cj.length=C.length∧(∀k,k∈ks.take j→(rowK Cj k,posK Cj k)=(rowK C k,outR (posK C k) z0))∧(∀k,k∈ks.drop j→(rowK Cj k,posK Cj k)=(rowK C k,posK C k))∧PermAt wr B gp ga vl vo vt vf R P ks Cj tk fr∧Keep (fun b=>vl.ownBlock=some b) w wr) (fun i _=>n -(intOf i).toNat)
 case atStart=>exact ⟨0,C,Nat.zero_le _,rfl,rfl,fun k hk=>by simp at hk,fun k _=>rfl,H.out,Keep.refl _ _⟩
 case round=>
  obtain ⟨j,Cj,hj,rfl,hlen,hd1,hd2,hp,hk⟩:=hrel
  by_cases hlt:j < n
  · have hjl:j < ks.length:=by rw [Hn.out];exact hlt
    obtain ⟨k,hkj⟩:∃k,ks[j]?=some k:=⟨_,List.getElem?_eq_getElem hjl⟩
    have hkm:=List.mem_of_getElem? hkj
    have hkC:k < Cj.length:=hp.lt k hkm
    have ho2:=hp.orow
    rw [Hvo.out] at ho2
    obtain ⟨g2,k2,e2,_,hg2⟩:=World.ownsRow.form ho2 (by omega)
    injection e2 with e2a _ e2c
    subst e2a e2c
    have hlr:=hp.lrow
    obtain ⟨g1,k1,e1,_,hg1⟩:=World.ownsRow.form hlr (by omega)
    rw [e1] at hlr
    have d2:wr.cell? ⟨g2,j,none⟩=some (.int .i64 (k:Int)):=(World.ownsRow.cellAt ho2 j (by omega)).trans (by rw [List.getElem?_map,hkj];rfl)
    have d1:wr.cell? ⟨gp,1,none⟩=some (.slice (some ⟨g1,0,none⟩) Cj.length k1):=(hp.blk.cell 1).trans (by rw [e1];rfl)
    have hgpr:=hp.blk.lt
    have hsz:=hk.size
    have hkd:k∈ks.drop j:=by
        rw [List.drop_eq_getElem_cons hjl,List.getElem_eq_getElem?_get]
        simp [hkj]
    have hCk:(rowK Cj k,posK Cj k)=(rowK C k,posK C k):=hd2 k hkd
    injection hCk with hCr hCp
    have hxr:=fun (b:Nat) (e:Value.ownBlock vl=some b)=>(World.ownsRow.lt hp.lrow b e).2
    obtain ⟨N,hN⟩:∃N,Cj.length=N:=⟨_,rfl⟩
    rw [hN] at hlr d1 hkC
    have hxr0:=hk.bk hx0 (fun e=>hgx0 _ e rfl)
    have hkI:(k:Int) < (N:Int):=by omega
    have Hp:=Lib.hid hp
    have Hk:=Lib.hid hk
    have Hlr:=Lib.hid hlr
    have Hkj:=Lib.hid hkj
    have Hd1:=Lib.hid hd1
    have Hd2:=Lib.hid hd2
    have HN:=Lib.hid hN
    have Hlen:=Lib.hid hlen
    have He1:=Lib.hid e1
    have HCr:=Lib.hid hCr
    have HCp:=Lib.hid hCp
    have Hkm:=Lib.hid hkm
    clear hp hk hlr hkj hd1 hd2 hN hlen e1 hCr hCp hkm hkd ho2 hxr
    go_wp2_with fail
    refine (PosOutC_any B g1 N k1 gx0 z0 k Cj wr Hlr.out (by rw [HN.out];exact hkC) hxr0 (by rw [HCp.out];exact (HC.out k Hkm.out).2)).mono ?_
    rintro e w1 ⟨rfl,hl1,hk1⟩
    have hC':PermAt w1 B gp ga vl vo vt vf R P ks (Cj.set k (rowK Cj k,outR (posK Cj k) z0)) tk fr:=by
        have hp:=Hp.out
        have hne:∀b t cs,t≠159→Bk wr b t cs→b≠g1:=fun b t cs ht hb e=>by
         subst e
         obtain ⟨cu,hcu⟩:=own_bk Hlr.out
         exact ht (bk_inj hb hcu).1
        refine ⟨hk1.bk hp.blk (hne _ _ _ (by decide) hp.blk),?_,own_same hp.orow fun b cs _ hb=>hk1.bk hb (hne _ _ _ (by decide) hb),hk1.bk hp.ar (hne _ _ _ (by decide) hp.ar),own_same hp.trow fun b cs _ hb=>hk1.bk hb (hne _ _ _ (by decide) hb),own_same hp.frow fun b cs _ hb=>hk1.bk hb (hne _ _ _ (by decide) hb),hp.apart,fun x hx=>by rw [List.length_set];exact hp.lt x hx,hp.lo⟩
        rw [List.length_set,HN.out,He1.out,HN.out]
        exact hl1
    have hk':Keep (fun b=>vl.ownBlock=some b) w w1:=Hk.out.trans (hk1.mono fun b _ e=>by rw [He1.out,show b=g1 from e];rfl)
    have hget:∀x,(rowK (Cj.set k (rowK Cj k,outR (posK Cj k) z0)) x,posK (Cj.set k (rowK Cj k,outR (posK Cj k) z0)) x)=if x=k then (rowK Cj k,outR (posK Cj k) z0) else (rowK Cj x,posK Cj x):=fun x=>by
        unfold rowK posK
        rw [List.getD_eq_getElem?_getD,List.getElem?_set]
        by_cases cx:k=x
        · subst cx
          rw [if_pos rfl,if_pos rfl,if_pos (by rw [HN.out];exact hkC)]
          rfl
        · rw [if_neg cx,if_neg (fun e=>cx e.symm),List.getD_eq_getElem?_getD]
    have hrel:∃(j':Nat) (Cj':List (Nat×Nat)),j'≤n∧Value.int .i64 ((j+1:Nat):Int)=.int .i64 (j':Int)∧Cj'.length=C.length∧(∀k,k∈ks.take j'→(rowK Cj' k,posK Cj' k)=(rowK C k,outR (posK C k) z0))∧(∀k,k∈ks.drop j'→(rowK Cj' k,posK Cj' k)=(rowK C k,posK C k))∧PermAt w1 B gp ga vl vo vt vf R P ks Cj' tk fr∧Keep (fun b=>vl.ownBlock=some b) w w1:=by
        refine ⟨j+1,_,by omega,rfl,by rw [List.length_set];exact Hlen.out,fun x hx=>?_,fun x hx=>?_,hC',hk'⟩
        · rw [hget]
          by_cases cx:x=k
          · subst cx
            rw [if_pos rfl,HCr.out,HCp.out]
          · rw [if_neg cx]
            refine Hd1.out x ?_
            rw [List.take_add_one,Hkj.out] at hx
            simp at hx
            rcases hx with hx | hx
            · exact hx
            · exact absurd hx cx
        · rw [hget]
          have hxk:x≠k:=fun e=>by
           subst e
           have hd:ks.drop j=x::ks.drop (j+1):=by
              have hjl:j < ks.length:=by rw [Hn.out];exact hlt
              rw [List.drop_eq_getElem_cons hjl]
              have h9:=Hkj.out
              rw [List.getElem?_eq_getElem hjl] at h9
              injection h9 with h9
              rw [h9]
           have hnd:=(List.drop_sublist j ks).nodup Hnd.out
           rw [hd,List.nodup_cons] at hnd
           exact hnd.1 hx
          rw [if_neg hxk]
          exact Hd2.out x (List.mem_of_mem_drop (by rw [←List.drop_drop] at hx;exact hx:x∈(ks.drop j).drop 1))
    have Hrel:=Lib.hid hrel
    clear hC' hk' hget hrel hk1 hl1 d1 d2
    go_wp2_with fail
    go_roundw
    case rel=>exact Hrel.out
    case measure=>simp [intOf];omega
  · obtain rfl:j=n:=by omega
    have Hp:=Lib.hid hp
    have Hk:=Lib.hid hk
    have Hd1:=Lib.hid hd1
    clear hp hk hd1 hd2
    go_wp2_with fail
    go_end0
    refine ⟨rfl,Hk.out,Cj,hlen,fun k hk=>Hd1.out k ?_,Hp.out⟩
    rw [List.take_of_length_le (by rw [Hn.out];exact Nat.le_refl _)]
    exact hk
end Go.Proofs.YtipaccakmndkgaaGreatDoor
