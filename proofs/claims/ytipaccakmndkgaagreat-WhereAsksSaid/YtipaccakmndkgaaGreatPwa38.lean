/- The walks of perm's each with the closure of RowMove. Conditions: at most 2^20 pairs. Plain laws for an edit: the start behind a delete and behind a change (plain Lean). No conditions. Strings: cuts, joins, bytes as a string and back. No conditions. The walk of where.First, and New for texts with their pairs. Conditions: a text of at most 127 bytes, as New makes it. Plain laws: how often letters and patterns stand in a text. No conditions. -/
import Derived.Test.YtipaccakmndkgaaGreatPwa36
import Derived.Test.YtipaccakmndkgaaGreatPwa35
import Derived.Test.YtipaccakmndkgaaGreatPwa37
namespace Go.Proofs.YtipaccakmndkgaaGreat
open Go.RowKit
set_option linter.unusedVariables false
set_option linter.unusedSimpArgs false
set_option maxRecDepth 100000 in
set_option maxHeartbeats 1000000 in
theorem RowMoveC_any (B gl n c gx0 gx1 z0 z1 k:Nat) (C:List (Nat×Nat)) (w:World) (h:w.ownsRow B 70 2 (.slice (some ⟨gl,0,none⟩) n c) n (pairsL C)) (hk:k < C.length) (hx0:Bk w gx0 3 #[.int .i64 (z0:Int)]) (hx1:Bk w gx1 3 #[.int .i64 (z1:Int)]) (hC:rowK C k≤1000000000000):
 Calls Tryz.prog 100 #[.pointer (some ⟨gl,k*2,none⟩),.pointer (some ⟨gx0,0,none⟩),.pointer (some ⟨gx1,0,none⟩)] w fun e w'=>e=.returned (.tuple #[])∧w'.ownsRow B 70 2 (.slice (some ⟨gl,0,none⟩) n c) n (pairsL (C.set k (mvR z0 z1 (rowK C k),posK C k)))∧Keep (fun b=>b=gl) w w':=by
 obtain ⟨p0,p1⟩:=pairsL_get C k hk
 have hn:C.length=n:=by have h1:=h.1;rw [pairsL_len] at h1;omega
 have d0:=(World.ownsRow.cellAt h (k*2) (by omega)).trans p0
 have x0:w.cell? ⟨gx0,0,none⟩=some (.int .i64 (z0:Int)):=(hx0.cell 0).trans rfl
 have x1:w.cell? ⟨gx1,0,none⟩=some (.int .i64 (z1:Int)):=(hx1.cell 0).trans rfl
 obtain ⟨cur,hcur⟩:=own_bk h
 have fr:=hcur.frozen (k*2)
 have hgl:=hcur.lt
 have hgx0:=hx0.lt
 have hgx1:=hx1.lt
 have n0:gx0≠gl:=Bk.ne hx0 hcur (by decide)
 have n1:gx1≠gl:=Bk.ne hx1 hcur (by decide)
 have hself:=pair_self C k hk
 have hset:=fun v=>pairsL_set0 C k v hk
 obtain ⟨r,hr⟩:∃r,rowK C k=r:=⟨_,rfl⟩
 rw [hr] at d0 hself hC
 rw [hr]
 have H:=Lib.hid h
 have Hself:=Lib.hid hself
 have Hset:=Lib.hid hset
 have hst:∀v:Nat,(w.setCell ⟨gl,k*2,none⟩ (.int .i64 (v:Int))).ownsRow B 70 2 (.slice (some ⟨gl,0,none⟩) n c) n (pairsL (C.set k (v,posK C k))):=fun v=>by
  have:=(World.ownsRow.stored H.out (k*2) (.int .i64 (v:Int))).1
  rwa [Hset.out] at this
 have hst2:∀u v:Nat,((w.setCell ⟨gl,k*2,none⟩ (.int .i64 (u:Int))).setCell ⟨gl,k*2,none⟩ (.int .i64 (v:Int))).ownsRow B 70 2 (.slice (some ⟨gl,0,none⟩) n c) n (pairsL (C.set k (v,posK C k))):=fun u v=>by
  have h1:=(World.ownsRow.stored (World.ownsRow.stored H.out (k*2) (.int .i64 (u:Int))).1 (k*2) (.int .i64 (v:Int))).1
  rw [List.set_set,Hset.out] at h1
  exact h1
 have hkk:∀v:Value,Keep (fun b=>b=gl) w (w.setCell ⟨gl,k*2,none⟩ v):=fun v=>Keep.setCell (F:=fun b=>b=gl) (Keep.refl _ _) (p:=⟨gl,k*2,none⟩) (.inl rfl) _
 have Hst:=Lib.hid hst
 have Hst2:=Lib.hid hst2
 have Hkk:=Lib.hid hkk
 clear h hk hx0 hx1 p0 p1 hcur hself hset hn hr hst hst2 hkk
 have hgoal:∀v:Nat,mvR z0 z1 r=v→C.set k (mvR z0 z1 r,posK C k)=C.set k (v,posK C k):=fun v e=>by rw [e]
 by_cases c0:r=z0
 · subst c0
   have e9:mvR r z1 r=z1:=by unfold mvR;rw [if_pos rfl]
   rw [e9]
   clear hgoal
   go_enter Tryz.func100,Tryz.ntmps100
   go_wp2_with fail
   go_quiet (fail)
   go_wp2_with fail
   refine bodyPost_ret (results_none rfl _ _ _) rfl ?_
   exact ⟨rfl,own_heap (Hst.out z1) rfl,(Keep.setCell (F:=fun b=>b=gl) ((Keep.refl _ _).drewN _) (p:=⟨gl,k*2,none⟩) (.inl rfl) _)⟩
 · have b0:((r:Int)==(z0:Int))=false:=by rw [beq_eq_false_iff_ne];omega
   have m0:mvR z0 z1 r=inR (outR r z0) z1:=by unfold mvR;rw [if_neg c0]
   by_cases c1:z0 < r
   · obtain ⟨q,hq⟩:∃q,r=q+1:=⟨r - 1,by omega⟩
     have b1:decide ((r:Int) > (z0:Int))=true:=decide_eq_true (by omega)
     have e1:IntKind.i64.wrap ((r:Int) - 1)=(q:Int):=by rw [IntKind.wrap_i64];omega
     have m1:outR r z0=q:=by unfold outR;rw [if_pos c1];omega
     rw [m1] at m0
     by_cases c2:z1≤q
     · have b2:decide ((q:Int)≥(z1:Int))=true:=decide_eq_true (by omega)
       have e2:wrap64 ((q:Int)+1)=(r:Int):=by rw [wrap64_id (by omega) (by omega)];omega
       have e9:mvR z0 z1 r=r:=by rw [m0];unfold inR;rw [if_pos c2];exact hq.symm
       rw [e9]
       clear hgoal m0 m1 hC hq
       go_enter Tryz.func100,Tryz.ntmps100
       go_wp2_with fail
       go_quiet (fail)
       go_wp2_with fail
       go_quiet (fail)
       go_wp2_with fail
       go_quiet (fail)
       go_wp2_with fail
       go_end0
       exact ⟨rfl,own_heap (Hst2.out q r) rfl,(Keep.setCell (F:=fun b=>b=gl) (Keep.drewN (Keep.setCell (F:=fun b=>b=gl) ((Keep.refl _ _).drewN _) (p:=⟨gl,k*2,none⟩) (.inl rfl) _) _) (p:=⟨gl,k*2,none⟩) (.inl rfl) _)⟩
     · have b2:decide ((q:Int)≥(z1:Int))=false:=decide_eq_false (by omega)
       have e9:mvR z0 z1 r=q:=by rw [m0];unfold inR;rw [if_neg c2]
       rw [e9]
       clear hgoal m0 m1 hC hq
       go_enter Tryz.func100,Tryz.ntmps100
       go_wp2_with fail
       go_quiet (fail)
       go_wp2_with fail
       go_quiet (fail)
       go_wp2_with fail
       go_quiet (fail)
       go_wp2_with fail
       go_end0
       exact ⟨rfl,own_heap (Hst.out q) rfl,Keep.drewN (Keep.setCell (F:=fun b=>b=gl) ((Keep.refl _ _).drewN _) (p:=⟨gl,k*2,none⟩) (.inl rfl) _) _⟩
   · have b1:decide ((r:Int) > (z0:Int))=false:=decide_eq_false (by omega)
     by_cases c2:z1≤r
     · have b2:decide ((r:Int)≥(z1:Int))=true:=decide_eq_true (by omega)
       have e2:wrap64 ((r:Int)+1)=((r+1:Nat):Int):=by rw [wrap64_id (by omega) (by omega)];omega
       have e9:mvR z0 z1 r=r+1:=by rw [m0];unfold outR;rw [if_neg c1];unfold inR;rw [if_pos c2]
       rw [e9]
       clear hgoal m0
       go_enter Tryz.func100,Tryz.ntmps100
       go_wp2_with fail
       go_quiet (fail)
       go_wp2_with fail
       go_quiet (fail)
       go_wp2_with fail
       go_quiet (fail)
       go_wp2_with fail
       go_end0
       exact ⟨rfl,own_heap (Hst.out (r+1)) rfl,(Keep.setCell (F:=fun b=>b=gl) ((Keep.refl _ _).drewN _) (p:=⟨gl,k*2,none⟩) (.inl rfl) _)⟩
     · have b2:decide ((r:Int)≥(z1:Int))=false:=decide_eq_false (by omega)
       have e9:mvR z0 z1 r=r:=by rw [m0];unfold outR;rw [if_neg c1];unfold inR;rw [if_neg c2]
       rw [e9,Hself.out]
       clear hgoal m0
       go_enter Tryz.func100,Tryz.ntmps100
       go_wp2_with fail
       go_quiet (fail)
       go_wp2_with fail
       go_quiet (fail)
       go_wp2_with fail
       go_quiet (fail)
       go_wp2_with fail
       go_end0
       exact ⟨rfl,H.out,(((Keep.refl _ _).drewN _).drewN _).drewN _⟩
set_option maxRecDepth 100000 in
set_option maxHeartbeats 1000000 in
theorem EachRowMove_any (B gp ga gx0 gx1 z0 z1:Nat) (vl vo vt vf:Value) (R P:Nat) (ks:List Nat) (C:List (Nat×Nat)) (tk:List Bool) (fr:List Nat) (w:World) (h:PermAt w B gp ga vl vo vt vf R P ks C tk fr) (hnd:ks.Nodup) (hl:ks.length≤1000000) (hx0:Bk w gx0 3 #[.int .i64 (z0:Int)]) (hgx0:∀b,vl.ownBlock=some b→b≠gx0) (hx1:Bk w gx1 3 #[.int .i64 (z1:Int)]) (hgx1:∀b,vl.ownBlock=some b→b≠gx1) (hC:∀k,k∈ks→rowK C k≤1000000000000∧posK C k≤1000000000000):
 Calls Tryz.prog 61 #[.pointer (some ⟨gp,0,none⟩),.func (.func 100) #[] #[.pointer (some ⟨gx0,0,none⟩),.pointer (some ⟨gx1,0,none⟩)]] w fun e w'=>e=.returned (.tuple #[])∧Keep (fun b=>vl.ownBlock=some b) w w'∧∃C',C'.length=C.length∧(∀k,k∈ks→(rowK C' k,posK C' k)=(mvR z0 z1 (rowK C k),posK C k))∧PermAt w' B gp ga vl vo vt vf R P ks C' tk fr:=by
 obtain ⟨A2,c2,hvo,_,_⟩:=own_shape h.orow
 have c2':w.cell? ⟨gp,2,none⟩=some (.slice A2 ks.length c2):=(h.blk.cell 2).trans (by rw [hvo];rfl)
 have hgp:=h.blk.lt
 obtain ⟨n,hn⟩:∃n,ks.length=n:=⟨_,rfl⟩
 rw [hn] at c2' hl
 have H:=Lib.hid h
 have Hn:=Lib.hid hn
 have Hvo:=Lib.hid hvo
 have Hnd:=Lib.hid hnd
 have HC:=Lib.hid hC
 clear h hn hvo hnd hC
 go_enter Tryz.func61,Tryz.ntmps61
 go_wp2_with fail
 go_loopw [11] (fun i wr=>∃(j:Nat) (Cj:List (Nat×Nat)),j≤n∧i=.int .i64 (j:Int)∧Cj.length=C.length∧(∀k,k∈ks.take j→(rowK Cj k,posK Cj k)=(mvR z0 z1 (rowK C k),posK C k))∧(∀k,k∈ks.drop j→(rowK Cj k,posK Cj k)=(rowK C k,posK C k))∧PermAt wr B gp ga vl vo vt vf R P ks Cj tk fr∧Keep (fun b=>vl.ownBlock=some b) w wr) (fun i _=>n -(intOf i).toNat)
 case atStart=>exact ⟨0,C,Nat.zero_le _,rfl,rfl,fun k hk=>by simp at hk,fun k _=>rfl,H.out,Keep.refl _ _⟩
 case round=>
  obtain ⟨j,Cj,hj,rfl,hlen,hd1,hd2,hp,hk⟩:=hrel
  by_cases hlt:j < n
  · have hjl:j < ks.length:=by rw [Hn.out];exact hlt
    obtain ⟨k,hkj⟩:∃k,ks[j]?=some k:=⟨_,List.getElem?_eq_getElem hjl⟩
    have hkm:=List.mem_of_getElem? hkj
    have hkC:k < Cj.length:=hp.lt k hkm
    have ho2:=hp.orow
    rw [Hvo.out] at ho2
    obtain ⟨g2,k2,e2,_,hg2⟩:=World.ownsRow.form ho2 (by omega)
    injection e2 with e2a _ e2c
    subst e2a e2c
    have hlr:=hp.lrow
    obtain ⟨g1,k1,e1,_,hg1⟩:=World.ownsRow.form hlr (by omega)
    rw [e1] at hlr
    have d2:wr.cell? ⟨g2,j,none⟩=some (.int .i64 (k:Int)):=(World.ownsRow.cellAt ho2 j (by omega)).trans (by rw [List.getElem?_map,hkj];rfl)
    have d1:wr.cell? ⟨gp,1,none⟩=some (.slice (some ⟨g1,0,none⟩) Cj.length k1):=(hp.blk.cell 1).trans (by rw [e1];rfl)
    have hgpr:=hp.blk.lt
    have hsz:=hk.size
    have hkd:k∈ks.drop j:=by
        rw [List.drop_eq_getElem_cons hjl,List.getElem_eq_getElem?_get]
        simp [hkj]
    have hCk:(rowK Cj k,posK Cj k)=(rowK C k,posK C k):=hd2 k hkd
    injection hCk with hCr hCp
    have hxr:=fun (b:Nat) (e:Value.ownBlock vl=some b)=>(World.ownsRow.lt hp.lrow b e).2
    obtain ⟨N,hN⟩:∃N,Cj.length=N:=⟨_,rfl⟩
    rw [hN] at hlr d1 hkC
    have hxr0:=hk.bk hx0 (fun e=>hgx0 _ e rfl)
    have hxr1:=hk.bk hx1 (fun e=>hgx1 _ e rfl)
    have hkI:(k:Int) < (N:Int):=by omega
    have Hp:=Lib.hid hp
    have Hk:=Lib.hid hk
    have Hlr:=Lib.hid hlr
    have Hkj:=Lib.hid hkj
    have Hd1:=Lib.hid hd1
    have Hd2:=Lib.hid hd2
    have HN:=Lib.hid hN
    have Hlen:=Lib.hid hlen
    have He1:=Lib.hid e1
    have HCr:=Lib.hid hCr
    have HCp:=Lib.hid hCp
    have Hkm:=Lib.hid hkm
    clear hp hk hlr hkj hd1 hd2 hN hlen e1 hCr hCp hkm hkd ho2 hxr
    go_wp2_with fail
    refine (RowMoveC_any B g1 N k1 gx0 gx1 z0 z1 k Cj wr Hlr.out (by rw [HN.out];exact hkC) hxr0 hxr1 (by rw [HCr.out];exact (HC.out k Hkm.out).1)).mono ?_
    rintro e w1 ⟨rfl,hl1,hk1⟩
    have hC':PermAt w1 B gp ga vl vo vt vf R P ks (Cj.set k (mvR z0 z1 (rowK Cj k),posK Cj k)) tk fr:=by
        have hp:=Hp.out
        have hne:∀b t cs,t≠70→Bk wr b t cs→b≠g1:=fun b t cs ht hb e=>by
         subst e
         obtain ⟨cu,hcu⟩:=own_bk Hlr.out
         exact ht (bk_inj hb hcu).1
        refine ⟨hk1.bk hp.blk (hne _ _ _ (by decide) hp.blk),?_,own_same hp.orow fun b cs _ hb=>hk1.bk hb (hne _ _ _ (by decide) hb),hk1.bk hp.ar (hne _ _ _ (by decide) hp.ar),own_same hp.trow fun b cs _ hb=>hk1.bk hb (hne _ _ _ (by decide) hb),own_same hp.frow fun b cs _ hb=>hk1.bk hb (hne _ _ _ (by decide) hb),hp.apart,fun x hx=>by rw [List.length_set];exact hp.lt x hx,hp.lo⟩
        rw [List.length_set,HN.out,He1.out,HN.out]
        exact hl1
    have hk':Keep (fun b=>vl.ownBlock=some b) w w1:=Hk.out.trans (hk1.mono fun b _ e=>by rw [He1.out,show b=g1 from e];rfl)
    have hget:∀x,(rowK (Cj.set k (mvR z0 z1 (rowK Cj k),posK Cj k)) x,posK (Cj.set k (mvR z0 z1 (rowK Cj k),posK Cj k)) x)=if x=k then (mvR z0 z1 (rowK Cj k),posK Cj k) else (rowK Cj x,posK Cj x):=fun x=>by
        unfold rowK posK
        rw [List.getD_eq_getElem?_getD,List.getElem?_set]
        by_cases cx:k=x
        · subst cx
          rw [if_pos rfl,if_pos rfl,if_pos (by rw [HN.out];exact hkC)]
          rfl
        · rw [if_neg cx,if_neg (fun e=>cx e.symm),List.getD_eq_getElem?_getD]
    have hrel:∃(j':Nat) (Cj':List (Nat×Nat)),j'≤n∧Value.int .i64 ((j+1:Nat):Int)=.int .i64 (j':Int)∧Cj'.length=C.length∧(∀k,k∈ks.take j'→(rowK Cj' k,posK Cj' k)=(mvR z0 z1 (rowK C k),posK C k))∧(∀k,k∈ks.drop j'→(rowK Cj' k,posK Cj' k)=(rowK C k,posK C k))∧PermAt w1 B gp ga vl vo vt vf R P ks Cj' tk fr∧Keep (fun b=>vl.ownBlock=some b) w w1:=by
        refine ⟨j+1,_,by omega,rfl,by rw [List.length_set];exact Hlen.out,fun x hx=>?_,fun x hx=>?_,hC',hk'⟩
        · rw [hget]
          by_cases cx:x=k
          · subst cx
            rw [if_pos rfl,HCr.out,HCp.out]
          · rw [if_neg cx]
            refine Hd1.out x ?_
            rw [List.take_add_one,Hkj.out] at hx
            simp at hx
            rcases hx with hx | hx
            · exact hx
            · exact absurd hx cx
        · rw [hget]
          have hxk:x≠k:=fun e=>by
           subst e
           have hd:ks.drop j=x::ks.drop (j+1):=by
              have hjl:j < ks.length:=by rw [Hn.out];exact hlt
              rw [List.drop_eq_getElem_cons hjl]
              have h9:=Hkj.out
              rw [List.getElem?_eq_getElem hjl] at h9
              injection h9 with h9
              rw [h9]
           have hnd:=(List.drop_sublist j ks).nodup Hnd.out
           rw [hd,List.nodup_cons] at hnd
           exact hnd.1 hx
          rw [if_neg hxk]
          exact Hd2.out x (List.mem_of_mem_drop (by rw [←List.drop_drop] at hx;exact hx:x∈(ks.drop j).drop 1))
    have Hrel:=Lib.hid hrel
    clear hC' hk' hget hrel hk1 hl1 d1 d2
    go_wp2_with fail
    go_roundw
    case rel=>exact Hrel.out
    case measure=>simp [intOf];omega
  · obtain rfl:j=n:=by omega
    have Hp:=Lib.hid hp
    have Hk:=Lib.hid hk
    have Hd1:=Lib.hid hd1
    clear hp hk hd1 hd2
    go_wp2_with fail
    go_end0
    refine ⟨rfl,Hk.out,Cj,hlen,fun k hk=>Hd1.out k ?_,Hp.out⟩
    rw [List.take_of_length_le (by rw [Hn.out];exact Nat.le_refl _)]
    exact hk
end Go.Proofs.YtipaccakmndkgaaGreat
namespace Go.Proofs.YtipaccakmndkgaaGreat
set_option linter.unusedVariables false
set_option linter.unusedSimpArgs false
section
variable {S R : List Nat} {N : Nat}
end
end Go.Proofs.YtipaccakmndkgaaGreat
namespace Go.Proofs.YtipaccakmndkgaaGreat
open Go.RowKit
set_option linter.unusedVariables false
set_option linter.unusedSimpArgs false
theorem strOfT {w:World} {B n:Nat} {A:Option Addr} {l:List UInt8} (hr:Rd w B 1 A n (l.map bv)):∀c,(convert 23 9 (.slice A n c)).run Tryz.prog w=.ok (.string ⟨l.toArray⟩) w:=
 fun c=>run_str_rd (P:=Tryz.prog) 23 9 5 Tryz.underlying23 Tryz.underlying5 Tryz.underlying9 hr
theorem ts_sub_eq (l:List UInt8) (i j:Nat):(⟨l.toArray⟩:ByteArray).extract i j=⟨((l.drop i).take (j - i)).toArray⟩:=by
 apply ByteArray.ext
 rw [ByteArray.data_extract]
 apply Array.ext'
 rw [Array.toList_extract]
theorem ts_size (l:List UInt8):(⟨l.toArray⟩:ByteArray).size=l.length:=by simp [ByteArray.size]
section
variable (l : List UInt8) (w : World)
theorem ts_sub_lohi (i j:Nat) (h1:i≤j) (h2:j≤l.length):(Instr.slice 9 (.string ⟨l.toArray⟩) (some (.int .i64 (i:Int))) (some (.int .i64 (j:Int))) none).run Tryz.prog w=.ok (.string ⟨((l.drop i).take (j - i)).toArray⟩) w:=by
 rw [run_slice_string (P:=Tryz.prog) (w:=w) 9 ⟨l.toArray⟩ .i64 .i64 i j Tryz.underlying9 (by omega) (by omega) (by rw [ts_size];omega)]
 rw [Int.toNat_natCast,Int.toNat_natCast,ts_sub_eq]
theorem ts_sub_hi (j:Nat) (h2:j≤l.length):(Instr.slice 9 (.string ⟨l.toArray⟩) none (some (.int .i64 (j:Int))) none).run Tryz.prog w=.ok (.string ⟨(l.take j).toArray⟩) w:=by
 rw [run_slice_string_h (P:=Tryz.prog) (w:=w) 9 ⟨l.toArray⟩ Tryz.underlying9 .i64 j (by omega) (by rw [ts_size];omega)]
 rw [Int.toNat_natCast,ts_sub_eq]
 simp
theorem ts_sub_lo (i:Nat) (h2:i≤l.length):(Instr.slice 9 (.string ⟨l.toArray⟩) (some (.int .i64 (i:Int))) none none).run Tryz.prog w=.ok (.string ⟨(l.drop i).toArray⟩) w:=by
 rw [run_slice_string_l (P:=Tryz.prog) (w:=w) 9 ⟨l.toArray⟩ Tryz.underlying9 .i64 i (by omega) (by rw [ts_size];omega)]
 rw [Int.toNat_natCast,ts_sub_eq,ts_size]
 congr 3
 apply congrArg
 rw [List.take_of_length_le (by rw [List.length_drop];omega)]
theorem ts_at_lohi (i j:Nat) (h1:i≤j) (h2:j≤l.length):(Instr.sliceAt 9 (.string ⟨l.toArray⟩) (some (.int .i64 (i:Int))) (some (.int .i64 (j:Int))) none).run Tryz.prog w=.ok (.string ⟨((l.drop i).take (j - i)).toArray⟩) w:=by
 rw [run_sliceAt_string (h:=Tryz.underlying9),ts_sub_lohi l w i j h1 h2]
theorem ts_at_hi (j:Nat) (h2:j≤l.length):(Instr.sliceAt 9 (.string ⟨l.toArray⟩) none (some (.int .i64 (j:Int))) none).run Tryz.prog w=.ok (.string ⟨(l.take j).toArray⟩) w:=by
 rw [run_sliceAt_string (h:=Tryz.underlying9),ts_sub_hi l w j h2]
theorem ts_at_lo (i:Nat) (h2:i≤l.length):(Instr.sliceAt 9 (.string ⟨l.toArray⟩) (some (.int .i64 (i:Int))) none none).run Tryz.prog w=.ok (.string ⟨(l.drop i).toArray⟩) w:=by
 rw [run_sliceAt_string (h:=Tryz.underlying9),ts_sub_lo l w i h2]
end
theorem ts_cat (x y:List UInt8):Value.string ((⟨x.toArray⟩:ByteArray)++⟨y.toArray⟩)=.string ⟨(x++y).toArray⟩:=congrArg Value.string (by
 apply ByteArray.ext
 rw [ByteArray.data_append]
 simp)
theorem ts_bytes (w:World) (l:List UInt8) (cap:Nat) (e:TypeId) (fr:Nat×Nat) (n g:Nat) (hn:l.length=n) (hg:g=w.heap.size):Rd (w.drew.alloc (.cells (bytesRow ⟨l.toArray⟩ cap) e fr)) (w.heap.size+1) 1 (some ⟨g,0,none⟩) n (l.map bv):=by
 subst hg
 refine ⟨by simp [hn],fun _=>⟨_,0,rfl,by simp,fun j u hu=>?_⟩⟩
 have h1:=cell_of_row (w.drew.alloc (.cells (bytesRow ⟨l.toArray⟩ cap) e fr)) w.heap.size j (bytesRow ⟨l.toArray⟩ cap) e fr (heap_alloc_new w.drew _)
 rw [Nat.zero_add,h1]
 unfold bytesRow
 have hj:j < l.length:=by
  have:=(List.getElem?_eq_some_iff.1 hu).1
  simpa using this
 rw [Array.getElem?_append_left (by simpa using hj)]
 rw [List.getElem?_map,List.getElem?_eq_getElem hj] at hu
 simp only [Option.map_some,Option.some.injEq] at hu
 rw [←hu]
 simp [hj,bv]
theorem ts_conv (w:World) (t:List UInt8) (N:Nat) (hN:t.length=N):∃A0 cap W1,(convert 9 23 (.string ⟨t.toArray⟩)).run Tryz.prog w=.ok (.slice A0 N cap) W1∧Rd W1 W1.heap.size 1 A0 N (t.map bv)∧Below w.heap.size w W1:=by
 have kb:=run_bytes_of_string (P:=Tryz.prog) w 9 23 5 ⟨t.toArray⟩ Tryz.underlying9 Tryz.underlying23 Tryz.underlying5
 have hz:(⟨t.toArray⟩:ByteArray).size=N:=by rw [←hN];rfl
 rw [hz] at kb
 exact ⟨_,_,_,kb,(ts_bytes w t _ _ _ N _ hN rfl).mono (by simp),(Below.refl _ _).drew.alloc (Nat.le_refl _) _⟩
end Go.Proofs.YtipaccakmndkgaaGreat
namespace Go.Proofs.YtipaccakmndkgaaGreat
open Go.RowKit
set_option linter.unusedVariables false
set_option linter.unusedSimpArgs false
def firstPl:List Nat→Int
 | []=>-1
 | x::_=>(x:Int)
set_option maxRecDepth 100000 in
set_option maxHeartbeats 1000000 in
theorem First_any (Bw gl rate:Nat) (t:List UInt8) (A0:Option Addr) (m0 c0 B:Nat) (ss:List Sl) (p:List UInt8) (hT:catS ss=p) (w:World) (h:TpAt w Bw gl t rate) (hr0:Rd w B 1 A0 m0 (ss.map slV)) (hss:∀s∈ss,Rd w B 1 s.A s.n (s.l.map bv)) (hB:B≤w.heap.size) (hm:m0≤1000000) (hp:p.length≤1000000):
 Calls Tryz.prog 11 #[.pointer (some ⟨gl,0,none⟩),.slice A0 m0 c0] w fun e w'=>e=.returned (.int .i64 (firstPl (placesT t p)))∧VB Bw w w':=by
 have hall:=All_any Bw gl rate t A0 m0 c0 B ss p hT w h hr0 hss hB hm hp
 clear h hr0 hss hT
 obtain ⟨ps,hps⟩:∃x,placesT t p=x:=⟨_,rfl⟩
 unfold AllPost at hall
 rw [hps] at hall⊢
 clear hps
 go_enter Tryz.func11,Tryz.ntmps11
 go_wp2_with fail
 refine hall.mono ?_
 rintro e w1 ⟨A,c,rfl,hm1,hv1⟩
 have Hv1:=Lib.hid hv1
 clear hall hv1
 obtain ⟨n,hn⟩:∃n,ps.length=n:=⟨_,rfl⟩
 rw [hn] at hm1⊢
 rcases Nat.eq_zero_or_pos n with h0 | h0
 · subst h0
   have hps:ps= []:=List.eq_nil_of_length_eq_zero hn
   subst hps
   clear hm1 hn
   go_wp2_with fail
   go_ret
   exact ⟨rfl,Hv1.out⟩
 · obtain ⟨b,off,u,rfl,hbl,hu,hc⟩:=hm1.rd.get h0
   cases ps with
   | nil=>simp at hn;omega
   | cons x l=>
     simp only [List.map_cons,List.getElem?_cons_zero,Option.some.injEq] at hu
     subst hu
     unfold sv at hc
     rw [Nat.add_zero] at hc
     clear hm1 hn
     have h1:¬((n:Int)=0):=by omega
     have h2:(0:Int) < (n:Int):=by omega
     go_wp2_with fail
     go_ret
     exact ⟨rfl,Hv1.out⟩
end Go.Proofs.YtipaccakmndkgaaGreat
namespace Go.Proofs.YtipaccakmndkgaaGreat
open Go.RowKit
set_option linter.unusedVariables false
set_option linter.unusedSimpArgs false
theorem preQ_iff (l:List Nat) (q:List Nat):∀p,preQ l q p=true↔∀(i s:Nat),q[i]?=some s→aN l (p+i)=(s:Int):=by
 induction q with
 | nil=>intro p;exact ⟨fun _ i s h=>by simp at h,fun _=>rfl⟩
 | cons x q ih=>
   intro p
   rw [preQ_cons,Bool.and_eq_true,decide_eq_true_eq,ih]
   constructor
   · rintro ⟨h1,h2⟩ i s h
     rcases i with _ | i
     · simp at h
       subst h
       exact h1
     · have:=h2 i s (by simpa using h)
       rwa [show p+(i+1)=p+1+i by omega]
   · intro h
     refine ⟨h 0 x (by simp),fun i s hi=>?_⟩
     have:=h (i+1) s (by simpa using hi)
     rwa [show p+1+i=p+(i+1) by omega]
theorem aN_symL (t:List UInt8) {p:Nat} {c:UInt8} (h:t[p]?=some c):aN (symL t) p=((c.toNat+1:Nat):Int):=by
 have hp:=(List.getElem?_eq_some_iff.1 h).1
 refine aN_some ?_
 unfold symL symB
 rw [List.getElem?_append_left (by simpa using hp),List.getElem?_map,h]
 rfl
theorem preQ_bytes (t q:List UInt8) (p:Nat):preQ (symL t) (symB q) p=true↔∀(i:Nat) (c:UInt8),q[i]?=some c→t[p+i]?=some c:=by
 rw [preQ_iff]
 constructor
 · intro h i c hc
   have:=h i (c.toNat+1) (by unfold symB;rw [List.getElem?_map,hc];rfl)
   cases ht:t[p+i]? with
   | none=>
     exfalso
     have hge:=List.getElem?_eq_none_iff.1 ht
     rcases Nat.eq_or_lt_of_le hge with e | e
     · have:aN (symL t) (p+i)=0:=by
         rw [aN_some (x:=0)]
         · rfl
         · unfold symL symB
           rw [List.getElem?_append_right (by simp;omega)]
           simp [e]
       omega
     · have:aN (symL t) (p+i)=-1:=aN_ge (by rw [symL_len];omega)
       omega
   | some d=>
     rw [aN_symL t ht] at this
     have e:d.toNat=c.toNat:=by omega
     rw [UInt8.toNat_inj.1 e]
 · intro h i s hs
   unfold symB at hs
   rw [List.getElem?_map] at hs
   obtain ⟨c,hc,rfl⟩:=Option.map_eq_some_iff.1 hs
   exact aN_symL t (h i c hc)
end Go.Proofs.YtipaccakmndkgaaGreat
