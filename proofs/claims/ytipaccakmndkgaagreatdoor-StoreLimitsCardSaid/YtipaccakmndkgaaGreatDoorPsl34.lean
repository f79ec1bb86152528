/- The walk of where.All: the places of a pattern. Conditions: a text of at most 127 bytes, as New makes it. Texts as find's functions see them: New, Rows, Count; lists of parts. Conditions: a text of at most 127 bytes. The walk of perm's RowMove. Conditions: rows and places in order; at most 1000 numbers; there is a pair. Plain laws for an edit: the start behind a change of a letter (plain Lean). No conditions. The walks of snap.Save and live's Rate. Conditions: a text of at most 127 bytes, as New makes it. -/
import Derived.Test.YtipaccakmndkgaaGreatDoorPsl31
import Derived.Test.YtipaccakmndkgaaGreatDoorPsl29
import Derived.Test.YtipaccakmndkgaaGreatDoorPsl2
import Derived.Test.YtipaccakmndkgaaGreatDoorPsl22
import Derived.Test.YtipaccakmndkgaaGreatDoorPsl21
import Derived.Test.YtipaccakmndkgaaGreatDoorPsl32
import Derived.Test.YtipaccakmndkgaaGreatDoorPsl18
import Derived.Test.YtipaccakmndkgaaGreatDoorPsl23
import Derived.Test.YtipaccakmndkgaaGreatDoorPsl6
import Derived.Test.YtipaccakmndkgaaGreatDoorPsl28
set_option linter.unusedVariables false
set_option linter.unusedSimpArgs false
set_option maxRecDepth 100000
set_option maxHeartbeats 4000000
namespace Go.Proofs.YtipaccakmndkgaaGreatDoor
open Go.RowKit
def AllPost (w:World) (Bw:Nat) (t p:List UInt8) (e:Ending) (w':World):Prop:=
 ∃A c,e=.returned (.slice A (placesT t p).length c)∧Made w' w.heap.size 3 1 A (placesT t p).length c ((placesT t p).map sv)∧VB Bw w w'
theorem All_any (Bw gl rate:Nat) (t:List UInt8) (A0:Option Addr) (m0 c0 B:Nat) (ss:List Sl) (p:List UInt8) (hT:catS ss=p) (w:World) (h:TpAt w Bw gl t rate) (hr0:Rd w B 1 A0 m0 (ss.map slV)) (hss:∀s∈ss,Rd w B 1 s.A s.n (s.l.map bv)) (hB:B≤w.heap.size) (hm:m0≤1000000) (hp:p.length≤1000000):
 Calls Tryz.prog 101 #[.pointer (some ⟨gl,0,none⟩),.slice A0 m0 c0] w (AllPost w Bw t p):=by
 obtain ⟨i0,hi0,hz0,hz1,hz2⟩:=info_parts int_info
 obtain ⟨rs,gk,gp,pr,hs,hl,hrt,hz0,hn⟩:=h
 have Hrt:=lhd hrt
 have Hz0:=lhd hz0
 clear hrt hz0
 have hrl:rs.length=t.length+1:=by rw [hs.len,symL_len]
 have hrows:=FindRows_any Bw gl _ t.length A0 m0 c0 B ss p p.length hT rfl w hl.lvw (by rw [lastL_len,hrl]) (by omega) (lastL_lt (symL_lt t)) hr0 hss hB hm hp
 rw [rowsN_Nq hs (symL_end t)] at hrows
 have hsort:=sort_places hs p
 have hle:=Nq_le (symL t) true (symB p)
 rw [symL_len] at hle
 have hab:Nq (symL t) false (symB p)≤Nq (symL t) true (symB p):=by rw [Nq_occ];omega
 have hlen:(placesT t p).length=Nq (symL t) true (symB p) - Nq (symL t) false (symB p):=by
  rw [←(rows_mid hs p).length_eq,List.length_take,List.length_drop,hrl]
  omega
 obtain ⟨lo,hlo⟩:∃x,Nq (symL t) false (symB p)=x:=⟨_,rfl⟩
 obtain ⟨hi,hhi⟩:∃x,Nq (symL t) true (symB p)=x:=⟨_,rfl⟩
 obtain ⟨ps,hps⟩:∃x,placesT t p=x:=⟨_,rfl⟩
 unfold AllPost
 rw [hlo,hhi] at hrows hsort hlen
 rw [hlo] at hab
 rw [hhi] at hle hab
 rw [hps] at hsort hlen⊢
 have Hl:=lhd hl
 have Hs:=lhd hs
 have Hsort:=lhd hsort
 have Hlen:=lhd hlen
 have Hrl:=lhd hrl
 clear hr0 hss hl hs hsort hlen hrl hlo hhi hps hT
 go_enter Tryz.func101,Tryz.ntmps101
 go_wp2_with fail
 refine hrows.mono ?_
 rintro e w1 ⟨rfl,hv1⟩
 clear hrows
 go_wp2_with fail
 go_loopw [7,8] (fun v i wr=>∃k:Nat,k≤hi - lo∧i=.int .i64 ((lo+k:Nat):Int)∧wr.ownsRow w.heap.size 3 1 v k (((rs.drop lo).take k).map sv)∧VB Bw w wr) (fun _ i _=>hi -(intOf i).toNat)
 case atStart=>exact ⟨0,Nat.zero_le _,by simp,World.ownsRow_nil _ _ _ _,hv1⟩
 case round=>
  obtain ⟨k,hk,rfl,hown,hv⟩:=hrel
  by_cases hlt:k < hi - lo
  · have hltI:((lo+k:Nat):Int) < (hi:Int):=by omega
    have hir:lo+k < rs.length:=by rw [Hrl.out];omega
    obtain ⟨y,hy⟩:∃y,rs[lo+k]?=some y:=⟨_,List.getElem?_eq_getElem hir⟩
    have hnext:(rs.drop lo).take (k+1)=(rs.drop lo).take k++ [y]:=by
        rw [List.take_add_one,List.getElem?_drop,hy]
        rfl
    have hl5:=Hl.out.vis hv.1
    have Hown:=lhd hown
    have Hv:=lhd hv
    have Hl5:=lhd hl5
    have Hy:=lhd hy
    have Hnext:=lhd hnext
    clear hown hv hl5 hy hnext
    go_wp2_with fail
    refine (LivePosG_any Bw gl gk gp rate t rs pr (lo+k) y wr Hl5.out Hrt.out Hz0.out Hs.out hn Hy.out).mono ?_
    rintro e w2 ⟨rfl,hv2⟩
    have hv3:=Hv.out.trans hv2
    have hown3:=hv2.1.own Hown.out (by decide) (by decide)
    have hsz3:=hv3.1.size
    have Hv3:=lhd hv3
    have Hown3:=lhd hown3
    clear hv2 hv3 hown3
    go_wp2_with (at_builtin;refine wpList_push _ rfl (.tmp 21) (.tmp 25) _ rfl w.heap.size 3 i0 (.int .i64 0) 1 8 Tryz.underlying22 hi0 hz0 hz1 hz2 rfl (by decide) _ k _ rfl Hown3.out rfl rfl (by simp [Value.oneCell']) (by unfold maxLen;omega) (by omega) hsz3 ?_;intro v2 w3 hown2 hg2 hs2 hat2)
    have hb3:=below_grown (Below.refl w.heap.size w2) Hown3.out hg2 hsz3
    have hv4:=VB.grow Hv3.out hb3
    have Hv4:=lhd hv4
    clear hb3 hv4 hg2 hat2
    go_roundw
    case rel=>exact ⟨k+1,by omega,by go_num,by rw [Hnext.out,List.map_append];exact hown2,Hv4.out⟩
    case measure=>simp [intOf];omega
  · obtain rfl:k=hi - lo:=by omega
    have hltI:¬((lo+(hi - lo):Nat):Int) < (hi:Int):=by omega
    have hmap:((rs.drop lo).take (hi - lo)).map sv=(((rs.drop lo).take (hi - lo)).map fun n:Nat=>(n:Int)).map (Value.int .i64):=by rw [List.map_map];rfl
    rw [hmap] at hown
    obtain ⟨A,c,rfl,hsrt⟩:=SortOwn_any w.heap.size _ (hi - lo) _ wr hown (by rw [List.length_map,List.length_take,List.length_drop,Hrl.out];omega) (by omega)
    have hown9:=hown
    rw [Hsort.out] at hsrt
    have hlt9:∀b,(Value.slice A (hi - lo) c).ownBlock=some b→w.heap.size≤b:=fun b hb=>(hown9.lt b hb).1
    have Hv:=lhd hv
    have Hsrt:=lhd hsrt
    have Hlt9:=lhd hlt9
    clear hown hown9 hv hsrt hlt9 hlt hmap
    go_wp2_with fail
    refine Hsrt.out.mono ?_
    rintro e w3 ⟨rfl,hown3,hk3⟩
    have hb3:Below w.heap.size wr w3:=hk3.to_below Hv.out.1.size (fun b hb e=>by have:=Hlt9.out b e;omega)
    have hv4:=VB.grow Hv.out hb3
    rw [List.map_map] at hown3
    obtain ⟨A9,c9,e9,hm9⟩:=made_of_own hown3
    cases e9
    have Hm9:=lhd hm9
    have Hv4:=lhd hv4
    clear hown3 hk3 hb3 hv4 hm9
    go_wp2_with fail
    go_ret
    exact ⟨A,c,by rw [Hlen.out];rfl,by rw [Hlen.out];exact Hm9.out,Hv4.out⟩
def TxtAt (w:World) (B gl:Nat) (t:List UInt8):Prop:=∃rs,IsSuf (symL t) rs∧LvW w B gl (lastL (symL t) rs)∧t.length≤127
theorem TxtAt.vis {w w':World} {B gl:Nat} {t:List UInt8} (h:TxtAt w B gl t) (k:Vis w w'):TxtAt w' B gl t:=by
 obtain ⟨rs,h1,h2,h3⟩:=h
 exact ⟨rs,h1,h2.vis k,h3⟩
theorem TxtAt.mono {w:World} {B B' gl:Nat} {t:List UInt8} (h:TxtAt w B gl t) (hB:B'≤B):TxtAt w B' gl t:=by
 obtain ⟨rs,h1,⟨gk,r1,r2,r3,h2,h4⟩,h3⟩:=h
 exact ⟨rs,h1,⟨gk,r1,r2,r3,h2,h4.mono hB⟩,h3⟩
theorem TxtAt.le {w:World} {B gl:Nat} {t:List UInt8} (h:TxtAt w B gl t):t.length≤127:=by
 obtain ⟨rs,h1,h2,h3⟩:=h
 exact h3
end Go.Proofs.YtipaccakmndkgaaGreatDoor
namespace Go.Proofs.YtipaccakmndkgaaGreatDoor
open Go.RowKit Go.Shelf
open Go.Sort (Holds)
theorem PermMove2_any (gb gp:Nat) (A:Option Addr) (n c:Nat) (C:List (Nat×Nat)) (a b:Nat) (W:World) (h:PRd W gb gp A n c C) (ha:a < C.length) (hb:b < C.length):
 Calls Tryz.prog 205 #[.int .i64 (a:Int),.int .i64 (b:Int),.pointer (some ⟨gb,0,none⟩)] W fun e w'=>e=.returned (.int .i64 (Lib.compareInt ((rowK C a:Nat):Int) ((rowK C b:Nat):Int)))∧∃q,w'=W.drewN q:=by
 obtain ⟨han,b0,off,rfl,h1,h2⟩:=h.at ha
 obtain ⟨hbn,b1,off1,e1,h3,h4⟩:=h.at hb
 injection e1 with e1
 injection e1 with e1 e2
 subst e1 e2
 have c0:=h.box
 have c1:=h.sl
 obtain ⟨x,hx⟩:∃x,rowK C a=x:=⟨_,rfl⟩
 obtain ⟨y,hy⟩:∃y,rowK C b=y:=⟨_,rfl⟩
 rw [hx] at h1⊢
 rw [hy] at h3⊢
 obtain ⟨r,hr⟩:∃r,Lib.compareInt (x:Int) (y:Int)=r:=⟨_,rfl⟩
 have kc:∀q:Nat,Calls Tryz.prog 185 #[.int .i64 (x:Int),.int .i64 (y:Int)] (W.drewN q) fun e w'=>e=.returned (.int .i64 r)∧∃q',w'=W.drewN q':=fun q=>by
  have hcmp:=AnyG.cmp_Compare_int shCmp (x:Int) (y:Int) (W.drewN q)
  rw [hr] at hcmp
  exact Calls.mono hcmp fun _ _ ⟨he,hq⟩=>⟨he,q,hq⟩
 rw [hr]
 clear h h2 h4 hx hy hr
 go_enter Tryz.func205,Tryz.ntmps205
 go_wp2_with fail
 go_quiet ((with_reducible exact kc _))
 go_wp2_with fail
 go_ret
 exact ⟨rfl,_,rfl⟩
theorem mvR_inj {a t r s:Nat} (h:mvR a t r=mvR a t s):r=s:=by
 unfold mvR inR outR at h
 by_cases c1:r=a
 · by_cases c2:s=a
   · omega
   · rw [if_pos c1,if_neg c2] at h
     split at h <;> split at h <;> omega
 · by_cases c2:s=a
   · rw [if_neg c1,if_pos c2] at h
     split at h <;> split at h <;> omega
   · rw [if_neg c1,if_neg c2] at h
     split at h <;> split at h <;> split at h <;> split at h <;> omega
theorem mvR_lt {a t r R:Nat} (ha:a < R) (ht:t < R) (hr:r < R):mvR a t r < R:=by
 unfold mvR inR outR
 split
 · exact ht
 · split <;> split <;> omega
theorem PermX.drewN {w:World} {F:Nat→Prop} {gp ga:Nat} {vl vo vt vf:Value} {R P:Nat} {ks:List Nat} {C:List (Nat×Nat)} {tk:List Bool} {fr:List Nat} (h:PermX w F gp ga vl vo vt vf R P ks C tk fr) (q:Nat):PermX (w.drewN q) F gp ga vl vo vt vf R P ks C tk fr:=
 { h with at_:=h.at_.below (below_drewN (Below.refl _ _) _)}
theorem PermX.sorted {w w':World} {F:Nat→Prop} {gp ga:Nat} {vl vo vt vf:Value} {R P:Nat} {ks ks':List Nat} {C:List (Nat×Nat)} {tk:List Bool} {fr:List Nat} (h:PermX w F gp ga vl vo vt vf R P ks C tk fr) (hp:ks'.Perm ks) (k:Keep (fun b=>vo.ownBlock=some b) w w') (ho:w'.ownsRow 0 3 1 vo ks.length (ks'.map sv)):PermX w' F gp ga vl vo vt vf R P ks' C tk fr:=by
 have a:=h.at_
 have hne:∀b t cs,Bk w b t cs→t≠3→¬(vo.ownBlock=some b):=fun b t cs hb ht e=>by
  obtain ⟨cs',hc⟩:=own_ty a.orow e
  exact ht (bk_inj hb hc).1
 refine { h with at_:=⟨k.bk a.blk (hne _ _ _ a.blk (by decide)),own_same a.lrow fun b cs _ hb=>k.bk hb (hne _ _ _ hb (by decide)),by rw [hp.length_eq];exact ho,k.bk a.ar (hne _ _ _ a.ar (by decide)),own_same a.trow fun b cs _ hb=>k.bk hb (hne _ _ _ hb (by decide)),own_same a.frow fun b cs hb hk=>k.bk hk fun e=>?_,a.apart,fun x hx=>a.lt x (hp.subset hx),a.lo⟩,nd:=hp.nodup_iff.2 h.nd,tkk:=fun x=>(h.tkk x).trans hp.mem_iff.symm }
 rcases a.apart with f | f
 · rw [f] at e
   cases e
 · exact f (e.trans hb.symm)
theorem PermSort_any (F:Nat→Prop) (gp ga gb R P:Nat) (vl vo vt vf:Value) (ks:List Nat) (C:List (Nat×Nat)) (tk:List Bool) (fr:List Nat) (w:World) (h:PermX w F gp ga vl vo vt vf R P ks C tk fr) (hb:Bk w gb 85 #[.pointer (some ⟨gp,0,none⟩)]) (hne:ks≠ []) (hinj:∀x∈ks,∀y∈ks,rowK C x=rowK C y→x=y):
 ∃A c,vo=.slice A ks.length c∧Calls Tryz.prog 119 #[.slice A ks.length c,.func (.func 205) #[] #[.pointer (some ⟨gb,0,none⟩)]] w fun e w'=>e=.returned (.tuple #[])∧∃ks',ks'.Perm ks∧ks'.Pairwise (fun a b=>rowK C a < rowK C b)∧PermX w' F gp ga vl vo vt vf R P ks' C tk fr∧Keep F w w':=by
 have hl0:0 < ks.length:=List.length_pos_iff.2 hne
 have a:=h.at_
 obtain ⟨g,c,e,_,hgl⟩:=World.ownsRow.form a.orow hl0
 refine ⟨_,c,e,?_⟩
 have ho:=a.orow
 rw [e] at ho
 obtain ⟨cs,hg,hcs,hnc,hm,hBg,hcell⟩:=own_cells ho hl0
 obtain ⟨k0,hk0⟩:∃k,k∈ks:=List.exists_mem_of_length_pos hl0
 obtain ⟨cc,hcc⟩:∃cc,C.length=cc+1:=⟨C.length - 1,by have:=a.lt k0 hk0;omega⟩
 have hlt':∀k∈ks,k < cc+1:=fun k hk=>by rw [←hcc];exact a.lt k hk
 have hz9:(ordA cc ks).size=ks.length:=by simp [ordA]
 have hH:=ordA_holds (c:=cc) hg hlt' (ei_take_ext (by simp) (by omega) hcell)
 obtain ⟨A1,n1,c1,ev,hprd⟩:=a.prd (hb.cell 0) (Below.refl w.heap.size w)
 have hcmp:CmpReads Tryz.prog 205 #[.pointer (some ⟨gb,0,none⟩)] (encF cc) (cfK cc (rowK C)) g 0 (ordA cc ks).size w:=fun q os dk hdk x y=>by
  have k:=sort_keep (enc:=encF cc) (w:=w) hgl 0 q dk os
  have hbne:∀b t cs',Bk w b t cs'→t≠3→¬(b=g):=fun b t cs' hb' ht e'=>by
   subst e'
   exact ht (bk_inj hb' hg).1
  have hp':PRd (sortWorld (encF cc) w g 0 q dk os) gb gp A1 n1 c1 C:=by
   refine ⟨((k.bk hb (hbne _ _ _ hb (by decide))).cell 0).trans rfl,((k.bk a.blk (hbne _ _ _ a.blk (by decide))).cell 1).trans (by rw [ev];rfl),?_⟩
   have hl:=own_same (w':=sortWorld (encF cc) w g 0 q dk os) a.lrow fun b cs' _ hk=>k.bk hk (hbne _ _ _ hk (by decide))
   rw [ev] at hl
   have h8:=own_shape a.lrow
   obtain ⟨A8,c8,e8,_⟩:=h8
   rw [ev] at e8
   injection e8 with e81 e82 e83
   subst e82
   exact Rd.of_own hl
  exact PermMove2_any gb gp A1 n1 c1 C x.val y.val _ hp' (by rw [hcc];exact x.isLt) (by rw [hcc];exact y.isLt)
 have hsort:=Any.slices_SortFunc shSort (encF cc) (oneCell_encF cc) (cfK cc (rowK C)) (swo_cfK cc (rowK C)) 205 #[.pointer (some ⟨gb,0,none⟩)] g 0 c (ordA cc ks) w (enters_of Tryz.func205 (by kernel_rfl) rfl) hcmp.lays hH hgl (by rw [hz9];have:=ks_len h.nd a.lt;have:=h.sz;omega)
 rw [hz9] at hsort
 refine hsort.mono ?_
 rintro e9 w' ⟨rfl,d',nq,os,hperm,hsrt,rfl⟩
 obtain ⟨hp1,hp2⟩:=sorted_vals (f:=rowK C) hlt' (by rw [hz9];exact hperm) (by rw [hz9];exact hsrt) h.nd hinj
 have hds:d'.size=ks.length:=by rw [hperm.1,hz9]
 have hk:=sort_keep (enc:=encF cc) (w:=w) hgl 0 nq d' os
 have hown:=sort_own (base:=0) (k:=nq) (os:=os) d' hds hg (Nat.zero_le _) hnc hm hcs
 have hfo:F g:=h.fo g (by rw [e];rfl)
 exact ⟨rfl,_,hp1,hp2,h.sorted hp1 (hk.mono fun b _ e'=>by rw [e,show b=g from e'];rfl) (by rw [e];exact hown),hk.mono fun b _ e'=>by rw [show b=g from e'];exact hfo⟩
theorem PermRowMove_any (F:Nat→Prop) (gp R P z0 z1:Nat) (pr:List (Nat×Nat)) (w:World) (h:PermE w F gp R P pr) (hz0:z0 < R) (hz1:z1 < R) (hR:R≤100000) (hP:P≤100000) (hne:pr≠ []):
 Calls Tryz.prog 141 #[.pointer (some ⟨gp,0,none⟩),.int .i64 (z0:Int),.int .i64 (z1:Int)] w fun e w'=>e=.returned (.int .i64 0)∧(∃pr',pr'.Perm (pr.map fun x=>(mvR z0 z1 x.1,x.2))∧PermE w' F gp R P pr')∧Keep F w w':=by
 obtain ⟨⟨ga,vl,vo,vt,vf,ks,C,tk,fr,hx,rfl⟩,hsort,hbd⟩:=h
 have hat:=hx.at_
 have hkne:ks≠ []:=fun e=>hne (by rw [e];rfl)
 have hgp:=hat.blk.lt
 have hn0:decide ((z0:Int) < 0)=false:=by simp
 have hn1:decide ((z1:Int) < 0)=false:=by simp
 have hn2:¬R≤z0:=by omega
 have hn3:¬R≤z1:=by omega
 have hn4:¬(z0:Int)≥(R:Int):=by omega
 have hn5:¬(z1:Int)≥(R:Int):=by omega
 obtain ⟨w1,hw1⟩:∃w1,((w.alloc (.cells #[.pointer (some ⟨gp,0,none⟩)] 85)).alloc (.cells #[.int .i64 (z0:Int)] 3)).alloc (.cells #[.int .i64 (z1:Int)] 3)=w1:=⟨_,rfl⟩
 have hb1:Below w.heap.size w w1:=by
  rw [←hw1]
  exact (((Below.refl _ _).alloc (Nat.le_refl _) _).alloc (by simp) _).alloc (by simp;omega) _
 have hbp:Bk w1 w.heap.size 85 #[.pointer (some ⟨gp,0,none⟩)]:=by
  rw [←hw1]
  exact ((Bk.new w _ _).alloc _).alloc _
 have hbx0:Bk w1 (w.heap.size+1) 3 #[.int .i64 (z0:Int)]:=by
  rw [←hw1]
  have:=(Bk.new (w.alloc (.cells #[.pointer (some ⟨gp,0,none⟩)] 85)) 3 #[.int .i64 (z0:Int)]).alloc (.cells #[.int .i64 (z1:Int)] 3)
  simpa using this
 have hbx1:Bk w1 (w.heap.size+2) 3 #[.int .i64 (z1:Int)]:=by
  rw [←hw1]
  have:=Bk.new ((w.alloc (.cells #[.pointer (some ⟨gp,0,none⟩)] 85)).alloc (.cells #[.int .i64 (z0:Int)] 3)) 3 #[.int .i64 (z1:Int)]
  simpa using this
 have hat1:PermX w1 F gp ga vl vo vt vf R P ks C tk fr:= { hx with at_:=hat.below hb1 }
 have hvl:∀b,vl.ownBlock=some b→b < w.heap.size:=fun b hb=>(hat.lrow.lt b hb).2
 have q0:∀q,(w1.drewN q).cell? ⟨w.heap.size,0,none⟩=some (.pointer (some ⟨gp,0,none⟩)):=fun q=>(hbp.cell 0).trans rfl
 have q1:∀q,(w1.drewN q).cell? ⟨w.heap.size+1,0,none⟩=some (.int .i64 (z0:Int)):=fun q=>(hbx0.cell 0).trans rfl
 have q2:∀q,(w1.drewN q).cell? ⟨w.heap.size+2,0,none⟩=some (.int .i64 (z1:Int)):=fun q=>(hbx1.cell 0).trans rfl
 have r0:w1.cell? ⟨w.heap.size,0,none⟩=some (.pointer (some ⟨gp,0,none⟩)):=(hbp.cell 0).trans rfl
 have r1:w1.cell? ⟨w.heap.size+1,0,none⟩=some (.int .i64 (z0:Int)):=(hbx0.cell 0).trans rfl
 have r2:w1.cell? ⟨w.heap.size+2,0,none⟩=some (.int .i64 (z1:Int)):=(hbx1.cell 0).trans rfl
 have q3:w1.cell? ⟨gp,3,none⟩=some (.int .i64 (R:Int)):=(hat1.at_.blk.cell 3).trans rfl
 have hgp1:=hat1.at_.blk.lt
 have hC:∀k,k∈ks→rowK C k < R∧posK C k < P:=fun k hk=>hbd (rowK C k,posK C k) (List.mem_map.2 ⟨k,hk,rfl⟩)
 have hinj:∀x∈ks,∀y∈ks,rowK C x=rowK C y→x=y:=fun x hx' y hy e=>by
  have hpw:=List.pairwise_map.1 hsort
  obtain ⟨i,hi,rfl⟩:=List.getElem_of_mem hx'
  obtain ⟨j,hj,rfl⟩:=List.getElem_of_mem hy
  rcases Nat.lt_trichotomy i j with h1 | h1 | h1
  · have h2:rowK C ks[i] < rowK C ks[j]:=List.pairwise_iff_getElem.1 hpw i j hi hj h1
    omega
  · subst h1
    rfl
  · have h2:rowK C ks[j] < rowK C ks[i]:=List.pairwise_iff_getElem.1 hpw j i hj hi h1
    omega
 have HX:=lhd hat1
 have HC:=lhd hC
 have Hinj:=lhd hinj
 have Hb1:=lhd hb1
 have Hbp:=lhd hbp
 have Hbx0:=lhd hbx0
 have Hbx1:=lhd hbx1
 have Hw1:=lhd hw1
 have Hvl:=lhd hvl
 have Hkne:=lhd hkne
 clear hx hat hsort hbd hat1 hC hinj hb1 hbp hbx0 hbx1 hw1 hvl hkne hne
 go_enter Tryz.func141,Tryz.ntmps141
 go_wp2_with fail
 rw [Hw1.out]
 go_quiet (fail)
 rename_i nq
 have hmf:∀(fn:Fn) (first cap:Array Value) (w:World),(Instr.makeFunc fn first cap).run Tryz.prog w=.ok (.func fn first cap) w:=fun _ _ _ _=>rfl
 go_wp2_with fail
 have hat2:=HX.out.drewN nq
 have hkl:=ks_len hat2.nd hat2.at_.lt
 refine (EachRowMove_any 0 gp ga (w.heap.size+1) (w.heap.size+2) z0 z1 vl vo vt vf R P ks C tk fr _ hat2.at_ hat2.nd (by have:=hat2.sz;omega) (Hbx0.out.drewN nq) (fun b hb e=>by have:=Hvl.out b hb;omega) (Hbx1.out.drewN nq) (fun b hb e=>by have:=Hvl.out b hb;omega) (fun k hk=>by have:=HC.out k hk;omega)).mono ?_
 rintro e w2 ⟨rfl,hk2,C',hl',hf',hat3⟩
 have hrow:∀k,k∈ks→rowK C' k=mvR z0 z1 (rowK C k):=fun k hk=>(Prod.mk.inj (hf' k hk)).1
 have hX3:PermX w2 F gp ga vl vo vt vf R P ks C' tk fr:=⟨hat3,HX.out.fp,HX.out.fa,HX.out.fl,HX.out.fo,HX.out.ft,HX.out.ff,HX.out.nd,by rw [hl'];exact HX.out.tkl,HX.out.tkk,HX.out.frn,HX.out.frk,by rw [hl'];exact HX.out.sz⟩
 have hbp2:Bk w2 w.heap.size 85 #[.pointer (some ⟨gp,0,none⟩)]:=hk2.bk (Hbp.out.drewN nq) fun e=>by
  have:=Hvl.out _ e
  omega
 have hkF:Keep F w w2:=(Keep.of_below (below_drewN Hb1.out nq)).trans (hk2.mono fun b _ hb=>HX.out.fl b hb)
 obtain ⟨Ao,co,evo,hcall⟩:=PermSort_any F gp ga w.heap.size R P vl vo vt vf ks C' tk fr w2 hX3 hbp2 Hkne.out (fun x hx y hy e=>Hinj.out x hx y hy (mvR_inj (by rw [←hrow x hx,←hrow y hy,e])))
 have c2:w2.cell? ⟨gp,2,none⟩=some (.slice Ao ks.length co):=(hX3.at_.blk.cell 2).trans (by rw [evo];rfl)
 have s0:w2.cell? ⟨w.heap.size,0,none⟩=some (.pointer (some ⟨gp,0,none⟩)):=(hbp2.cell 0).trans rfl
 have hgp2:=hX3.at_.blk.lt
 have HkF:=lhd hkF
 have Hf':=lhd hf'
 have Hcall:=lhd hcall
 clear hkF hf' hcall hX3 hbp2 hk2 hl' hat3 hrow hat2 hkl r0 r1 r2 q0 q1 q2 q3 evo
 go_wp2_with fail
 refine Hcall.out.mono ?_
 rintro e w3 ⟨rfl,ks',hp1,hp2,hX4,hk4⟩
 have hfin:(∃pr',pr'.Perm ((ks.map fun k=>(rowK C k,posK C k)).map fun x=>(mvR z0 z1 x.1,x.2))∧PermE w3 F gp R P pr')∧Keep F w w3:=by
  refine ⟨⟨_,?_,⟨ga,vl,vo,vt,vf,ks',C',tk,fr,hX4,rfl⟩,List.pairwise_map.2 hp2,fun x hx=>?_⟩,HkF.out.trans hk4⟩
  · refine (hp1.map _).trans ?_
    rw [List.map_map]
    refine List.Perm.of_eq (List.map_congr_left fun k hk=>?_)
    exact Hf'.out k hk
  · obtain ⟨k,hk,rfl⟩:=List.mem_map.1 hx
    have hkk:=hp1.subset hk
    have h1:=HC.out k hkk
    rw [Hf'.out k hkk]
    exact ⟨mvR_lt hz0 hz1 h1.1,h1.2⟩
 have Hfin:=lhd hfin
 clear hfin hX4 hk4 hp1 hp2 c2 s0
 go_wp2_with fail
 go_ret
 exact ⟨rfl,Hfin.out.1,Hfin.out.2⟩
end Go.Proofs.YtipaccakmndkgaaGreatDoor
namespace Go.Proofs.YtipaccakmndkgaaGreatDoor
section
variable {S R : List Nat} {N : Nat}
end
end Go.Proofs.YtipaccakmndkgaaGreatDoor
namespace Go.Proofs.YtipaccakmndkgaaGreatDoor
open Go.RowKit
theorem LiveRate_any (Bw gl gk gp n rate:Nat) (L:List Nat) (C:List (Nat×Nat)) (w:World) (h:LiveG w Bw gl gk gp rate n L C):
 Calls Tryz.prog 25 #[.pointer (some ⟨gl,0,none⟩)] w fun e w'=>e=.returned (.int .i64 (rate:Int))∧w=w':=by
 obtain ⟨mv,hblk⟩:=h.blk
 have c2:=hblk.cell 2
 clear h hblk
 go_enter Tryz.func25,Tryz.ntmps25
 go_wp2_with fail
 go_ret
 exact ⟨rfl,rfl⟩
theorem sv_iv (L:List Nat):L.map sv=(symsI L).map iv:=by
 unfold symsI
 rw [List.map_map]
 rfl
def SavePost (w:World) (Bw:Nat) (bs:List UInt8) (e:Ending) (w':World):Prop:=
 ∃A' c',e=.returned (.tuple #[.slice A' bs.length c',.int .i64 0])∧Made w' w.heap.size 5 1 A' bs.length c' (bs.map bv)∧VB Bw w w'
theorem SnapSave_any (Bw gl gk gp rate most:Nat) (t:List UInt8) (rs:List Nat) (C:List (Nat×Nat)) (w:World) (hl:LiveG w Bw gl gk gp rate (t.length+1) (lastL (symL t) rs) C) (hrt:∀x∈C,rs[x.1]?=some x.2) (hs:IsSuf (symL t) rs) (hn:t.length≤127) (hr1:1≤rate) (hr2:rate≤64) (hm1:t.length≤most) (hm2:most≤2147483648):
 Calls Tryz.prog 20 #[.pointer (some ⟨gl,0,none⟩),.int .i64 (most:Int)] w (SavePost w Bw (snapB (lastL (symL t) rs) rs most rate t.length)):=by
 obtain ⟨i0,hi0,hz0,hz1,hz2⟩:=info_parts num_u8_info
 obtain ⟨L,hL⟩:∃L,lastL (symL t) rs=L:=⟨_,rfl⟩
 have hlt:=lastL_lt (rs:=rs) (symL_lt t)
 have hlen:L.length=t.length+1:=by rw [←hL,lastL_len,hs.len,symL_len]
 have hrow:∀k w1,VB Bw w w1→k*rate≤t.length→Calls Tryz.prog 56 #[.pointer (some ⟨gl,0,none⟩),.int .i64 ((k*rate:Nat):Int)] w1 fun e w'=>e=.returned (.int .i64 ((rs.idxOf (k*rate):Nat):Int))∧VB Bw w1 w':=fun k w1 hv hk=>by
  have hmem:k*rate∈rs:=hs.mem (by rw [symL_len];omega)
  exact LiveRowG_any Bw gl gk gp rate t rs C (rs.idxOf (k*rate)) (k*rate) w1 (hl.vis hv.1) hrt hs hn (List.getElem?_eq_some_iff.2 ⟨List.idxOf_lt_length_iff.2 hmem,List.getElem_idxOf _⟩)
 rw [hL] at hl hlt⊢
 obtain ⟨N,hN⟩:∃N,t.length=N:=⟨_,rfl⟩
 have hil:∀x,rs.idxOf x≤128:=fun x=>by
  have:=List.idxOf_le_length (a:=x) (l:=rs)
  rw [hs.len,symL_len] at this
  omega
 have hlast:=LiveLast_any Bw gl gk gp (t.length+1) rate L _ w hl hlt (by omega)
 unfold WAllPost at hlast
 rw [hN] at hlen hrow hm1 hn⊢
 rw [hlen] at hlast
 have hlv:=hl.lvw
 have hput:=firstB_put hlt
 have hfl:=firstB_len L
 rw [hlen] at hfl
 have Hl:=lhd hl
 have Hlv:=lhd hlv
 have Hrow:=lhd hrow
 have Hlt:=lhd hlt
 have Hlen:=lhd hlen
 have Hput:=lhd hput
 have Hil:=lhd hil
 have n3:¬most < N:=by omega
 have n4:decide (most < N)=false:=decide_eq_false n3
 have n5:¬((most:Int) > 2147483648):=by omega
 have n6:decide ((most:Int) > 2147483648)=false:=decide_eq_false n5
 have hw0:0 < w.heap.size:=Nat.lt_of_le_of_lt (Nat.zero_le _) hl.lt
 clear hrt hl hlv hrow hlt hlen hput hL hs hN hil
 unfold SavePost
 go_enter Tryz.func20,Tryz.ntmps20
 go_wp2_with fail
 refine (LiveLen_any Bw gl _ N w Hlv.out Hlen.out (by omega)).mono ?_
 rintro e w1 ⟨rfl,rfl⟩
 go_wp2_with fail
 refine hlast.mono ?_
 clear hlast
 rintro e w1 ⟨A1,c1,rfl,hm1',hv1⟩
 have hrp:=RunPut_any A1 (N+1) c1 w1.heap.size (symsI L) w1 (by rw [←sv_iv];exact hm1'.rd) (Nat.le_refl _) (by omega)
 rw [Hput.out] at hrp
 have Hv1:=lhd hv1
 clear hm1' hv1
 go_wp2_with fail
 refine hrp.mono ?_
 clear hrp
 rintro e w2 ⟨hpt,hb2⟩
 obtain ⟨bs,A2,c2,hbs,rfl,hm2'⟩:=hpt.resolve_right (fun ⟨hno,_⟩=>by cases hno)
 injection hbs with hbs
 obtain ⟨k2,hk2⟩:∃k2,(firstB L).length=k2:=⟨_,rfl⟩
 rw [←hbs,hk2] at hm2'
 rw [←hbs,hk2]
 rw [hk2] at hfl
 have hv2:VB Bw w w2:=Hv1.out.below hb2
 have Hv2:=lhd hv2
 have Hm2:=lhd (hm2'.mono (B':=w.heap.size) Hv1.out.1.size)
 have Hk2:=lhd hk2
 clear hb2 hbs hm2' hk2 hv2 Hv1
 go_wp2_with fail
 go_loopw [8,9] (fun v i wr=>∃k q:Nat,k≤N / rate+1∧i=.int .i64 ((k*rate:Nat):Int)∧wr.ownsRow w2.heap.size 5 1 v q ((secK rs rate k).map bv)∧VB Bw w2 wr) (fun _ i _=>(N+65 -(intOf i).toNat))
 case atStart=>exact ⟨0,0,Nat.zero_le _,by simp,World.ownsRow_nil _ _ _ _,VisK.refl _ _⟩
 case round=>
  obtain ⟨k,q,hk,rfl,hown,hv⟩:=hrel
  have hq:q≤1500:=by
   have h1:=hown.1
   have h2:=secK_len rs rate k
   have h3:N / rate≤N:=Nat.div_le_self _ _
   simp at h1
   omega
  obtain ⟨p,hp⟩:∃p,k*rate=p:=⟨_,rfl⟩
  have hvw:=Hv2.out.trans hv
  have hlen1:=LiveLen_any Bw gl _ N wr (Hl.out.vis hvw.1).lvw Hlen.out (by omega)
  have hsz:=hvw.1.size
  have hsz2:=hv.1.size
  by_cases hlt:p≤N
  · have hrow1:=Hrow.out k wr hvw (by omega)
    have hnext:=secK_succ rs rate k
    obtain ⟨x,hx⟩:∃x,rs.idxOf (k*rate)=x:=⟨_,rfl⟩
    have hxl:x≤128:=by rw [←hx];exact Hil.out _
    have hnk:=next_k hr1 (by omega:k*rate≤N)
    have hpn:(k+1)*rate=p+rate:=by rw [Nat.add_mul,hp,Nat.one_mul]
    rw [hx] at hrow1 hnext
    rw [hp] at hrow1
    rw [hp]
    obtain ⟨kx,hkx⟩:∃kx,(encB x).length=kx:=⟨_,rfl⟩
    have hkx1:kx≤11:=by rw [←hkx];exact encB_len x
    have hpl:p≤127:=by omega
    have Hnext:=lhd hnext
    have Hkx:=lhd hkx
    have Hv:=lhd hv
    have Hown:=lhd hown
    clear hnext hkx hv hown hvw hx
    go_wp2_with fail
    refine hlen1.mono ?_
    clear hlen1
    rintro e w3 ⟨rfl,rfl⟩
    go_wp2_with fail
    refine hrow1.mono ?_
    clear hrow1
    rintro e w3 ⟨rfl,hv3⟩
    have hown3:=hv3.1.own Hown.out (by decide) (by decide)
    have Hown3:=lhd hown3
    have hvv3:=Hv.out.trans hv3
    have hsz3:=hv3.1.size
    have Hv3:=lhd hvv3
    clear hown3 hv3 hvv3 Hown Hv
    go_wp2_with fail
    refine (Put_is _ _ _ _ [x] _ (encB x) kx (encAll_one x) Hkx.out (Rd.made _ _ 1 1 _ rfl) (Nat.le_refl _) (by simp;omega) (by omega)).mono ?_
    rintro e w4 ⟨A4,c4,rfl,hm4,hb4⟩
    have hb34:=((Below.refl w3.heap.size w3).alloc (Nat.le_refl _) (.cells #[.int .u64 (x:Int)] 105)).trans (hb4.mono (by simp))
    have hown4:w4.ownsRow w2.heap.size 5 1 u8 q ((secK rs rate k).map bv):=own_below (Hown3.out) hb34
    have hs4:=hb34.size
    have Hr4:=lhd hm4.rd
    have Hone:=lhd (oneCell_bv (encB x))
    have hv4:=Hv3.out.below hb34
    have hs40:w2.heap.size≤w4.heap.size:=by omega
    have Hv4:=lhd hv4
    clear hm4 hb4 hb34 Hown3 Hv3 hv4
    go_wp2_with (at_builtin;refine wpList_append_rd _ rfl (.tmp 41) (.tmp 47) _ rfl w2.heap.size 5 i0 (.int .u8 0) 1 1 Tryz.underlying23 hi0 hz0 hz1 hz2 rfl (by decide) u8 q _ rfl hown4 w4.heap.size A4 kx c4 _ rfl Hr4.out Hone.out (by unfold maxLen;omega) (by omega) hs40 ?_;intro v5 w5 hown5 hg5 hat5)
    have hb45:=below_grown (Below.refl w2.heap.size w4) hown4 hg5 hs40
    have hv5:=VB.grow Hv4.out hb45
    have Hv5:=lhd hv5
    have Hown5:=lhd hown5
    clear hown4 hown5 hg5 hat5 hb45 hv5 Hv4
    have hrate:=LiveRate_any Bw gl gk gp _ rate L _ w5 (Hl.out.vis (Hv2.out.trans Hv5.out).1)
    go_wp2_with fail
    refine hrate.mono ?_
    clear hrate
    rintro e w6 ⟨rfl,rfl⟩
    have hadd:IntKind.i64.wrap ((p:Int)+(rate:Int))=((p+rate:Nat):Int):=by rw [IntKind.wrap_i64];omega
    go_wp2_with fail
    go_roundw
    case rel=>
        refine ⟨k+1,q+kx,hnk,?_,?_,Hv5.out⟩
        · rw [hpn]
          first | rfl | exact i64_eq (by omega)
        · rw [Hnext.out,List.map_append]
          exact Hown5.out
    case measure=>simp [intOf];omega
  · go_wp2_with fail
    refine hlen1.mono ?_
    clear hlen1
    rintro e w3 ⟨rfl,rfl⟩
    have hks:=last_k hr1 hk (by omega)
    subst hks
    rw [←secB_eq] at hown
    have Hown:=lhd hown
    have Hv:=lhd hv
    clear hown hv hvw
    go_wp2_with fail
    refine (LiveRate_any Bw gl gk gp _ rate L _ wr (Hl.out.vis (Hv2.out.trans Hv.out).1)).mono ?_
    rintro e w3 ⟨rfl,rfl⟩
    go_wp2_with fail
    refine (LiveLen_any Bw gl _ N wr (Hl.out.vis (Hv2.out.trans Hv.out).1).lvw Hlen.out (by omega)).mono ?_
    rintro e w3 ⟨rfl,rfl⟩
    go_wp2_with fail
    obtain ⟨kh,hkh⟩:∃kh,(encAll [most,rate,N]).length=kh:=⟨_,rfl⟩
    have hkh1:kh≤33:=by
        rw [←hkh]
        have:=encAll_len [most,rate,N]
        simpa using this
    have Hkh:=lhd hkh
    clear hkh
    refine (Put_is _ _ _ _ [most,rate,N] _ (encAll [most,rate,N]) kh rfl Hkh.out (Rd.made _ _ 1 3 _ rfl) (Nat.le_refl _) (by simp;omega) (by omega)).mono ?_
    rintro e w4 ⟨A4,c4,rfl,hm4,hb4⟩
    have hb34:=((Below.refl wr.heap.size wr).alloc (Nat.le_refl _) (.cells #[.int .u64 (most:Int),.int .u64 (rate:Int),.int .u64 (N:Int)] 105)).trans (hb4.mono (by simp))
    have hs4:=hb34.size
    have hown4:w4.ownsRow w2.heap.size 5 1 u8 q ((secB rs rate N).map bv):=own_below (Hown.out) hb34
    have hown2:w4.ownsRow w.heap.size 5 1 (.slice A2 k2 c2) k2 ((firstB L).map bv):=own_below (Hv.out.1.own Hm2.out.own (by decide) (by decide)) hb34
    obtain ⟨A3,c3,rfl,hm3⟩:=made_of_own hown4
    have Hm3:=lhd hm3.rd
    have Hr2:=lhd (Rd.of_own hown2)
    have Hr4:=lhd hm4.rd
    have Hv4:=lhd ((Hv2.out.trans Hv.out).below hb34)
    have hq3:(secB rs rate N).length=q:=by have:=hown4.1;simpa using this
    clear hm4 hb4 hb34 hown4 hown2 hm3 Hown Hm2 Hv
    have kc:=str_const w4
    go_wp2_with fail
    have hmk:=rd_mark w4 5 #[.int .u8 83,.int .u8 75,.int .u8 82,.int .u8 49] (4,5) 4 rfl
    obtain ⟨gm,hgm⟩:∃g,w4.heap.size=g:=⟨_,rfl⟩
    rw [hgm] at hmk
    have hb45:Below w4.heap.size w4 (w4.alloc (.cells #[.int .u8 83,.int .u8 75,.int .u8 82,.int .u8 49] 5 (4,5))):=(Below.refl w4.heap.size w4).alloc (Nat.le_refl _) _
    have hs45:(w4.alloc (.cells #[.int .u8 83,.int .u8 75,.int .u8 82,.int .u8 49] 5 (4,5))).heap.size=gm+1:=by simp [hgm]
    have hR2:=Hr2.out.below hb45
    have hR3:=Hm3.out.below hb45
    have hR4:=Hr4.out.below hb45
    have hV5:=Hv4.out.below hb45
    rw [hgm] at hR2 hR3 hR4 hb45 hs4⊢
    generalize w4.alloc (.cells #[.int .u8 83,.int .u8 75,.int .u8 82,.int .u8 49] 5 (4,5))=w5 at hmk hb45 hs45 hR2 hR3 hR4 hV5⊢
    have Hmk:=lhd hmk
    have HR2:=lhd hR2
    have HR3:=lhd hR3
    have HR4:=lhd hR4
    have HV5:=lhd hV5
    clear hmk hR2 hR3 hR4 hV5 hb45 Hr2 Hm3 Hr4 Hv4 hgm kc
    have hN128:N / rate≤N:=Nat.div_le_self _ _
    have hq4:=secK_len rs rate (N / rate+1)
    rw [←secB_eq,hq3] at hq4
    have hq5:q≤2000:=by omega
    obtain ⟨n1,hn1⟩:∃n1,(partB (firstB L)).length=n1:=⟨_,rfl⟩
    obtain ⟨n2,hn2⟩:∃n2,(partB (secB rs rate N)).length=n2:=⟨_,rfl⟩
    have hn1l:n1≤3000:=by
        rw [←hn1,partB_len,Hk2.out]
        have:=encB_len k2
        omega
    have hn2l:n2≤3000:=by
        rw [←hn2,partB_len,hq3]
        have:=encB_len q
        omega
    have hp1:=SnapPart_any A2 k2 c2 gm (firstB L) w5 HR2.out (by omega) (by omega)
    rw [hn1] at hp1
    refine hp1.mono ?_
    clear hp1
    rintro e w6 ⟨A6,c6,rfl,hm6,hb6⟩
    have hs6:=hb6.size
    have Hmk6:=lhd (Hmk.out.below (hb6.mono (by omega)))
    have HR36:=lhd (HR3.out.below (hb6.mono (by omega)))
    have HR46:=lhd (HR4.out.below (hb6.mono (by omega)))
    have HR6:=lhd hm6.rd
    have HV6:=lhd (HV5.out.below hb6)
    clear hb6 hm6 Hmk HR2 HR3 HR4 HV5
    go_wp2_with fail
    have hp2:=SnapPart_any A3 q c3 gm (secB rs rate N) w6 HR36.out (by omega) (by omega)
    rw [hn2] at hp2
    refine hp2.mono ?_
    clear hp2
    rintro e w7 ⟨A7,c7,rfl,hm7,hb7⟩
    have hs7:=hb7.size
    have Hmk7:=lhd (Hmk6.out.below (hb7.mono (by omega)))
    have HR47:=lhd (HR46.out.below (hb7.mono (by omega)))
    have HR67:=lhd (HR6.out.below hb7)
    have HR7:=lhd hm7.rd
    have HV7:=lhd (HV6.out.below hb7)
    clear hb7 hm7 Hmk6 HR36 HR46 HR6 HV6
    go_wp2_with fail
    obtain ⟨bd,hbd⟩:∃b,bodyB L rs most rate N=b:=⟨_,rfl⟩
    obtain ⟨nb,hnb⟩:∃n,bd.length=n:=⟨_,rfl⟩
    have hnbl:nb≤10000:=by
        rw [←hnb,←hbd]
        unfold bodyB
        rw [List.length_append,List.length_append,List.length_append,Hkh.out,hn1,hn2]
        have:markB.length=4:=rfl
        omega
    have hcat:=Concat_any (some ⟨w7.heap.size,0,none⟩) 4 4 (w7.heap.size+1) [⟨some ⟨gm,0,none⟩,4,4,markB⟩,⟨A4,kh,c4,encAll [most,rate,N]⟩,⟨A6,n1,c6,partB (firstB L)⟩,⟨A7,n2,c7,partB (secB rs rate N)⟩] bd nb (by rw [←hbd];unfold bodyB;simp [catS]) hnb (w7.alloc (.cells #[.slice (some ⟨gm,0,none⟩) 4 4,.slice A4 kh c4,.slice A6 n1 c6,.slice A7 n2 c7] 23)) ((Rd.made w7 _ 1 4 _ rfl).mono (by simp)) (by
        intro s hs
        simp at hs
        rcases hs with rfl | rfl | rfl | rfl
        · exact ((Hmk7.out.mono (B':=w7.heap.size) (by omega)).alloc (Nat.le_refl _) _).mono (by omega)
        · exact ((HR47.out.mono (B':=w7.heap.size) (by omega)).alloc (Nat.le_refl _) _).mono (by omega)
        · exact ((HR67.out.mono (B':=w7.heap.size) (by omega)).alloc (Nat.le_refl _) _).mono (by omega)
        · exact (HR7.out.alloc (Nat.le_refl _) _).mono (by omega)) (by simp) (by omega) (by omega)
    refine hcat.mono ?_
    clear hcat
    rintro e w8 ⟨A8,c8,rfl,hm8,hb8⟩
    have hb78:=((Below.refl w7.heap.size w7).alloc (Nat.le_refl _) (.cells #[.slice (some ⟨gm,0,none⟩) 4 4,.slice A4 kh c4,.slice A6 n1 c6,.slice A7 n2 c7] 23)).trans (hb8.mono (by simp))
    have HV8:=lhd (HV7.out.below hb78)
    have hs8:=HV8.out.1.size
    have Hm8:=lhd (hm8.mono (B':=w.heap.size) (by simp;have:=HV7.out.1.size;omega))
    clear hm8 hb8 hb78 HV7 Hmk7 HR47 HR67 HR7
    go_wp2_with fail
    refine (CrcOf_any A8 _ nb c8 _ bd _ ((Hm8.out.rd.alloc (by omega) _).mono (by simp)) (by omega) (Rd.made _ _ 1 1 _ rfl)).mono ?_
    rintro e w9 ⟨rfl,hb9⟩
    have hb89:=((Below.refl w8.heap.size w8).alloc (Nat.le_refl _) (.cells #[.slice A8 nb c8] 23)).trans (hb9.mono (by simp))
    have Hm9:=lhd (Hm8.out.below hb89)
    have HV9:=lhd (HV8.out.below hb89)
    have hs9:=HV9.out.1.size
    clear hb9 hb89 Hm8 HV8
    go_wp2_with fail
    refine (Fixed_any (crcB bd) _).mono ?_
    rintro e w10 ⟨A10,c10,rfl,hm10,hb10⟩
    have Hm9b:=lhd (Hm9.out.below hb10)
    have HV10:=lhd (HV9.out.below hb10)
    have hs10:=HV10.out.1.size
    have HR10:=lhd hm10.rd
    have hown10:=Hm9b.out.own
    have Hone:=lhd (oneCell_bv (fixB (crcB bd)))
    clear hm10 hb10 Hm9 HV9
    go_wp2_with (at_builtin;refine wpList_append_rd _ rfl (.tmp 68) (.tmp 72) _ rfl w.heap.size 5 i0 (.int .u8 0) 1 1 Tryz.underlying23 hi0 hz0 hz1 hz2 rfl (by decide) (.slice A8 nb c8) nb _ rfl hown10 w10.heap.size A10 4 c10 _ rfl HR10.out Hone.out (by unfold maxLen;omega) (by omega) hs10 ?_;intro v11 w11 hown11 hg11 hat11)
    have hV11:=VB.grow HV10.out (below_grown (Below.refl w.heap.size w10) hown10 hg11 hs10)
    obtain ⟨A11,c11,rfl,hm11⟩:=made_of_own hown11
    go_ret2
    have hsn:snapB L rs most rate N=bd++fixB (crcB bd):=by unfold snapB;rw [hbd]
    have hsl:(snapB L rs most rate N).length=nb+4:=by rw [hsn,List.length_append,hnb,fixB_len]
    rw [hsl,hsn,List.map_append]
    exact ⟨A11,c11,rfl,hm11,hV11⟩
end Go.Proofs.YtipaccakmndkgaaGreatDoor
