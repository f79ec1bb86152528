/- The walk of where.All: the places of a pattern. Conditions: a text of at most 127 bytes, as New makes it. Texts as find's functions see them: New, Rows, Count; lists of parts. Conditions: a text of at most 127 bytes. The sampled pairs that own their blocks (PermE); the walks of RowIn and PosIn. Conditions: rows and places in order; at most 1000 numbers. -/
import Derived.Test.YtipaccakmndkgaaGreatPwa35
import Derived.Test.YtipaccakmndkgaaGreatPwa33
import Derived.Test.YtipaccakmndkgaaGreatPwa2
import Derived.Test.YtipaccakmndkgaaGreatPwa27
import Derived.Test.YtipaccakmndkgaaGreatPwa26
import Derived.Test.YtipaccakmndkgaaGreatPwa36
namespace Go.Proofs.YtipaccakmndkgaaGreat
open Go.RowKit
set_option linter.unusedVariables false
set_option linter.unusedSimpArgs false
def AllPost (w:World) (Bw:Nat) (t p:List UInt8) (e:Ending) (w':World):Prop:=
 ∃A c,e=.returned (.slice A (placesT t p).length c)∧Made w' w.heap.size 3 1 A (placesT t p).length c ((placesT t p).map sv)∧VB Bw w w'
set_option maxRecDepth 100000 in
set_option maxHeartbeats 4000000 in
theorem All_any (Bw gl rate:Nat) (t:List UInt8) (A0:Option Addr) (m0 c0 B:Nat) (ss:List Sl) (p:List UInt8) (hT:catS ss=p) (w:World) (h:TpAt w Bw gl t rate) (hr0:Rd w B 1 A0 m0 (ss.map slV)) (hss:∀s∈ss,Rd w B 1 s.A s.n (s.l.map bv)) (hB:B≤w.heap.size) (hm:m0≤1000000) (hp:p.length≤1000000):
 Calls Tryz.prog 10 #[.pointer (some ⟨gl,0,none⟩),.slice A0 m0 c0] w (AllPost w Bw t p):=by
 obtain ⟨i0,hi0,hz0,hz1,hz2⟩:=info_parts int_info
 obtain ⟨rs,gk,gp,pr,hs,hl,hrt,hz0,hn⟩:=h
 have Hrt:=Lib.hid hrt
 have Hz0:=Lib.hid hz0
 clear hrt hz0
 have hrl:rs.length=t.length+1:=by rw [hs.len,symL_len]
 have hrows:=FindRows_any Bw gl _ t.length A0 m0 c0 B ss p p.length hT rfl w hl.lvw (by rw [lastL_len,hrl]) (by omega) (lastL_lt (symL_lt t)) hr0 hss hB hm hp
 rw [rowsN_Nq hs (symL_end t)] at hrows
 have hsort:=sort_places hs p
 have hle:=Nq_le (symL t) true (symB p)
 rw [symL_len] at hle
 have hab:Nq (symL t) false (symB p)≤Nq (symL t) true (symB p):=by rw [Nq_occ];omega
 have hlen:(placesT t p).length=Nq (symL t) true (symB p) - Nq (symL t) false (symB p):=by
  rw [←(rows_mid hs p).length_eq,List.length_take,List.length_drop,hrl]
  omega
 obtain ⟨lo,hlo⟩:∃x,Nq (symL t) false (symB p)=x:=⟨_,rfl⟩
 obtain ⟨hi,hhi⟩:∃x,Nq (symL t) true (symB p)=x:=⟨_,rfl⟩
 obtain ⟨ps,hps⟩:∃x,placesT t p=x:=⟨_,rfl⟩
 unfold AllPost
 rw [hlo,hhi] at hrows hsort hlen
 rw [hlo] at hab
 rw [hhi] at hle hab
 rw [hps] at hsort hlen⊢
 have Hl:=Lib.hid hl
 have Hs:=Lib.hid hs
 have Hsort:=Lib.hid hsort
 have Hlen:=Lib.hid hlen
 have Hrl:=Lib.hid hrl
 clear hr0 hss hl hs hsort hlen hrl hlo hhi hps hT
 go_enter Tryz.func10,Tryz.ntmps10
 go_wp2_with fail
 refine hrows.mono ?_
 rintro e w1 ⟨rfl,hv1⟩
 clear hrows
 go_wp2_with fail
 go_loopw [7,8] (fun v i wr=>∃k:Nat,k≤hi - lo∧i=.int .i64 ((lo+k:Nat):Int)∧wr.ownsRow w.heap.size 3 1 v k (((rs.drop lo).take k).map sv)∧VB Bw w wr) (fun _ i _=>hi -(intOf i).toNat)
 case atStart=>exact ⟨0,Nat.zero_le _,by simp,World.ownsRow_nil _ _ _ _,hv1⟩
 case round=>
  obtain ⟨k,hk,rfl,hown,hv⟩:=hrel
  by_cases hlt:k < hi - lo
  · have hltI:((lo+k:Nat):Int) < (hi:Int):=by omega
    have hir:lo+k < rs.length:=by rw [Hrl.out];omega
    obtain ⟨y,hy⟩:∃y,rs[lo+k]?=some y:=⟨_,List.getElem?_eq_getElem hir⟩
    have hnext:(rs.drop lo).take (k+1)=(rs.drop lo).take k++ [y]:=by
        rw [List.take_add_one,List.getElem?_drop,hy]
        rfl
    have hl5:=Hl.out.vis hv.1
    have Hown:=Lib.hid hown
    have Hv:=Lib.hid hv
    have Hl5:=Lib.hid hl5
    have Hy:=Lib.hid hy
    have Hnext:=Lib.hid hnext
    clear hown hv hl5 hy hnext
    go_wp2_with fail
    refine (LivePosG_any Bw gl gk gp rate t rs pr (lo+k) y wr Hl5.out Hrt.out Hz0.out Hs.out hn Hy.out).mono ?_
    rintro e w2 ⟨rfl,hv2⟩
    have hv3:=Hv.out.trans hv2
    have hown3:=hv2.1.own Hown.out (by decide) (by decide)
    have hsz3:=hv3.1.size
    have Hv3:=Lib.hid hv3
    have Hown3:=Lib.hid hown3
    clear hv2 hv3 hown3
    go_wp2_with (at_builtin;refine wpList_push _ rfl (.tmp 21) (.tmp 25) _ rfl w.heap.size 3 i0 (.int .i64 0) 1 8 Tryz.underlying22 hi0 hz0 hz1 hz2 rfl (by decide) _ k _ rfl Hown3.out rfl rfl (by simp [Value.oneCell']) (by unfold maxLen;omega) (by omega) hsz3 ?_;intro v2 w3 hown2 hg2 hs2 hat2)
    have hb3:=below_grown (Below.refl w.heap.size w2) Hown3.out hg2 hsz3
    have hv4:=VB.grow Hv3.out hb3
    have Hv4:=Lib.hid hv4
    clear hb3 hv4 hg2 hat2
    go_roundw
    case rel=>exact ⟨k+1,by omega,by go_num,by rw [Hnext.out,List.map_append];exact hown2,Hv4.out⟩
    case measure=>simp [intOf];omega
  · obtain rfl:k=hi - lo:=by omega
    have hltI:¬((lo+(hi - lo):Nat):Int) < (hi:Int):=by omega
    have hmap:((rs.drop lo).take (hi - lo)).map sv=(((rs.drop lo).take (hi - lo)).map fun n:Nat=>(n:Int)).map (Value.int .i64):=by rw [List.map_map];rfl
    rw [hmap] at hown
    obtain ⟨A,c,rfl,hsrt⟩:=SortOwn_any w.heap.size _ (hi - lo) _ wr hown (by rw [List.length_map,List.length_take,List.length_drop,Hrl.out];omega) (by omega)
    have hown9:=hown
    rw [Hsort.out] at hsrt
    have hlt9:∀b,(Value.slice A (hi - lo) c).ownBlock=some b→w.heap.size≤b:=fun b hb=>(hown9.lt b hb).1
    have Hv:=Lib.hid hv
    have Hsrt:=Lib.hid hsrt
    have Hlt9:=Lib.hid hlt9
    clear hown hown9 hv hsrt hlt9 hlt hmap
    go_wp2_with fail
    refine Hsrt.out.mono ?_
    rintro e w3 ⟨rfl,hown3,hk3⟩
    have hb3:Below w.heap.size wr w3:=hk3.to_below Hv.out.1.size (fun b hb e=>by have:=Hlt9.out b e;omega)
    have hv4:=VB.grow Hv.out hb3
    rw [List.map_map] at hown3
    obtain ⟨A9,c9,e9,hm9⟩:=made_of_own hown3
    cases e9
    have Hm9:=Lib.hid hm9
    have Hv4:=Lib.hid hv4
    clear hown3 hk3 hb3 hv4 hm9
    go_wp2_with fail
    go_ret
    exact ⟨A,c,by rw [Hlen.out];rfl,by rw [Hlen.out];exact Hm9.out,Hv4.out⟩
end Go.Proofs.YtipaccakmndkgaaGreat
namespace Go.Proofs.YtipaccakmndkgaaGreat
open Go.RowKit
set_option linter.unusedVariables false
set_option linter.unusedSimpArgs false
def TxtAt (w:World) (B gl:Nat) (t:List UInt8):Prop:=∃rs,IsSuf (symL t) rs∧LvW w B gl (lastL (symL t) rs)∧t.length≤127
theorem TxtAt.vis {w w':World} {B gl:Nat} {t:List UInt8} (h:TxtAt w B gl t) (k:Vis w w'):TxtAt w' B gl t:=by
 obtain ⟨rs,h1,h2,h3⟩:=h
 exact ⟨rs,h1,h2.vis k,h3⟩
theorem TxtAt.mono {w:World} {B B' gl:Nat} {t:List UInt8} (h:TxtAt w B gl t) (hB:B'≤B):TxtAt w B' gl t:=by
 obtain ⟨rs,h1,⟨gk,r1,r2,r3,h2,h4⟩,h3⟩:=h
 exact ⟨rs,h1,⟨gk,r1,r2,r3,h2,h4.mono hB⟩,h3⟩
theorem TxtAt.le {w:World} {B gl:Nat} {t:List UInt8} (h:TxtAt w B gl t):t.length≤127:=by
 obtain ⟨rs,h1,h2,h3⟩:=h
 exact h3
end Go.Proofs.YtipaccakmndkgaaGreat
namespace Go.Proofs.YtipaccakmndkgaaGreat
open Go.RowKit
set_option linter.unusedVariables false
set_option linter.unusedSimpArgs false
structure PermX (w:World) (F:Nat→Prop) (gp ga:Nat) (vl vo vt vf:Value) (R P:Nat) (ks:List Nat) (C:List (Nat×Nat)) (tk:List Bool) (fr:List Nat):Prop where
 at_:PermAt w 0 gp ga vl vo vt vf R P ks C tk fr
 fp:F gp
 fa:F ga
 fl:OwnF F vl
 fo:OwnF F vo
 ft:OwnF F vt
 ff:OwnF F vf
 nd:ks.Nodup
 tkl:tk.length=C.length
 tkk:∀k,tk[k]?=some true↔k∈ks
 frn:fr.Nodup
 frk:∀k,k∈fr↔tk[k]?=some false
 sz:C.length≤1000
def PermE (w:World) (F:Nat→Prop) (gp R P:Nat) (pr:List (Nat×Nat)):Prop:=
 (∃ga vl vo vt vf ks C tk fr,PermX w F gp ga vl vo vt vf R P ks C tk fr∧pr=ks.map fun k=>(rowK C k,posK C k))∧pr.Pairwise (fun a b=>a.1 < b.1)∧∀x∈pr,x.1 < R∧x.2 < P
theorem PermAt.vis2 {w w':World} {B gp ga:Nat} {vl vo vt vf:Value} {R P:Nat} {ks:List Nat} {C:List (Nat×Nat)} {tk:List Bool} {fr:List Nat} (h:PermAt w B gp ga vl vo vt vf R P ks C tk fr) (k:Vis w w'):PermAt w' B gp ga vl vo vt vf R P ks C tk fr:=
 ⟨k.bk h.blk (by decide) (by decide),k.own h.lrow (by decide) (by decide),k.own h.orow (by decide) (by decide),k.bk h.ar (by decide) (by decide),k.own h.trow (by decide) (by decide),k.own h.frow (by decide) (by decide),h.apart,h.lt,h.lo⟩
section
variable {w w' : World} {F G : Nat → Prop} {gp R P : Nat} {pr : List (Nat × Nat)}
theorem PermE.vis (h:PermE w F gp R P pr) (k:Vis w w'):PermE w' F gp R P pr:=by
 obtain ⟨⟨ga,vl,vo,vt,vf,ks,C,tk,fr,hx,e⟩,h2,h3⟩:=h
 exact ⟨⟨ga,vl,vo,vt,vf,ks,C,tk,fr,⟨hx.at_.vis2 k,hx.fp,hx.fa,hx.fl,hx.fo,hx.ft,hx.ff,hx.nd,hx.tkl,hx.tkk,hx.frn,hx.frk,hx.sz⟩,e⟩,h2,h3⟩
theorem PermE.mono (h:PermE w F gp R P pr) (k:∀b,b < w.heap.size→F b→G b):PermE w G gp R P pr:=by
 obtain ⟨⟨ga,vl,vo,vt,vf,ks,C,tk,fr,hx,e⟩,h2,h3⟩:=h
 have a:=hx.at_
 exact ⟨⟨ga,vl,vo,vt,vf,ks,C,tk,fr,⟨a,k _ a.blk.lt hx.fp,k _ a.ar.lt hx.fa,fun b hb=>k b (a.lrow.lt b hb).2 (hx.fl b hb),fun b hb=>k b (a.orow.lt b hb).2 (hx.fo b hb),fun b hb=>k b (a.trow.lt b hb).2 (hx.ft b hb),fun b hb=>k b (a.frow.lt b hb).2 (hx.ff b hb),hx.nd,hx.tkl,hx.tkk,hx.frn,hx.frk,hx.sz⟩,e⟩,h2,h3⟩
theorem PermE.keep (h:PermE w F gp R P pr) (k:Keep G w w') (hf:∀b,F b→¬G b):PermE w' F gp R P pr:=by
 obtain ⟨⟨ga,vl,vo,vt,vf,ks,C,tk,fr,hx,e⟩,h2,h3⟩:=h
 have a:=hx.at_
 refine ⟨⟨ga,vl,vo,vt,vf,ks,C,tk,fr,⟨⟨k.bk a.blk (hf _ hx.fp),own_same a.lrow fun b cs hb hk=>k.bk hk (hf _ (hx.fl b hb)),own_same a.orow fun b cs hb hk=>k.bk hk (hf _ (hx.fo b hb)),k.bk a.ar (hf _ hx.fa),own_same a.trow fun b cs hb hk=>k.bk hk (hf _ (hx.ft b hb)),own_same a.frow fun b cs hb hk=>k.bk hk (hf _ (hx.ff b hb)),a.apart,a.lt,a.lo⟩,hx.fp,hx.fa,hx.fl,hx.fo,hx.ft,hx.ff,hx.nd,hx.tkl,hx.tkk,hx.frn,hx.frk,hx.sz⟩,e⟩,h2,h3⟩
theorem PermE.below (h:PermE w F gp R P pr) (k:Below w.heap.size w w'):PermE w' F gp R P pr:=h.keep (G:=fun _=>False) (Keep.of_below k) fun _ _ f=>f
end
theorem PermAt.set_rows {w:World} {B gp ga:Nat} {vl vo vt vf:Value} {R P:Nat} {ks:List Nat} {C:List (Nat×Nat)} {tk:List Bool} {fr:List Nat} (h:PermAt w B gp ga vl vo vt vf R P ks C tk fr) (R':Nat):PermAt (w.setCell ⟨gp,3,none⟩ (.int .i64 (R':Int))) B gp ga vl vo vt vf R' P ks C tk fr:=by
 have k:Keep (fun b=>b=gp) w (w.setCell ⟨gp,3,none⟩ (.int .i64 (R':Int))):=Keep.setCell (F:=fun b=>b=gp) (Keep.refl _ _) (p:=⟨gp,3,none⟩) (.inl rfl) _
 exact ⟨h.blk.set 3 _,own_same h.lrow fun b cs _ hk=>k.bk hk (Bk.ne hk h.blk (by decide)),own_same h.orow fun b cs _ hk=>k.bk hk (Bk.ne hk h.blk (by decide)),k.bk h.ar (Bk.ne h.ar h.blk (by decide)),own_same h.trow fun b cs _ hk=>k.bk hk (Bk.ne hk h.blk (by decide)),own_same h.frow fun b cs _ hk=>k.bk hk (Bk.ne hk h.blk (by decide)),h.apart,h.lt,h.lo⟩
theorem PermAt.set_places {w:World} {B gp ga:Nat} {vl vo vt vf:Value} {R P:Nat} {ks:List Nat} {C:List (Nat×Nat)} {tk:List Bool} {fr:List Nat} (h:PermAt w B gp ga vl vo vt vf R P ks C tk fr) (P':Nat):PermAt (w.setCell ⟨gp,4,none⟩ (.int .i64 (P':Int))) B gp ga vl vo vt vf R P' ks C tk fr:=by
 have k:Keep (fun b=>b=gp) w (w.setCell ⟨gp,4,none⟩ (.int .i64 (P':Int))):=Keep.setCell (F:=fun b=>b=gp) (Keep.refl _ _) (p:=⟨gp,4,none⟩) (.inl rfl) _
 exact ⟨h.blk.set 4 _,own_same h.lrow fun b cs _ hk=>k.bk hk (Bk.ne hk h.blk (by decide)),own_same h.orow fun b cs _ hk=>k.bk hk (Bk.ne hk h.blk (by decide)),k.bk h.ar (Bk.ne h.ar h.blk (by decide)),own_same h.trow fun b cs _ hk=>k.bk hk (Bk.ne hk h.blk (by decide)),own_same h.frow fun b cs _ hk=>k.bk hk (Bk.ne hk h.blk (by decide)),h.apart,h.lt,h.lo⟩
theorem pr_map {ks:List Nat} {C C':List (Nat×Nat)} {f:Nat×Nat→Nat×Nat} (h:∀k,k∈ks→(rowK C' k,posK C' k)=f (rowK C k,posK C k)):(ks.map fun k=>(rowK C' k,posK C' k))=(ks.map fun k=>(rowK C k,posK C k)).map f:=by
 rw [List.map_map]
 exact List.map_congr_left fun k hk=>h k hk
theorem inR_lt {a b z:Nat} (h:a < b):inR a z < inR b z:=by
 unfold inR
 split <;> split <;> omega
theorem ks_len:∀ {n:Nat} {ks:List Nat},ks.Nodup→(∀k∈ks,k < n)→ks.length≤n
 | 0,ks,_,hl=>by
   cases ks with
   | nil=>exact Nat.le_refl _
   | cons k ks=>exact absurd (hl k (by simp)) (by omega)
 | n+1,ks,h,hl=>by
   have h1:=ks_len (n:=n) (h.erase n) fun k hk=>by
    have h2:=(h.mem_erase_iff).1 hk
    have:=hl k h2.2
    omega
   by_cases c:n∈ks
   · have:=List.length_erase_of_mem c
     omega
   · rw [List.erase_of_not_mem c] at h1
     omega
set_option maxRecDepth 100000 in
set_option maxHeartbeats 1000000 in
theorem PermRowIn_any (F:Nat→Prop) (gp R P z:Nat) (pr:List (Nat×Nat)) (w:World) (h:PermE w F gp R P pr) (hz:z≤R) (hR:R≤100000) (hP:P≤100000):
 Calls Tryz.prog 27 #[.pointer (some ⟨gp,0,none⟩),.int .i64 (z:Int)] w fun e w'=>e=.returned (.int .i64 0)∧PermE w' F gp (R+1) P (pr.map fun x=>(inR x.1 z,x.2))∧Keep F w w':=by
 obtain ⟨⟨ga,vl,vo,vt,vf,ks,C,tk,fr,hx,rfl⟩,hsort,hbd⟩:=h
 have hat:=hx.at_
 have c3:w.cell? ⟨gp,3,none⟩=some (.int .i64 (R:Int)):=(hat.blk.cell 3).trans rfl
 have f3:=hat.blk.frozen 3
 have hgp:=hat.blk.lt
 have hzR:¬((z:Int) > (R:Int)):=by omega
 have hzN:¬R < z:=by omega
 have hz0:decide ((z:Int) < 0)=false:=by simp
 have e1:wrap64 ((R:Int)+1)=((R+1:Nat):Int):=by rw [wrap64_id (by omega) (by omega)];rfl
 have HX:=Lib.hid hx
 have Hsort:=Lib.hid hsort
 have Hbd:=Lib.hid hbd
 clear hx hat hsort hbd
 go_enter Tryz.func27,Tryz.ntmps27
 go_wp2_with fail
 go_quiet (fail)
 rename_i nq
 have c3q:∀q,((w.alloc (.cells #[.int .i64 (z:Int)] 3)).drewN q).cell? ⟨gp,3,none⟩=some (.int .i64 (R:Int)):=fun q=>(World.cell?_alloc_lt w _ ⟨gp,3,none⟩ hgp).trans c3
 have hmf:∀(fn:Fn) (first cap:Array Value) (w:World),(Instr.makeFunc fn first cap).run Tryz.prog w=.ok (.func fn first cap) w:=fun _ _ _ _=>rfl
 go_wp2_with fail
 have hatA:=HX.out.at_.below ((Below.refl _ _).alloc (Nat.le_refl _) (.cells #[.int .i64 (z:Int)] 3))
 have hat1:PermAt ((w.alloc (.cells #[.int .i64 (z:Int)] 3)).drewN nq) 0 gp ga vl vo vt vf R P ks C tk fr:=hatA.below (below_drewN (Below.refl _ _) _)
 have hat2:=hat1.set_rows (R+1)
 have hgx1:Bk ((w.alloc (.cells #[.int .i64 (z:Int)] 3)).drewN nq) w.heap.size 3 #[.int .i64 (z:Int)]:=Bk.new w _ _
 have hgx2:=hgx1.far (p:=⟨gp,3,none⟩) (fun e=>by have e':w.heap.size=gp:=e;omega) (.int .i64 ((R+1:Nat):Int))
 have hvl:∀b,vl.ownBlock=some b→b≠w.heap.size:=fun b hb e=>by have:=(HX.out.at_.lrow.lt b hb).2;omega
 have hC:∀k,k∈ks→rowK C k≤1000000000000∧posK C k≤1000000000000:=fun k hk=>by
  have:=Hbd.out (rowK C k,posK C k) (List.mem_map.2 ⟨k,hk,rfl⟩)
  have h1:rowK C k < R:=this.1
  have h2:posK C k < P:=this.2
  omega
 have hkl:=ks_len HX.out.nd HX.out.at_.lt
 refine (EachRowIn_any 0 gp ga w.heap.size z vl vo vt vf (R+1) P ks C tk fr _ hat2 HX.out.nd (by have:=HX.out.sz;omega) hgx2 hvl hC).mono ?_
 rintro e w2 ⟨rfl,hk2,C',hl',hf',hat3⟩
 have hkF:Keep F w w2:=(Keep.setCell (F:=F) (((Keep.refl _ _).alloc _).drewN _) (p:=⟨gp,3,none⟩) (.inl HX.out.fp) _).trans (hk2.mono fun b _ hb=>HX.out.fl b hb)
 have hE:PermE w2 F gp (R+1) P ((ks.map fun k=>(rowK C k,posK C k)).map fun x=>(inR x.1 z,x.2)):=by
  refine ⟨⟨ga,vl,vo,vt,vf,ks,C',tk,fr,⟨hat3,HX.out.fp,HX.out.fa,HX.out.fl,HX.out.fo,HX.out.ft,HX.out.ff,HX.out.nd,by rw [hl'];exact HX.out.tkl,HX.out.tkk,HX.out.frn,HX.out.frk,by rw [hl'];exact HX.out.sz⟩,(pr_map (f:=fun x=>(inR x.1 z,x.2)) hf').symm⟩,?_,fun x hx=>?_⟩
  · exact List.pairwise_map.2 (Hsort.out.imp fun {a b} hab=>inR_lt hab)
  · obtain ⟨y,hy,rfl⟩:=List.mem_map.1 hx
    have:=Hbd.out y hy
    have h9:∀a,inR a z≤a+1:=fun a=>by unfold inR;split <;> omega
    have h8:=h9 y.1
    have h7:=h9 y.2
    constructor
    · show inR y.1 z < _
      omega
    · show y.2 < _
      omega
 have HE:=Lib.hid hE
 have HkF:=Lib.hid hkF
 clear hkF hE hat3 hf' hk2 hl' hC hvl hgx2 hgx1 hat2 hat1 hatA
 go_wp2_with fail
 go_ret
 exact ⟨rfl,HE.out,HkF.out⟩
set_option maxRecDepth 100000 in
set_option maxHeartbeats 1000000 in
theorem PermPosIn_any (F:Nat→Prop) (gp R P z:Nat) (pr:List (Nat×Nat)) (w:World) (h:PermE w F gp R P pr) (hz:z≤P) (hR:R≤100000) (hP:P≤100000):
 Calls Tryz.prog 28 #[.pointer (some ⟨gp,0,none⟩),.int .i64 (z:Int)] w fun e w'=>e=.returned (.int .i64 0)∧PermE w' F gp R (P+1) (pr.map fun x=>(x.1,inR x.2 z))∧Keep F w w':=by
 obtain ⟨⟨ga,vl,vo,vt,vf,ks,C,tk,fr,hx,rfl⟩,hsort,hbd⟩:=h
 have hat:=hx.at_
 have c3:w.cell? ⟨gp,4,none⟩=some (.int .i64 (P:Int)):=(hat.blk.cell 4).trans rfl
 have f3:=hat.blk.frozen 4
 have hgp:=hat.blk.lt
 have hzR:¬((z:Int) > (P:Int)):=by omega
 have hzN:¬P < z:=by omega
 have hz0:decide ((z:Int) < 0)=false:=by simp
 have e1:wrap64 ((P:Int)+1)=((P+1:Nat):Int):=by rw [wrap64_id (by omega) (by omega)];rfl
 have HX:=Lib.hid hx
 have Hsort:=Lib.hid hsort
 have Hbd:=Lib.hid hbd
 clear hx hat hsort hbd
 go_enter Tryz.func28,Tryz.ntmps28
 go_wp2_with fail
 go_quiet (fail)
 rename_i nq
 have c3q:∀q,((w.alloc (.cells #[.int .i64 (z:Int)] 3)).drewN q).cell? ⟨gp,4,none⟩=some (.int .i64 (P:Int)):=fun q=>(World.cell?_alloc_lt w _ ⟨gp,4,none⟩ hgp).trans c3
 have hmf:∀(fn:Fn) (first cap:Array Value) (w:World),(Instr.makeFunc fn first cap).run Tryz.prog w=.ok (.func fn first cap) w:=fun _ _ _ _=>rfl
 go_wp2_with fail
 have hatA:=HX.out.at_.below ((Below.refl _ _).alloc (Nat.le_refl _) (.cells #[.int .i64 (z:Int)] 3))
 have hat1:PermAt ((w.alloc (.cells #[.int .i64 (z:Int)] 3)).drewN nq) 0 gp ga vl vo vt vf R P ks C tk fr:=hatA.below (below_drewN (Below.refl _ _) _)
 have hat2:=hat1.set_places (P+1)
 have hgx1:Bk ((w.alloc (.cells #[.int .i64 (z:Int)] 3)).drewN nq) w.heap.size 3 #[.int .i64 (z:Int)]:=Bk.new w _ _
 have hgx2:=hgx1.far (p:=⟨gp,4,none⟩) (fun e=>by have e':w.heap.size=gp:=e;omega) (.int .i64 ((P+1:Nat):Int))
 have hvl:∀b,vl.ownBlock=some b→b≠w.heap.size:=fun b hb e=>by have:=(HX.out.at_.lrow.lt b hb).2;omega
 have hC:∀k,k∈ks→rowK C k≤1000000000000∧posK C k≤1000000000000:=fun k hk=>by
  have:=Hbd.out (rowK C k,posK C k) (List.mem_map.2 ⟨k,hk,rfl⟩)
  have h1:rowK C k < R:=this.1
  have h2:posK C k < P:=this.2
  omega
 have hkl:=ks_len HX.out.nd HX.out.at_.lt
 refine (EachPosIn_any 0 gp ga w.heap.size z vl vo vt vf R (P+1) ks C tk fr _ hat2 HX.out.nd (by have:=HX.out.sz;omega) hgx2 hvl hC).mono ?_
 rintro e w2 ⟨rfl,hk2,C',hl',hf',hat3⟩
 have hkF:Keep F w w2:=(Keep.setCell (F:=F) (((Keep.refl _ _).alloc _).drewN _) (p:=⟨gp,4,none⟩) (.inl HX.out.fp) _).trans (hk2.mono fun b _ hb=>HX.out.fl b hb)
 have hE:PermE w2 F gp R (P+1) ((ks.map fun k=>(rowK C k,posK C k)).map fun x=>(x.1,inR x.2 z)):=by
  refine ⟨⟨ga,vl,vo,vt,vf,ks,C',tk,fr,⟨hat3,HX.out.fp,HX.out.fa,HX.out.fl,HX.out.fo,HX.out.ft,HX.out.ff,HX.out.nd,by rw [hl'];exact HX.out.tkl,HX.out.tkk,HX.out.frn,HX.out.frk,by rw [hl'];exact HX.out.sz⟩,(pr_map (f:=fun x=>(x.1,inR x.2 z)) hf').symm⟩,?_,fun x hx=>?_⟩
  · exact List.pairwise_map.2 (Hsort.out.imp fun {a b} hab=>hab)
  · obtain ⟨y,hy,rfl⟩:=List.mem_map.1 hx
    have:=Hbd.out y hy
    have h9:∀a,inR a z≤a+1:=fun a=>by unfold inR;split <;> omega
    have h8:=h9 y.1
    have h7:=h9 y.2
    constructor
    · show y.1 < _
      omega
    · show inR y.2 z < _
      omega
 have HE:=Lib.hid hE
 have HkF:=Lib.hid hkF
 clear hkF hE hat3 hf' hk2 hl' hC hvl hgx2 hgx1 hat2 hat1 hatA
 go_wp2_with fail
 go_ret
 exact ⟨rfl,HE.out,HkF.out⟩
end Go.Proofs.YtipaccakmndkgaaGreat
