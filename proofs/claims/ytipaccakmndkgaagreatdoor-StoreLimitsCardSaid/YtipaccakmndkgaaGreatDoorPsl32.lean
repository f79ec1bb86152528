/- The sampled pairs that own their blocks (PermE); the walks of RowIn and PosIn. Conditions: rows and places in order; at most 1000 numbers. The walks of perm's each with the closure of RowMove. Conditions: at most 2^20 pairs. Plain laws for an edit: the start behind a delete and behind a change (plain Lean). No conditions. The walks of the wave's All, the walk's All, live's Last: the transform. Conditions: at most 1000 symbols, below 257. -/
import Derived.Test.YtipaccakmndkgaaGreatDoorPsl30
import Derived.Test.YtipaccakmndkgaaGreatDoorPsl25
import Derived.Test.YtipaccakmndkgaaGreatDoorPsl16
import Derived.Test.YtipaccakmndkgaaGreatDoorPsl18
import Derived.Test.YtipaccakmndkgaaGreatDoorPsl31
set_option linter.unusedVariables false
set_option linter.unusedSimpArgs false
set_option maxRecDepth 100000
set_option maxHeartbeats 2000000
namespace Go.Proofs.YtipaccakmndkgaaGreatDoor
open Go.RowKit
structure PermX (w:World) (F:Nat→Prop) (gp ga:Nat) (vl vo vt vf:Value) (R P:Nat) (ks:List Nat) (C:List (Nat×Nat)) (tk:List Bool) (fr:List Nat):Prop where
 at_:PermAt w 0 gp ga vl vo vt vf R P ks C tk fr
 fp:F gp
 fa:F ga
 fl:OwnF F vl
 fo:OwnF F vo
 ft:OwnF F vt
 ff:OwnF F vf
 nd:ks.Nodup
 tkl:tk.length=C.length
 tkk:∀k,tk[k]?=some true↔k∈ks
 frn:fr.Nodup
 frk:∀k,k∈fr↔tk[k]?=some false
 sz:C.length≤1000
def PermE (w:World) (F:Nat→Prop) (gp R P:Nat) (pr:List (Nat×Nat)):Prop:=
 (∃ga vl vo vt vf ks C tk fr,PermX w F gp ga vl vo vt vf R P ks C tk fr∧pr=ks.map fun k=>(rowK C k,posK C k))∧pr.Pairwise (fun a b=>a.1 < b.1)∧∀x∈pr,x.1 < R∧x.2 < P
theorem PermAt.vis2 {w w':World} {B gp ga:Nat} {vl vo vt vf:Value} {R P:Nat} {ks:List Nat} {C:List (Nat×Nat)} {tk:List Bool} {fr:List Nat} (h:PermAt w B gp ga vl vo vt vf R P ks C tk fr) (k:Vis w w'):PermAt w' B gp ga vl vo vt vf R P ks C tk fr:=
 ⟨k.bk h.blk (by decide) (by decide),k.own h.lrow (by decide) (by decide),k.own h.orow (by decide) (by decide),k.bk h.ar (by decide) (by decide),k.own h.trow (by decide) (by decide),k.own h.frow (by decide) (by decide),h.apart,h.lt,h.lo⟩
section
variable {w w' : World} {F G : Nat → Prop} {gp R P : Nat} {pr : List (Nat × Nat)}
theorem PermE.vis (h:PermE w F gp R P pr) (k:Vis w w'):PermE w' F gp R P pr:=by
 obtain ⟨⟨ga,vl,vo,vt,vf,ks,C,tk,fr,hx,e⟩,h2,h3⟩:=h
 exact ⟨⟨ga,vl,vo,vt,vf,ks,C,tk,fr,⟨hx.at_.vis2 k,hx.fp,hx.fa,hx.fl,hx.fo,hx.ft,hx.ff,hx.nd,hx.tkl,hx.tkk,hx.frn,hx.frk,hx.sz⟩,e⟩,h2,h3⟩
theorem PermE.mono (h:PermE w F gp R P pr) (k:∀b,b < w.heap.size→F b→G b):PermE w G gp R P pr:=by
 obtain ⟨⟨ga,vl,vo,vt,vf,ks,C,tk,fr,hx,e⟩,h2,h3⟩:=h
 have a:=hx.at_
 exact ⟨⟨ga,vl,vo,vt,vf,ks,C,tk,fr,⟨a,k _ a.blk.lt hx.fp,k _ a.ar.lt hx.fa,fun b hb=>k b (a.lrow.lt b hb).2 (hx.fl b hb),fun b hb=>k b (a.orow.lt b hb).2 (hx.fo b hb),fun b hb=>k b (a.trow.lt b hb).2 (hx.ft b hb),fun b hb=>k b (a.frow.lt b hb).2 (hx.ff b hb),hx.nd,hx.tkl,hx.tkk,hx.frn,hx.frk,hx.sz⟩,e⟩,h2,h3⟩
theorem PermE.keep (h:PermE w F gp R P pr) (k:Keep G w w') (hf:∀b,F b→¬G b):PermE w' F gp R P pr:=by
 obtain ⟨⟨ga,vl,vo,vt,vf,ks,C,tk,fr,hx,e⟩,h2,h3⟩:=h
 have a:=hx.at_
 refine ⟨⟨ga,vl,vo,vt,vf,ks,C,tk,fr,⟨⟨k.bk a.blk (hf _ hx.fp),own_same a.lrow fun b cs hb hk=>k.bk hk (hf _ (hx.fl b hb)),own_same a.orow fun b cs hb hk=>k.bk hk (hf _ (hx.fo b hb)),k.bk a.ar (hf _ hx.fa),own_same a.trow fun b cs hb hk=>k.bk hk (hf _ (hx.ft b hb)),own_same a.frow fun b cs hb hk=>k.bk hk (hf _ (hx.ff b hb)),a.apart,a.lt,a.lo⟩,hx.fp,hx.fa,hx.fl,hx.fo,hx.ft,hx.ff,hx.nd,hx.tkl,hx.tkk,hx.frn,hx.frk,hx.sz⟩,e⟩,h2,h3⟩
theorem PermE.below (h:PermE w F gp R P pr) (k:Below w.heap.size w w'):PermE w' F gp R P pr:=h.keep (G:=fun _=>False) (Keep.of_below k) fun _ _ f=>f
end
theorem PermAt.set_rows {w:World} {B gp ga:Nat} {vl vo vt vf:Value} {R P:Nat} {ks:List Nat} {C:List (Nat×Nat)} {tk:List Bool} {fr:List Nat} (h:PermAt w B gp ga vl vo vt vf R P ks C tk fr) (R':Nat):PermAt (w.setCell ⟨gp,3,none⟩ (.int .i64 (R':Int))) B gp ga vl vo vt vf R' P ks C tk fr:=by
 have k:Keep (fun b=>b=gp) w (w.setCell ⟨gp,3,none⟩ (.int .i64 (R':Int))):=Keep.setCell (F:=fun b=>b=gp) (Keep.refl _ _) (p:=⟨gp,3,none⟩) (.inl rfl) _
 exact ⟨h.blk.set 3 _,own_same h.lrow fun b cs _ hk=>k.bk hk (Bk.ne hk h.blk (by decide)),own_same h.orow fun b cs _ hk=>k.bk hk (Bk.ne hk h.blk (by decide)),k.bk h.ar (Bk.ne h.ar h.blk (by decide)),own_same h.trow fun b cs _ hk=>k.bk hk (Bk.ne hk h.blk (by decide)),own_same h.frow fun b cs _ hk=>k.bk hk (Bk.ne hk h.blk (by decide)),h.apart,h.lt,h.lo⟩
theorem PermAt.set_places {w:World} {B gp ga:Nat} {vl vo vt vf:Value} {R P:Nat} {ks:List Nat} {C:List (Nat×Nat)} {tk:List Bool} {fr:List Nat} (h:PermAt w B gp ga vl vo vt vf R P ks C tk fr) (P':Nat):PermAt (w.setCell ⟨gp,4,none⟩ (.int .i64 (P':Int))) B gp ga vl vo vt vf R P' ks C tk fr:=by
 have k:Keep (fun b=>b=gp) w (w.setCell ⟨gp,4,none⟩ (.int .i64 (P':Int))):=Keep.setCell (F:=fun b=>b=gp) (Keep.refl _ _) (p:=⟨gp,4,none⟩) (.inl rfl) _
 exact ⟨h.blk.set 4 _,own_same h.lrow fun b cs _ hk=>k.bk hk (Bk.ne hk h.blk (by decide)),own_same h.orow fun b cs _ hk=>k.bk hk (Bk.ne hk h.blk (by decide)),k.bk h.ar (Bk.ne h.ar h.blk (by decide)),own_same h.trow fun b cs _ hk=>k.bk hk (Bk.ne hk h.blk (by decide)),own_same h.frow fun b cs _ hk=>k.bk hk (Bk.ne hk h.blk (by decide)),h.apart,h.lt,h.lo⟩
theorem pr_map {ks:List Nat} {C C':List (Nat×Nat)} {f:Nat×Nat→Nat×Nat} (h:∀k,k∈ks→(rowK C' k,posK C' k)=f (rowK C k,posK C k)):(ks.map fun k=>(rowK C' k,posK C' k))=(ks.map fun k=>(rowK C k,posK C k)).map f:=by
 rw [List.map_map]
 exact List.map_congr_left fun k hk=>h k hk
theorem inR_lt {a b z:Nat} (h:a < b):inR a z < inR b z:=by
 unfold inR
 split <;> split <;> omega
theorem ks_len:∀ {n:Nat} {ks:List Nat},ks.Nodup→(∀k∈ks,k < n)→ks.length≤n
 | 0,ks,_,hl=>by
   cases ks with
   | nil=>exact Nat.le_refl _
   | cons k ks=>exact absurd (hl k (by simp)) (by omega)
 | n+1,ks,h,hl=>by
   have h1:=ks_len (n:=n) (h.erase n) fun k hk=>by
    have h2:=(h.mem_erase_iff).1 hk
    have:=hl k h2.2
    omega
   by_cases c:n∈ks
   · have:=List.length_erase_of_mem c
     omega
   · rw [List.erase_of_not_mem c] at h1
     omega
theorem PermRowIn_any (F:Nat→Prop) (gp R P z:Nat) (pr:List (Nat×Nat)) (w:World) (h:PermE w F gp R P pr) (hz:z≤R) (hR:R≤100000) (hP:P≤100000):
 Calls Tryz.prog 63 #[.pointer (some ⟨gp,0,none⟩),.int .i64 (z:Int)] w fun e w'=>e=.returned (.int .i64 0)∧PermE w' F gp (R+1) P (pr.map fun x=>(inR x.1 z,x.2))∧Keep F w w':=by
 obtain ⟨⟨ga,vl,vo,vt,vf,ks,C,tk,fr,hx,rfl⟩,hsort,hbd⟩:=h
 have hat:=hx.at_
 have c3:w.cell? ⟨gp,3,none⟩=some (.int .i64 (R:Int)):=(hat.blk.cell 3).trans rfl
 have f3:=hat.blk.frozen 3
 have hgp:=hat.blk.lt
 have hzR:¬((z:Int) > (R:Int)):=by omega
 have hzN:¬R < z:=by omega
 have hz0:decide ((z:Int) < 0)=false:=by simp
 have e1:wrap64 ((R:Int)+1)=((R+1:Nat):Int):=by rw [wrap64_id (by omega) (by omega)];rfl
 have HX:=lhd hx
 have Hsort:=lhd hsort
 have Hbd:=lhd hbd
 clear hx hat hsort hbd
 go_enter Tryz.func63,Tryz.ntmps63
 go_wp2_with fail
 go_quiet (fail)
 rename_i nq
 have c3q:∀q,((w.alloc (.cells #[.int .i64 (z:Int)] 3)).drewN q).cell? ⟨gp,3,none⟩=some (.int .i64 (R:Int)):=fun q=>(World.cell?_alloc_lt w _ ⟨gp,3,none⟩ hgp).trans c3
 have hmf:∀(fn:Fn) (first cap:Array Value) (w:World),(Instr.makeFunc fn first cap).run Tryz.prog w=.ok (.func fn first cap) w:=fun _ _ _ _=>rfl
 go_wp2_with fail
 have hatA:=HX.out.at_.below ((Below.refl _ _).alloc (Nat.le_refl _) (.cells #[.int .i64 (z:Int)] 3))
 have hat1:PermAt ((w.alloc (.cells #[.int .i64 (z:Int)] 3)).drewN nq) 0 gp ga vl vo vt vf R P ks C tk fr:=hatA.below (below_drewN (Below.refl _ _) _)
 have hat2:=hat1.set_rows (R+1)
 have hgx1:Bk ((w.alloc (.cells #[.int .i64 (z:Int)] 3)).drewN nq) w.heap.size 3 #[.int .i64 (z:Int)]:=Bk.new w _ _
 have hgx2:=hgx1.far (p:=⟨gp,3,none⟩) (fun e=>by have e':w.heap.size=gp:=e;omega) (.int .i64 ((R+1:Nat):Int))
 have hvl:∀b,vl.ownBlock=some b→b≠w.heap.size:=fun b hb e=>by have:=(HX.out.at_.lrow.lt b hb).2;omega
 have hC:∀k,k∈ks→rowK C k≤1000000000000∧posK C k≤1000000000000:=fun k hk=>by
  have:=Hbd.out (rowK C k,posK C k) (List.mem_map.2 ⟨k,hk,rfl⟩)
  have h1:rowK C k < R:=this.1
  have h2:posK C k < P:=this.2
  omega
 have hkl:=ks_len HX.out.nd HX.out.at_.lt
 refine (EachRowIn_any 0 gp ga w.heap.size z vl vo vt vf (R+1) P ks C tk fr _ hat2 HX.out.nd (by have:=HX.out.sz;omega) hgx2 hvl hC).mono ?_
 rintro e w2 ⟨rfl,hk2,C',hl',hf',hat3⟩
 have hkF:Keep F w w2:=(Keep.setCell (F:=F) (((Keep.refl _ _).alloc _).drewN _) (p:=⟨gp,3,none⟩) (.inl HX.out.fp) _).trans (hk2.mono fun b _ hb=>HX.out.fl b hb)
 have hE:PermE w2 F gp (R+1) P ((ks.map fun k=>(rowK C k,posK C k)).map fun x=>(inR x.1 z,x.2)):=by
  refine ⟨⟨ga,vl,vo,vt,vf,ks,C',tk,fr,⟨hat3,HX.out.fp,HX.out.fa,HX.out.fl,HX.out.fo,HX.out.ft,HX.out.ff,HX.out.nd,by rw [hl'];exact HX.out.tkl,HX.out.tkk,HX.out.frn,HX.out.frk,by rw [hl'];exact HX.out.sz⟩,(pr_map (f:=fun x=>(inR x.1 z,x.2)) hf').symm⟩,?_,fun x hx=>?_⟩
  · exact List.pairwise_map.2 (Hsort.out.imp fun {a b} hab=>inR_lt hab)
  · obtain ⟨y,hy,rfl⟩:=List.mem_map.1 hx
    have:=Hbd.out y hy
    have h9:∀a,inR a z≤a+1:=fun a=>by unfold inR;split <;> omega
    have h8:=h9 y.1
    have h7:=h9 y.2
    constructor
    · show inR y.1 z < _
      omega
    · show y.2 < _
      omega
 have HE:=lhd hE
 have HkF:=lhd hkF
 clear hkF hE hat3 hf' hk2 hl' hC hvl hgx2 hgx1 hat2 hat1 hatA
 go_wp2_with fail
 go_ret
 exact ⟨rfl,HE.out,HkF.out⟩
theorem PermPosIn_any (F:Nat→Prop) (gp R P z:Nat) (pr:List (Nat×Nat)) (w:World) (h:PermE w F gp R P pr) (hz:z≤P) (hR:R≤100000) (hP:P≤100000):
 Calls Tryz.prog 64 #[.pointer (some ⟨gp,0,none⟩),.int .i64 (z:Int)] w fun e w'=>e=.returned (.int .i64 0)∧PermE w' F gp R (P+1) (pr.map fun x=>(x.1,inR x.2 z))∧Keep F w w':=by
 obtain ⟨⟨ga,vl,vo,vt,vf,ks,C,tk,fr,hx,rfl⟩,hsort,hbd⟩:=h
 have hat:=hx.at_
 have c3:w.cell? ⟨gp,4,none⟩=some (.int .i64 (P:Int)):=(hat.blk.cell 4).trans rfl
 have f3:=hat.blk.frozen 4
 have hgp:=hat.blk.lt
 have hzR:¬((z:Int) > (P:Int)):=by omega
 have hzN:¬P < z:=by omega
 have hz0:decide ((z:Int) < 0)=false:=by simp
 have e1:wrap64 ((P:Int)+1)=((P+1:Nat):Int):=by rw [wrap64_id (by omega) (by omega)];rfl
 have HX:=lhd hx
 have Hsort:=lhd hsort
 have Hbd:=lhd hbd
 clear hx hat hsort hbd
 go_enter Tryz.func64,Tryz.ntmps64
 go_wp2_with fail
 go_quiet (fail)
 rename_i nq
 have c3q:∀q,((w.alloc (.cells #[.int .i64 (z:Int)] 3)).drewN q).cell? ⟨gp,4,none⟩=some (.int .i64 (P:Int)):=fun q=>(World.cell?_alloc_lt w _ ⟨gp,4,none⟩ hgp).trans c3
 have hmf:∀(fn:Fn) (first cap:Array Value) (w:World),(Instr.makeFunc fn first cap).run Tryz.prog w=.ok (.func fn first cap) w:=fun _ _ _ _=>rfl
 go_wp2_with fail
 have hatA:=HX.out.at_.below ((Below.refl _ _).alloc (Nat.le_refl _) (.cells #[.int .i64 (z:Int)] 3))
 have hat1:PermAt ((w.alloc (.cells #[.int .i64 (z:Int)] 3)).drewN nq) 0 gp ga vl vo vt vf R P ks C tk fr:=hatA.below (below_drewN (Below.refl _ _) _)
 have hat2:=hat1.set_places (P+1)
 have hgx1:Bk ((w.alloc (.cells #[.int .i64 (z:Int)] 3)).drewN nq) w.heap.size 3 #[.int .i64 (z:Int)]:=Bk.new w _ _
 have hgx2:=hgx1.far (p:=⟨gp,4,none⟩) (fun e=>by have e':w.heap.size=gp:=e;omega) (.int .i64 ((P+1:Nat):Int))
 have hvl:∀b,vl.ownBlock=some b→b≠w.heap.size:=fun b hb e=>by have:=(HX.out.at_.lrow.lt b hb).2;omega
 have hC:∀k,k∈ks→rowK C k≤1000000000000∧posK C k≤1000000000000:=fun k hk=>by
  have:=Hbd.out (rowK C k,posK C k) (List.mem_map.2 ⟨k,hk,rfl⟩)
  have h1:rowK C k < R:=this.1
  have h2:posK C k < P:=this.2
  omega
 have hkl:=ks_len HX.out.nd HX.out.at_.lt
 refine (EachPosIn_any 0 gp ga w.heap.size z vl vo vt vf R (P+1) ks C tk fr _ hat2 HX.out.nd (by have:=HX.out.sz;omega) hgx2 hvl hC).mono ?_
 rintro e w2 ⟨rfl,hk2,C',hl',hf',hat3⟩
 have hkF:Keep F w w2:=(Keep.setCell (F:=F) (((Keep.refl _ _).alloc _).drewN _) (p:=⟨gp,4,none⟩) (.inl HX.out.fp) _).trans (hk2.mono fun b _ hb=>HX.out.fl b hb)
 have hE:PermE w2 F gp R (P+1) ((ks.map fun k=>(rowK C k,posK C k)).map fun x=>(x.1,inR x.2 z)):=by
  refine ⟨⟨ga,vl,vo,vt,vf,ks,C',tk,fr,⟨hat3,HX.out.fp,HX.out.fa,HX.out.fl,HX.out.fo,HX.out.ft,HX.out.ff,HX.out.nd,by rw [hl'];exact HX.out.tkl,HX.out.tkk,HX.out.frn,HX.out.frk,by rw [hl'];exact HX.out.sz⟩,(pr_map (f:=fun x=>(x.1,inR x.2 z)) hf').symm⟩,?_,fun x hx=>?_⟩
  · exact List.pairwise_map.2 (Hsort.out.imp fun {a b} hab=>hab)
  · obtain ⟨y,hy,rfl⟩:=List.mem_map.1 hx
    have:=Hbd.out y hy
    have h9:∀a,inR a z≤a+1:=fun a=>by unfold inR;split <;> omega
    have h8:=h9 y.1
    have h7:=h9 y.2
    constructor
    · show y.1 < _
      omega
    · show inR y.2 z < _
      omega
 have HE:=lhd hE
 have HkF:=lhd hkF
 clear hkF hE hat3 hf' hk2 hl' hC hvl hgx2 hgx1 hat2 hat1 hatA
 go_wp2_with fail
 go_ret
 exact ⟨rfl,HE.out,HkF.out⟩
theorem RowMoveC_any (B gl n c gx0 gx1 z0 z1 k:Nat) (C:List (Nat×Nat)) (w:World) (h:w.ownsRow B 159 2 (.slice (some ⟨gl,0,none⟩) n c) n (pairsL C)) (hk:k < C.length) (hx0:Bk w gx0 3 #[.int .i64 (z0:Int)]) (hx1:Bk w gx1 3 #[.int .i64 (z1:Int)]) (hC:rowK C k≤1000000000000):
 Calls Tryz.prog 204 #[.pointer (some ⟨gl,k*2,none⟩),.pointer (some ⟨gx0,0,none⟩),.pointer (some ⟨gx1,0,none⟩)] w fun e w'=>e=.returned (.tuple #[])∧w'.ownsRow B 159 2 (.slice (some ⟨gl,0,none⟩) n c) n (pairsL (C.set k (mvR z0 z1 (rowK C k),posK C k)))∧Keep (fun b=>b=gl) w w':=by
 obtain ⟨p0,p1⟩:=pairsL_get C k hk
 have hn:C.length=n:=by have h1:=h.1;rw [pairsL_len] at h1;omega
 have d0:=(World.ownsRow.cellAt h (k*2) (by omega)).trans p0
 have x0:w.cell? ⟨gx0,0,none⟩=some (.int .i64 (z0:Int)):=(hx0.cell 0).trans rfl
 have x1:w.cell? ⟨gx1,0,none⟩=some (.int .i64 (z1:Int)):=(hx1.cell 0).trans rfl
 obtain ⟨cur,hcur⟩:=own_bk h
 have fr:=hcur.frozen (k*2)
 have hgl:=hcur.lt
 have hgx0:=hx0.lt
 have hgx1:=hx1.lt
 have n0:gx0≠gl:=Bk.ne hx0 hcur (by decide)
 have n1:gx1≠gl:=Bk.ne hx1 hcur (by decide)
 have hself:=pair_self C k hk
 have hset:=fun v=>pairsL_set0 C k v hk
 obtain ⟨r,hr⟩:∃r,rowK C k=r:=⟨_,rfl⟩
 rw [hr] at d0 hself hC
 rw [hr]
 have H:=lhd h
 have Hself:=lhd hself
 have Hset:=lhd hset
 have hst:∀v:Nat,(w.setCell ⟨gl,k*2,none⟩ (.int .i64 (v:Int))).ownsRow B 159 2 (.slice (some ⟨gl,0,none⟩) n c) n (pairsL (C.set k (v,posK C k))):=fun v=>by
  have:=(World.ownsRow.stored H.out (k*2) (.int .i64 (v:Int))).1
  rwa [Hset.out] at this
 have hst2:∀u v:Nat,((w.setCell ⟨gl,k*2,none⟩ (.int .i64 (u:Int))).setCell ⟨gl,k*2,none⟩ (.int .i64 (v:Int))).ownsRow B 159 2 (.slice (some ⟨gl,0,none⟩) n c) n (pairsL (C.set k (v,posK C k))):=fun u v=>by
  have h1:=(World.ownsRow.stored (World.ownsRow.stored H.out (k*2) (.int .i64 (u:Int))).1 (k*2) (.int .i64 (v:Int))).1
  rw [List.set_set,Hset.out] at h1
  exact h1
 have hkk:∀v:Value,Keep (fun b=>b=gl) w (w.setCell ⟨gl,k*2,none⟩ v):=fun v=>Keep.setCell (F:=fun b=>b=gl) (Keep.refl _ _) (p:=⟨gl,k*2,none⟩) (.inl rfl) _
 have Hst:=lhd hst
 have Hst2:=lhd hst2
 have Hkk:=lhd hkk
 clear h hk hx0 hx1 p0 p1 hcur hself hset hn hr hst hst2 hkk
 have hgoal:∀v:Nat,mvR z0 z1 r=v→C.set k (mvR z0 z1 r,posK C k)=C.set k (v,posK C k):=fun v e=>by rw [e]
 by_cases c0:r=z0
 · subst c0
   have e9:mvR r z1 r=z1:=by unfold mvR;rw [if_pos rfl]
   rw [e9]
   clear hgoal
   go_enter Tryz.func204,Tryz.ntmps204
   go_wp2_with fail
   go_quiet (fail)
   go_wp2_with fail
   refine bodyPost_ret (results_none rfl _ _ _) rfl ?_
   exact ⟨rfl,own_heap (Hst.out z1) rfl,(Keep.setCell (F:=fun b=>b=gl) ((Keep.refl _ _).drewN _) (p:=⟨gl,k*2,none⟩) (.inl rfl) _)⟩
 · have b0:((r:Int)==(z0:Int))=false:=by rw [beq_eq_false_iff_ne];omega
   have m0:mvR z0 z1 r=inR (outR r z0) z1:=by unfold mvR;rw [if_neg c0]
   by_cases c1:z0 < r
   · obtain ⟨q,hq⟩:∃q,r=q+1:=⟨r - 1,by omega⟩
     have b1:decide ((r:Int) > (z0:Int))=true:=decide_eq_true (by omega)
     have e1:IntKind.i64.wrap ((r:Int) - 1)=(q:Int):=by rw [IntKind.wrap_i64];omega
     have m1:outR r z0=q:=by unfold outR;rw [if_pos c1];omega
     rw [m1] at m0
     by_cases c2:z1≤q
     · have b2:decide ((q:Int)≥(z1:Int))=true:=decide_eq_true (by omega)
       have e2:wrap64 ((q:Int)+1)=(r:Int):=by rw [wrap64_id (by omega) (by omega)];omega
       have e9:mvR z0 z1 r=r:=by rw [m0];unfold inR;rw [if_pos c2];exact hq.symm
       rw [e9]
       clear hgoal m0 m1 hC hq
       go_enter Tryz.func204,Tryz.ntmps204
       go_wp2_with fail
       go_quiet (fail)
       go_wp2_with fail
       go_quiet (fail)
       go_wp2_with fail
       go_quiet (fail)
       go_wp2_with fail
       go_end0
       exact ⟨rfl,own_heap (Hst2.out q r) rfl,(Keep.setCell (F:=fun b=>b=gl) (Keep.drewN (Keep.setCell (F:=fun b=>b=gl) ((Keep.refl _ _).drewN _) (p:=⟨gl,k*2,none⟩) (.inl rfl) _) _) (p:=⟨gl,k*2,none⟩) (.inl rfl) _)⟩
     · have b2:decide ((q:Int)≥(z1:Int))=false:=decide_eq_false (by omega)
       have e9:mvR z0 z1 r=q:=by rw [m0];unfold inR;rw [if_neg c2]
       rw [e9]
       clear hgoal m0 m1 hC hq
       go_enter Tryz.func204,Tryz.ntmps204
       go_wp2_with fail
       go_quiet (fail)
       go_wp2_with fail
       go_quiet (fail)
       go_wp2_with fail
       go_quiet (fail)
       go_wp2_with fail
       go_end0
       exact ⟨rfl,own_heap (Hst.out q) rfl,Keep.drewN (Keep.setCell (F:=fun b=>b=gl) ((Keep.refl _ _).drewN _) (p:=⟨gl,k*2,none⟩) (.inl rfl) _) _⟩
   · have b1:decide ((r:Int) > (z0:Int))=false:=decide_eq_false (by omega)
     by_cases c2:z1≤r
     · have b2:decide ((r:Int)≥(z1:Int))=true:=decide_eq_true (by omega)
       have e2:wrap64 ((r:Int)+1)=((r+1:Nat):Int):=by rw [wrap64_id (by omega) (by omega)];omega
       have e9:mvR z0 z1 r=r+1:=by rw [m0];unfold outR;rw [if_neg c1];unfold inR;rw [if_pos c2]
       rw [e9]
       clear hgoal m0
       go_enter Tryz.func204,Tryz.ntmps204
       go_wp2_with fail
       go_quiet (fail)
       go_wp2_with fail
       go_quiet (fail)
       go_wp2_with fail
       go_quiet (fail)
       go_wp2_with fail
       go_end0
       exact ⟨rfl,own_heap (Hst.out (r+1)) rfl,(Keep.setCell (F:=fun b=>b=gl) ((Keep.refl _ _).drewN _) (p:=⟨gl,k*2,none⟩) (.inl rfl) _)⟩
     · have b2:decide ((r:Int)≥(z1:Int))=false:=decide_eq_false (by omega)
       have e9:mvR z0 z1 r=r:=by rw [m0];unfold outR;rw [if_neg c1];unfold inR;rw [if_neg c2]
       rw [e9,Hself.out]
       clear hgoal m0
       go_enter Tryz.func204,Tryz.ntmps204
       go_wp2_with fail
       go_quiet (fail)
       go_wp2_with fail
       go_quiet (fail)
       go_wp2_with fail
       go_quiet (fail)
       go_wp2_with fail
       go_end0
       exact ⟨rfl,H.out,(((Keep.refl _ _).drewN _).drewN _).drewN _⟩
theorem EachRowMove_any (B gp ga gx0 gx1 z0 z1:Nat) (vl vo vt vf:Value) (R P:Nat) (ks:List Nat) (C:List (Nat×Nat)) (tk:List Bool) (fr:List Nat) (w:World) (h:PermAt w B gp ga vl vo vt vf R P ks C tk fr) (hnd:ks.Nodup) (hl:ks.length≤1000000) (hx0:Bk w gx0 3 #[.int .i64 (z0:Int)]) (hgx0:∀b,vl.ownBlock=some b→b≠gx0) (hx1:Bk w gx1 3 #[.int .i64 (z1:Int)]) (hgx1:∀b,vl.ownBlock=some b→b≠gx1) (hC:∀k,k∈ks→rowK C k≤1000000000000∧posK C k≤1000000000000):
 Calls Tryz.prog 137 #[.pointer (some ⟨gp,0,none⟩),.func (.func 204) #[] #[.pointer (some ⟨gx0,0,none⟩),.pointer (some ⟨gx1,0,none⟩)]] w fun e w'=>e=.returned (.tuple #[])∧Keep (fun b=>vl.ownBlock=some b) w w'∧∃C',C'.length=C.length∧(∀k,k∈ks→(rowK C' k,posK C' k)=(mvR z0 z1 (rowK C k),posK C k))∧PermAt w' B gp ga vl vo vt vf R P ks C' tk fr:=by
 obtain ⟨A2,c2,hvo,_,_⟩:=own_shape h.orow
 have c2':w.cell? ⟨gp,2,none⟩=some (.slice A2 ks.length c2):=(h.blk.cell 2).trans (by rw [hvo];rfl)
 have hgp:=h.blk.lt
 obtain ⟨n,hn⟩:∃n,ks.length=n:=⟨_,rfl⟩
 rw [hn] at c2' hl
 have H:=lhd h
 have Hn:=lhd hn
 have Hvo:=lhd hvo
 have Hnd:=lhd hnd
 have HC:=lhd hC
 clear h hn hvo hnd hC
 go_enter Tryz.func137,Tryz.ntmps137
 go_wp2_with fail
 go_loopw [11] (fun i wr=>∃(j:Nat) (Cj:List (Nat×Nat)),j≤n∧i=.int .i64 (j:Int)∧Cj.length=C.length∧(∀k,k∈ks.take j→(rowK Cj k,posK Cj k)=(mvR z0 z1 (rowK C k),posK C k))∧(∀k,k∈ks.drop j→(rowK Cj k,posK Cj k)=(rowK C k,posK C k))∧PermAt wr B gp ga vl vo vt vf R P ks Cj tk fr∧Keep (fun b=>vl.ownBlock=some b) w wr) (fun i _=>n -(intOf i).toNat)
 case atStart=>exact ⟨0,C,Nat.zero_le _,rfl,rfl,fun k hk=>by simp at hk,fun k _=>rfl,H.out,Keep.refl _ _⟩
 case round=>
  obtain ⟨j,Cj,hj,rfl,hlen,hd1,hd2,hp,hk⟩:=hrel
  by_cases hlt:j < n
  · have hjl:j < ks.length:=by rw [Hn.out];exact hlt
    obtain ⟨k,hkj⟩:∃k,ks[j]?=some k:=⟨_,List.getElem?_eq_getElem hjl⟩
    have hkm:=List.mem_of_getElem? hkj
    have hkC:k < Cj.length:=hp.lt k hkm
    have ho2:=hp.orow
    rw [Hvo.out] at ho2
    obtain ⟨g2,k2,e2,_,hg2⟩:=World.ownsRow.form ho2 (by omega)
    injection e2 with e2a _ e2c
    subst e2a e2c
    have hlr:=hp.lrow
    obtain ⟨g1,k1,e1,_,hg1⟩:=World.ownsRow.form hlr (by omega)
    rw [e1] at hlr
    have d2:wr.cell? ⟨g2,j,none⟩=some (.int .i64 (k:Int)):=(World.ownsRow.cellAt ho2 j (by omega)).trans (by rw [List.getElem?_map,hkj];rfl)
    have d1:wr.cell? ⟨gp,1,none⟩=some (.slice (some ⟨g1,0,none⟩) Cj.length k1):=(hp.blk.cell 1).trans (by rw [e1];rfl)
    have hgpr:=hp.blk.lt
    have hsz:=hk.size
    have hkd:k∈ks.drop j:=by
        rw [List.drop_eq_getElem_cons hjl,List.getElem_eq_getElem?_get]
        simp [hkj]
    have hCk:(rowK Cj k,posK Cj k)=(rowK C k,posK C k):=hd2 k hkd
    injection hCk with hCr hCp
    have hxr:=fun (b:Nat) (e:Value.ownBlock vl=some b)=>(World.ownsRow.lt hp.lrow b e).2
    obtain ⟨N,hN⟩:∃N,Cj.length=N:=⟨_,rfl⟩
    rw [hN] at hlr d1 hkC
    have hxr0:=hk.bk hx0 (fun e=>hgx0 _ e rfl)
    have hxr1:=hk.bk hx1 (fun e=>hgx1 _ e rfl)
    have hkI:(k:Int) < (N:Int):=by omega
    have Hp:=lhd hp
    have Hk:=lhd hk
    have Hlr:=lhd hlr
    have Hkj:=lhd hkj
    have Hd1:=lhd hd1
    have Hd2:=lhd hd2
    have HN:=lhd hN
    have Hlen:=lhd hlen
    have He1:=lhd e1
    have HCr:=lhd hCr
    have HCp:=lhd hCp
    have Hkm:=lhd hkm
    clear hp hk hlr hkj hd1 hd2 hN hlen e1 hCr hCp hkm hkd ho2 hxr
    go_wp2_with fail
    refine (RowMoveC_any B g1 N k1 gx0 gx1 z0 z1 k Cj wr Hlr.out (by rw [HN.out];exact hkC) hxr0 hxr1 (by rw [HCr.out];exact (HC.out k Hkm.out).1)).mono ?_
    rintro e w1 ⟨rfl,hl1,hk1⟩
    have hC':PermAt w1 B gp ga vl vo vt vf R P ks (Cj.set k (mvR z0 z1 (rowK Cj k),posK Cj k)) tk fr:=by
        have hp:=Hp.out
        have hne:∀b t cs,t≠159→Bk wr b t cs→b≠g1:=fun b t cs ht hb e=>by
         subst e
         obtain ⟨cu,hcu⟩:=own_bk Hlr.out
         exact ht (bk_inj hb hcu).1
        refine ⟨hk1.bk hp.blk (hne _ _ _ (by decide) hp.blk),?_,own_same hp.orow fun b cs _ hb=>hk1.bk hb (hne _ _ _ (by decide) hb),hk1.bk hp.ar (hne _ _ _ (by decide) hp.ar),own_same hp.trow fun b cs _ hb=>hk1.bk hb (hne _ _ _ (by decide) hb),own_same hp.frow fun b cs _ hb=>hk1.bk hb (hne _ _ _ (by decide) hb),hp.apart,fun x hx=>by rw [List.length_set];exact hp.lt x hx,hp.lo⟩
        rw [List.length_set,HN.out,He1.out,HN.out]
        exact hl1
    have hk':Keep (fun b=>vl.ownBlock=some b) w w1:=Hk.out.trans (hk1.mono fun b _ e=>by rw [He1.out,show b=g1 from e];rfl)
    have hget:∀x,(rowK (Cj.set k (mvR z0 z1 (rowK Cj k),posK Cj k)) x,posK (Cj.set k (mvR z0 z1 (rowK Cj k),posK Cj k)) x)=if x=k then (mvR z0 z1 (rowK Cj k),posK Cj k) else (rowK Cj x,posK Cj x):=fun x=>by
        unfold rowK posK
        rw [List.getD_eq_getElem?_getD,List.getElem?_set]
        by_cases cx:k=x
        · subst cx
          rw [if_pos rfl,if_pos rfl,if_pos (by rw [HN.out];exact hkC)]
          rfl
        · rw [if_neg cx,if_neg (fun e=>cx e.symm),List.getD_eq_getElem?_getD]
    have hrel:∃(j':Nat) (Cj':List (Nat×Nat)),j'≤n∧Value.int .i64 ((j+1:Nat):Int)=.int .i64 (j':Int)∧Cj'.length=C.length∧(∀k,k∈ks.take j'→(rowK Cj' k,posK Cj' k)=(mvR z0 z1 (rowK C k),posK C k))∧(∀k,k∈ks.drop j'→(rowK Cj' k,posK Cj' k)=(rowK C k,posK C k))∧PermAt w1 B gp ga vl vo vt vf R P ks Cj' tk fr∧Keep (fun b=>vl.ownBlock=some b) w w1:=by
        refine ⟨j+1,_,by omega,rfl,by rw [List.length_set];exact Hlen.out,fun x hx=>?_,fun x hx=>?_,hC',hk'⟩
        · rw [hget]
          by_cases cx:x=k
          · subst cx
            rw [if_pos rfl,HCr.out,HCp.out]
          · rw [if_neg cx]
            refine Hd1.out x ?_
            rw [List.take_add_one,Hkj.out] at hx
            simp at hx
            rcases hx with hx | hx
            · exact hx
            · exact absurd hx cx
        · rw [hget]
          have hxk:x≠k:=fun e=>by
           subst e
           have hd:ks.drop j=x::ks.drop (j+1):=by
              have hjl:j < ks.length:=by rw [Hn.out];exact hlt
              rw [List.drop_eq_getElem_cons hjl]
              have h9:=Hkj.out
              rw [List.getElem?_eq_getElem hjl] at h9
              injection h9 with h9
              rw [h9]
           have hnd:=(List.drop_sublist j ks).nodup Hnd.out
           rw [hd,List.nodup_cons] at hnd
           exact hnd.1 hx
          rw [if_neg hxk]
          exact Hd2.out x (List.mem_of_mem_drop (by rw [←List.drop_drop] at hx;exact hx:x∈(ks.drop j).drop 1))
    have Hrel:=lhd hrel
    clear hC' hk' hget hrel hk1 hl1 d1 d2
    go_wp2_with fail
    go_roundw
    case rel=>exact Hrel.out
    case measure=>simp [intOf];omega
  · obtain rfl:j=n:=by omega
    have Hp:=lhd hp
    have Hk:=lhd hk
    have Hd1:=lhd hd1
    clear hp hk hd1 hd2
    go_wp2_with fail
    go_end0
    refine ⟨rfl,Hk.out,Cj,hlen,fun k hk=>Hd1.out k ?_,Hp.out⟩
    rw [List.take_of_length_le (by rw [Hn.out];exact Nat.le_refl _)]
    exact hk
end Go.Proofs.YtipaccakmndkgaaGreatDoor
namespace Go.Proofs.YtipaccakmndkgaaGreatDoor
section
variable {S R : List Nat} {N : Nat}
end
end Go.Proofs.YtipaccakmndkgaaGreatDoor
namespace Go.Proofs.YtipaccakmndkgaaGreatDoor
open Go.RowKit
def fillL (L:List Nat) (n k:Nat):Array Value:=((L.take k).map sv++List.replicate (n - k) (Value.int .i64 0)).toArray
theorem fillL_zero (L:List Nat) (n:Nat):fillL L n 0=Array.replicate n (Value.int .i64 0):=by
 unfold fillL
 apply Array.ext'
 simp
theorem fillL_all (L:List Nat) (n:Nat) (h:L.length=n):fillL L n n=(L.map sv).toArray:=by
 unfold fillL
 rw [List.take_of_length_le (by omega),Nat.sub_self]
 simp
theorem fillL_size (L:List Nat) (n k:Nat) (h:L.length=n) (hk:k≤n):(fillL L n k).size=n:=by
 unfold fillL
 simp
 omega
theorem fillL_set {L:List Nat} {n k s:Nat} (h:L.length=n) (hs:L[k]?=some s):(fillL L n k).setIfInBounds k (.int .i64 (s:Int))=fillL L n (k+1):=by
 have hk:=(List.getElem?_eq_some_iff.1 hs).1
 apply Array.ext'
 unfold fillL
 rw [Array.toList_setIfInBounds,List.take_add_one,hs]
 have e:n - k=(n -(k+1))+1:=by omega
 rw [e,List.replicate_succ]
 have hl:((L.take k).map sv).length=k:=by rw [List.length_map,List.length_take];omega
 show List.set ((L.take k).map sv++(Value.int .i64 0::List.replicate (n -(k+1)) (Value.int .i64 0))) k _=_
 rw [List.set_append_right _ _ (by omega),hl,Nat.sub_self,List.map_append,List.append_assoc]
 rfl
theorem made_of_bk {w:World} {B g n:Nat} {e:TypeId} {xs:List Value} (h:Bk w g e xs.toArray) (hB:B≤g) (hn:xs.length=n) (hm:n≤maxLen):Made w B e 1 (some ⟨g,0,none⟩) n n xs:=by
 have hown:w.ownsRow B e 1 (.slice (some ⟨g,0,none⟩) n n) n xs:=⟨by omega,.inr ⟨g,n,xs.toArray,rfl,hB,h,Nat.le_refl _,hm,by simp [hn],by rw [Nat.mul_one,List.take_of_length_le (by simp [hn])]⟩⟩
 exact ⟨hown,Rd.of_own hown,Nat.le_refl _,hm⟩
def WAllPost (w:World) (B:Nat) (L:List Nat) (e:Ending) (w':World):Prop:=∃A c,e=.returned (.slice A L.length c)∧Made w' w.heap.size 3 1 A L.length c (L.map sv)∧VB B w w'
theorem WaveAll_any (B gv:Nat) (L:List Nat) (w:World) (h:WaveAt w B gv L) (hL:∀x∈L,x < 257) (hn:L.length≤1000):
 Calls Tryz.prog 165 #[.pointer (some ⟨gv,0,none⟩)] w (WAllPost w B L):=by
 have hwA:=h
 obtain ⟨hBg,S,v,hb,hrows⟩:=h
 obtain ⟨n,hnn⟩:∃n,L.length=n:=⟨_,rfl⟩
 rw [hnn] at hb
 have c9:w.cell? ⟨gv,9,none⟩=some (.int .i64 (n:Int)):=(hb.cell 9).trans (wcells_get S n v).2.2.2.2.2.2.2.2.2.1
 have c10:w.cell? ⟨gv,10,none⟩=some (.int .i64 v):=(hb.cell 10).trans (wcells_get S n v).2.2.2.2.2.2.2.2.2.2
 have hlt:=hb.lt
 have hmk:=run_ints n (by omega)
 have HwA:=lhd hwA
 have Hb:=lhd hb
 have HL:=lhd hL
 have HN:=lhd hnn
 have Hn:=lhd hn
 rw [hnn] at hn
 clear hwA hb hL hnn hrows
 unfold WAllPost
 go_enter Tryz.func165,Tryz.ntmps165
 go_wp2_with fail
 have hbk0:Bk (w.alloc (.cells (Array.replicate n (.int .i64 0)) 3)) w.heap.size 3 (fillL L n 0):=by
  rw [fillL_zero]
  exact Bk.new _ _ _
 have hv0:VB B w (w.alloc (.cells (Array.replicate n (.int .i64 0)) 3)):=(VisK.refl _ _).alloc _
 go_loopw [19] (fun i wr=>∃k:Nat,k≤n∧i=.int .i64 (k:Int)∧Bk wr w.heap.size 3 (fillL L n k)∧VB B w wr) (fun i _=>n -(intOf i).toNat)
 case atStart=>exact ⟨0,Nat.zero_le _,rfl,hbk0,hv0⟩
 case round=>
  obtain ⟨k,hk,rfl,hbk,hv⟩:=hrel
  clear hbk0 hv0 hmk c9 c10
  have hsz:=hv.1.size
  have Hbk:=lhd hbk
  have Hv:=lhd hv
  clear hbk hv
  by_cases hlt2:k < n
  · obtain ⟨s,hs⟩:∃s,L[k]?=some s:=⟨_,List.getElem?_eq_getElem (by rw [HN.out];exact hlt2)⟩
    have Hs:=lhd hs
    clear hs
    go_wp2_with fail
    refine (WaveGet_any B gv L k s wr (HwA.out.vis Hv.out.1) (by rw [HN.out];exact hlt2) (List.getElem?_eq_some_iff.1 Hs.out).2 HL.out Hn.out).mono ?_
    rintro e w2 ⟨rfl,hv2⟩
    have hbk2:=hv2.1.bk Hbk.out (by decide) (by decide)
    have hv3:=Hv.out.trans hv2
    have hgl:=hbk2.lt
    have hfz:=hbk2.frozen k
    have hbk3:=hbk2.set k (.int .i64 (s:Int))
    rw [fillL_set HN.out Hs.out] at hbk3
    have hcell:∃u,w2.cell? ⟨w.heap.size,k,none⟩=some u:=⟨_,(hbk2.cell k).trans (Array.getElem?_eq_getElem (by rw [fillL_size L n k HN.out (by omega)];exact hlt2))⟩
    obtain ⟨u,hu⟩:=hcell
    have hv4:VB B w (w2.setCell ⟨w.heap.size,k,none⟩ (.int .i64 (s:Int))):=⟨Vis.fresh hv3.1 (p:=⟨w.heap.size,k,none⟩) (Nat.le_refl _) _,Keep.setCell hv3.2 (p:=⟨w.heap.size,k,none⟩) (.inr (Nat.le_refl _)) _⟩
    have Hbk3:=lhd hbk3
    have Hv4:=lhd hv4
    clear hbk2 hbk3 hv2 hv3 hv4
    go_wp2_with fail
    go_roundw
    case rel=>exact ⟨k+1,by omega,by go_num,Hbk3.out,Hv4.out⟩
    case measure=>simp [intOf];omega
  · obtain rfl:k=n:=by omega
    have hbk9:=Hbk.out
    rw [fillL_all L k HN.out] at hbk9
    obtain ⟨v9,hb9⟩:=Hv.out.1.waveC Hb.out
    have c10:wr.cell? ⟨gv,10,none⟩=some (.int .i64 v9):=(hb9.cell 10).trans (wcells_get S k v9).2.2.2.2.2.2.2.2.2.2
    have f10:=hb9.frozen 10
    have hg9:=hb9.lt
    have hv9:=Hv.out.trans (VB.set_wave hb9 hBg v)
    have hne:=Bk.ne hbk9 hb9 (by decide)
    have hbk8:=hbk9.far (p:=⟨gv,10,none⟩) hne (.int .i64 v)
    have hmade:=made_of_bk (B:=w.heap.size) (n:=k) hbk8 (Nat.le_refl _) (by rw [List.length_map];exact HN.out) (by unfold maxLen;omega)
    have Hm:=lhd hmade
    have Hv9:=lhd hv9
    clear hbk9 hb9 hv9 hbk8 hmade hne
    go_wp2_with fail
    go_ret
    exact ⟨_,_,by rw [HN.out];rfl,by rw [HN.out];exact Hm.out,Hv9.out⟩
theorem WalkAll_any (B gk:Nat) (L:List Nat) (w:World) (h:WalkAt w B gk L) (hL:∀x∈L,x < 257) (hn:L.length≤1000):
 Calls Tryz.prog 93 #[.pointer (some ⟨gk,0,none⟩)] w (WAllPost w B L):=by
 obtain ⟨gv,gt,h1,h2,h3⟩:=h
 have c0:=h1.cell 0
 have hall:=WaveAll_any B gv L w h2 hL hn
 unfold WAllPost at hall⊢
 obtain ⟨n,hnn⟩:∃n,L.length=n:=⟨_,rfl⟩
 rw [hnn] at hall⊢
 clear h1 h2 h3 hnn hn
 go_enter Tryz.func93,Tryz.ntmps93
 go_wp2_with fail
 refine hall.mono ?_
 rintro e w2 ⟨A,c,rfl,hm,hv⟩
 have Hm:=lhd hm
 have Hv:=lhd hv
 clear hall hm hv
 go_wp2_with fail
 go_ret
 exact ⟨A,c,rfl,Hm.out,Hv.out⟩
theorem LiveLast_any (Bw gl gk gp N rate:Nat) (L:List Nat) (C:List (Nat×Nat)) (w:World) (h:LiveG w Bw gl gk gp rate N L C) (hL:∀x∈L,x < 257) (hn:L.length≤1000):
 Calls Tryz.prog 27 #[.pointer (some ⟨gl,0,none⟩)] w (WAllPost w Bw L):=by
 obtain ⟨mv,hblk⟩:=h.blk
 have c0:=hblk.cell 0
 have hall:=WalkAll_any Bw gk L w h.walk hL hn
 clear hblk
 unfold WAllPost at hall⊢
 obtain ⟨n,hnn⟩:∃n,L.length=n:=⟨_,rfl⟩
 rw [hnn] at hall⊢
 clear h hnn hn
 go_enter Tryz.func27,Tryz.ntmps27
 go_wp2_with fail
 refine hall.mono ?_
 rintro e w2 ⟨A,c,rfl,hm,hv⟩
 have Hm:=lhd hm
 have Hv:=lhd hv
 clear hall hm hv
 go_wp2_with fail
 go_ret
 exact ⟨A,c,rfl,Hm.out,Hv.out⟩
end Go.Proofs.YtipaccakmndkgaaGreatDoor
