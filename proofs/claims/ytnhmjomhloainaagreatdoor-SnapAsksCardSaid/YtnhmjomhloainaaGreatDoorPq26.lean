/- Parts of the walk, joined from several texts. Conditions: what each lemma says. -/
import Derived.Test.YtnhmjomhloainaaGreatDoorPq25
set_option linter.all false
set_option maxRecDepth 100000
set_option maxHeartbeats 2000000
namespace Go.Proofs.YtnhmjomhloainaaGreatDoor
open Go.RowKit
structure PermX (w:World) (F:Nat->Prop) (gp ga:Nat) (vl vo vt vf:Value) (R P:Nat) (ks:List Nat) (C:List (Nat×Nat)) (tk:List Bool) (fr:List Nat):Prop where
 at_:PermAt w 0 gp ga vl vo vt vf R P ks C tk fr
 fp:F gp
 fa:F ga
 fl:OwnF F vl
 fo:OwnF F vo
 ft:OwnF F vt
 ff:OwnF F vf
 nd:ks.Nodup
 tkl:tk.length=C.length
 tkk:∀k,tk[k]?=some true↔k∈ks
 frn:fr.Nodup
 frk:∀k,k∈fr↔tk[k]?=some false
 sz:C.length<=1000
def PermE (w:World) (F:Nat->Prop) (gp R P:Nat) (pr:List (Nat×Nat)):Prop:=
 (∃ga vl vo vt vf ks C tk fr,PermX w F gp ga vl vo vt vf R P ks C tk fr/\pr=ks.map fun k=>(aC C k,aF C k))/\pr.Pairwise (fun a b=>a.1 < b.1)/\∀x∈pr,x.1 < R/\x.2 < P
theorem PermAt.vis2 {w w':World} {B gp ga:Nat} {vl vo vt vf:Value} {R P:Nat} {ks:List Nat} {C:List (Nat×Nat)} {tk:List Bool} {fr:List Nat} (h:PermAt w B gp ga vl vo vt vf R P ks C tk fr) (k:Vis w w'):PermAt w' B gp ga vl vo vt vf R P ks C tk fr:=
 ⟨k.bk h.blk dC dC,k.own h.lrow dC dC,k.own h.orow dC dC,k.bk h.ar dC dC,k.own h.trow dC dC,k.own h.frow dC dC,h.apart,h.lt,h.lo⟩
section
variable {w w' : World} {F G : Nat -> Prop} {gp R P : Nat} {pr : List (Nat × Nat)}
theorem PermE.vis (h:PermE w F gp R P pr) (k:Vis w w'):PermE w' F gp R P pr:=by
 obtain ⟨⟨ga,vl,vo,vt,vf,ks,C,tk,fr,hx,e⟩,h2,h3⟩:=h;exact ⟨⟨ga,vl,vo,vt,vf,ks,C,tk,fr,⟨hx.at_.vis2 k,hx.fp,hx.fa,hx.fl,hx.fo,hx.ft,hx.ff,hx.nd,hx.tkl,hx.tkk,hx.frn,hx.frk,hx.sz⟩,e⟩,h2,h3⟩
theorem PermE.mono (h:PermE w F gp R P pr) (k:∀b,b < w.heap.size->F b->G b):PermE w G gp R P pr:=by
 obtain ⟨⟨ga,vl,vo,vt,vf,ks,C,tk,fr,hx,e⟩,h2,h3⟩:=h;have a:=hx.at_;exact ⟨⟨ga,vl,vo,vt,vf,ks,C,tk,fr,⟨a,k _ a.blk.lt hx.fp,k _ a.ar.lt hx.fa,fun b hb=>k b (a.lrow.lt b hb).2 (hx.fl b hb),fun b hb=>k b (a.orow.lt b hb).2 (hx.fo b hb),fun b hb=>k b (a.trow.lt b hb).2 (hx.ft b hb),fun b hb=>k b (a.frow.lt b hb).2 (hx.ff b hb),hx.nd,hx.tkl,hx.tkk,hx.frn,hx.frk,hx.sz⟩,e⟩,h2,h3⟩
theorem PermE.keep (h:PermE w F gp R P pr) (k:Keep G w w') (hf:∀b,F b->¬G b):PermE w' F gp R P pr:=by
 obtain ⟨⟨ga,vl,vo,vt,vf,ks,C,tk,fr,hx,e⟩,h2,h3⟩:=h;have a:=hx.at_;refine ⟨⟨ga,vl,vo,vt,vf,ks,C,tk,fr,⟨⟨k.bk a.blk (hf _ hx.fp),aB a.lrow fun b cs hb hk=>k.bk hk (hf _ (hx.fl b hb)),aB a.orow fun b cs hb hk=>k.bk hk (hf _ (hx.fo b hb)),k.bk a.ar (hf _ hx.fa),aB a.trow fun b cs hb hk=>k.bk hk (hf _ (hx.ft b hb)),aB a.frow fun b cs hb hk=>k.bk hk (hf _ (hx.ff b hb)),a.apart,a.lt,a.lo⟩,hx.fp,hx.fa,hx.fl,hx.fo,hx.ft,hx.ff,hx.nd,hx.tkl,hx.tkk,hx.frn,hx.frk,hx.sz⟩,e⟩,h2,h3⟩
theorem PermE.below (h:PermE w F gp R P pr) (k:Below w.heap.size w w'):PermE w' F gp R P pr:=h.keep (G:=fun _=>False) (Keep.of_below k) fun _ _ f=>f
end
theorem PermAt.set_rows {w:World} {B gp ga:Nat} {vl vo vt vf:Value} {R P:Nat} {ks:List Nat} {C:List (Nat×Nat)} {tk:List Bool} {fr:List Nat} (h:PermAt w B gp ga vl vo vt vf R P ks C tk fr) (R':Nat):PermAt (w.setCell ⟨gp,3,none⟩ (.int .i64 (R':Int))) B gp ga vl vo vt vf R' P ks C tk fr:=by
 have k:Keep (fun b=>b=gp) w (w.setCell ⟨gp,3,none⟩ (.int .i64 (R':Int))):=Keep.setCell (F:=fun b=>b=gp) (Keep.refl _ _) (p:=⟨gp,3,none⟩) (.inl rfl) _;exact ⟨h.blk.set 3 _,aB h.lrow fun b cs _ hk=>k.bk hk (Bk.ne hk h.blk dC),aB h.orow fun b cs _ hk=>k.bk hk (Bk.ne hk h.blk dC),k.bk h.ar (Bk.ne h.ar h.blk dC),aB h.trow fun b cs _ hk=>k.bk hk (Bk.ne hk h.blk dC),aB h.frow fun b cs _ hk=>k.bk hk (Bk.ne hk h.blk dC),h.apart,h.lt,h.lo⟩
theorem PermAt.set_places {w:World} {B gp ga:Nat} {vl vo vt vf:Value} {R P:Nat} {ks:List Nat} {C:List (Nat×Nat)} {tk:List Bool} {fr:List Nat} (h:PermAt w B gp ga vl vo vt vf R P ks C tk fr) (P':Nat):PermAt (w.setCell ⟨gp,4,none⟩ (.int .i64 (P':Int))) B gp ga vl vo vt vf R P' ks C tk fr:=by
 have k:Keep (fun b=>b=gp) w (w.setCell ⟨gp,4,none⟩ (.int .i64 (P':Int))):=Keep.setCell (F:=fun b=>b=gp) (Keep.refl _ _) (p:=⟨gp,4,none⟩) (.inl rfl) _;exact ⟨h.blk.set 4 _,aB h.lrow fun b cs _ hk=>k.bk hk (Bk.ne hk h.blk dC),aB h.orow fun b cs _ hk=>k.bk hk (Bk.ne hk h.blk dC),k.bk h.ar (Bk.ne h.ar h.blk dC),aB h.trow fun b cs _ hk=>k.bk hk (Bk.ne hk h.blk dC),aB h.frow fun b cs _ hk=>k.bk hk (Bk.ne hk h.blk dC),h.apart,h.lt,h.lo⟩
theorem zW {ks:List Nat} {C C':List (Nat×Nat)} {f:Nat×Nat->Nat×Nat} (h:∀k,k∈ks->(aC C' k,aF C' k)=f (aC C k,aF C k)):(ks.map fun k=>(aC C' k,aF C' k))=(ks.map fun k=>(aC C k,aF C k)).map f:=by
 rw [zCg];exact List.map_congr_left fun k hk=>h k hk
theorem aIs {a b z:Nat} (h:a < b):inR a z < inR b z:=by
 unfold inR;split <;> split <;> omega
theorem fZ:∀ {n:Nat} {ks:List Nat},ks.Nodup->(∀k∈ks,k < n)->ks.length<=n
 | 0,ks,_,hl=>by
   cases ks with
   | nil=>exact zAs _
   | cons k ks=>exact absurd (hl k (by simp)) oM
 | n+1,ks,h,hl=>by
   have h1:=fZ (n:=n) (h.erase n) fun k hk=>by have h2:=(h.mem_erase_iff).1 hk;have:=hl k h2.2;omega
   by_cases c:n∈ks;have:=List.length_erase_of_mem c;omega;rw [List.erase_of_not_mem c] at h1;omega
theorem xV (F:Nat->Prop) (gp R P z:Nat) (pr:List (Nat×Nat)) (w:World) (h:PermE w F gp R P pr) (hz:z<=R) (hR:R<=100000) (hP:P<=100000):
 Calls Tryz.prog 64 #[.pointer (some ⟨gp,0,none⟩),.int .i64 (z:Int)] w fun e w'=>e=.returned (.int .i64 0)/\PermE w' F gp (R+1) P (pr.map fun x=>(inR x.1 z,x.2))/\Keep F w w':=by
 obtain ⟨⟨ga,vl,vo,vt,vf,ks,C,tk,fr,hx,rfl⟩,hsort,hbd⟩:=h;have hat:=hx.at_;have c3:w.cell? ⟨gp,3,none⟩=some (.int .i64 (R:Int)):=(hat.blk.cell 3).trans rfl;have f3:=hat.blk.frozen 3;have hgp:=hat.blk.lt;have hzR:¬((z:Int) > (R:Int)):=oM;have hzN:¬R < z:=oM;have hz0:decide ((z:Int) < 0)=false:=by simp
 have e1:wrap64 ((R:Int)+1)=((R+1:Nat):Int):=by rw [dL oM oM];rfl
 obtain ⟨HX,Hsort,Hbd⟩:=hqq3 hx hsort hbd;clear hx hat hsort hbd;go_enter Tryz.func64,Tryz.ntmps64;go_wp2_with fail;go_quiet (fail)
 rename_i nq
 have c3q:∀q,((w.alloc (.cells #[.int .i64 (z:Int)] 3)).drewN q).cell? ⟨gp,3,none⟩=some (.int .i64 (R:Int)):=fun q=>(World.cell?_alloc_lt w _ ⟨gp,3,none⟩ hgp).trans c3;have hmf:∀(fn:Fn) (first cap:Array Value) (w:World),(Instr.makeFunc fn first cap).run Tryz.prog w=.ok (.func fn first cap) w:=fun _ _ _ _=>rfl;go_wp2_with fail;have hatA:=HX.out.at_.below (bR.alloc nL (.cells #[.int .i64 (z:Int)] 3));have hat1:PermAt ((w.alloc (.cells #[.int .i64 (z:Int)] 3)).drewN nq) 0 gp ga vl vo vt vf R P ks C tk fr:=hatA.below (below_drewN bR _);have hat2:=hat1.set_rows (R+1);have hgx1:Bk ((w.alloc (.cells #[.int .i64 (z:Int)] 3)).drewN nq) w.heap.size 3 #[.int .i64 (z:Int)]:=Bk.new w _ _;have hgx2:=hgx1.far (p:=⟨gp,3,none⟩) (fun e=>by have e':w.heap.size=gp:=e;omega) (.int .i64 ((R+1:Nat):Int));have hvl:∀b,vl.ownBlock=some b->b≠w.heap.size:=fun b hb e=>by have:=(HX.out.at_.lrow.lt b hb).2;omega
 have hC:∀k,k∈ks->aC C k<=1000000000000/\aF C k<=1000000000000:=fun k hk=>by have:=Hbd.out (aC C k,aF C k) (zAy.2 ⟨k,hk,rfl⟩);have h1:aC C k < R:=this.1;have h2:aF C k < P:=this.2;omega
 have hkl:=fZ HX.out.nd HX.out.at_.lt;refine (yD 0 gp ga w.heap.size z vl vo vt vf (R+1) P ks C tk fr _ hat2 HX.out.nd (by have:=HX.out.sz;omega) hgx2 hvl hC).mono ?_;rintro e w2 ⟨rfl,hk2,C',hl',hf',hat3⟩;have hkF:Keep F w w2:=(Keep.setCell (F:=F) (((Keep.refl _ _).alloc _).drewN _) (p:=⟨gp,3,none⟩) (.inl HX.out.fp) _).trans (hk2.mono fun b _ hb=>HX.out.fl b hb);have hE:PermE w2 F gp (R+1) P ((ks.map fun k=>(aC C k,aF C k)).map fun x=>(inR x.1 z,x.2)):=by
  refine ⟨⟨ga,vl,vo,vt,vf,ks,C',tk,fr,⟨hat3,HX.out.fp,HX.out.fa,HX.out.fl,HX.out.fo,HX.out.ft,HX.out.ff,HX.out.nd,by rw [hl'];exact HX.out.tkl,HX.out.tkk,HX.out.frn,HX.out.frk,by rw [hl'];exact HX.out.sz⟩,(zW (f:=fun x=>(inR x.1 z,x.2)) hf').symm⟩,?_,fun x hx=>?_⟩;exact List.pairwise_map.2 (Hsort.out.imp fun {a b} hab=>aIs hab)
  · obtain ⟨y,hy,rfl⟩:=zAy.1 hx;have:=Hbd.out y hy;have h9:∀a,inR a z<=a+1:=fun a=>by unfold inR;split <;> omega
    have h8:=h9 y.1;have h7:=h9 y.2;constructor;show inR y.1 z < _;omega;show y.2 < _;omega
 obtain ⟨HE,HkF⟩:=hqq2 hE hkF;clear hkF hE hat3 hf' hk2 hl' hC hvl hgx2 hgx1 hat2 hat1 hatA;go_wp2_with fail;go_ret;exact ⟨rfl,HE.out,HkF.out⟩
theorem xX (F:Nat->Prop) (gp R P z:Nat) (pr:List (Nat×Nat)) (w:World) (h:PermE w F gp R P pr) (hz:z<=P) (hR:R<=100000) (hP:P<=100000):
 Calls Tryz.prog 65 #[.pointer (some ⟨gp,0,none⟩),.int .i64 (z:Int)] w fun e w'=>e=.returned (.int .i64 0)/\PermE w' F gp R (P+1) (pr.map fun x=>(x.1,inR x.2 z))/\Keep F w w':=by
 obtain ⟨⟨ga,vl,vo,vt,vf,ks,C,tk,fr,hx,rfl⟩,hsort,hbd⟩:=h;have hat:=hx.at_;have c3:w.cell? ⟨gp,4,none⟩=some (.int .i64 (P:Int)):=(hat.blk.cell 4).trans rfl;have f3:=hat.blk.frozen 4;have hgp:=hat.blk.lt;have hzR:¬((z:Int) > (P:Int)):=oM;have hzN:¬P < z:=oM;have hz0:decide ((z:Int) < 0)=false:=by simp
 have e1:wrap64 ((P:Int)+1)=((P+1:Nat):Int):=by rw [dL oM oM];rfl
 obtain ⟨HX,Hsort,Hbd⟩:=hqq3 hx hsort hbd;clear hx hat hsort hbd;go_enter Tryz.func65,Tryz.ntmps65;go_wp2_with fail;go_quiet (fail)
 rename_i nq
 have c3q:∀q,((w.alloc (.cells #[.int .i64 (z:Int)] 3)).drewN q).cell? ⟨gp,4,none⟩=some (.int .i64 (P:Int)):=fun q=>(World.cell?_alloc_lt w _ ⟨gp,4,none⟩ hgp).trans c3;have hmf:∀(fn:Fn) (first cap:Array Value) (w:World),(Instr.makeFunc fn first cap).run Tryz.prog w=.ok (.func fn first cap) w:=fun _ _ _ _=>rfl;go_wp2_with fail;have hatA:=HX.out.at_.below (bR.alloc nL (.cells #[.int .i64 (z:Int)] 3));have hat1:PermAt ((w.alloc (.cells #[.int .i64 (z:Int)] 3)).drewN nq) 0 gp ga vl vo vt vf R P ks C tk fr:=hatA.below (below_drewN bR _);have hat2:=hat1.set_places (P+1);have hgx1:Bk ((w.alloc (.cells #[.int .i64 (z:Int)] 3)).drewN nq) w.heap.size 3 #[.int .i64 (z:Int)]:=Bk.new w _ _;have hgx2:=hgx1.far (p:=⟨gp,4,none⟩) (fun e=>by have e':w.heap.size=gp:=e;omega) (.int .i64 ((P+1:Nat):Int));have hvl:∀b,vl.ownBlock=some b->b≠w.heap.size:=fun b hb e=>by have:=(HX.out.at_.lrow.lt b hb).2;omega
 have hC:∀k,k∈ks->aC C k<=1000000000000/\aF C k<=1000000000000:=fun k hk=>by have:=Hbd.out (aC C k,aF C k) (zAy.2 ⟨k,hk,rfl⟩);have h1:aC C k < R:=this.1;have h2:aF C k < P:=this.2;omega
 have hkl:=fZ HX.out.nd HX.out.at_.lt;refine (yE 0 gp ga w.heap.size z vl vo vt vf R (P+1) ks C tk fr _ hat2 HX.out.nd (by have:=HX.out.sz;omega) hgx2 hvl hC).mono ?_;rintro e w2 ⟨rfl,hk2,C',hl',hf',hat3⟩;have hkF:Keep F w w2:=(Keep.setCell (F:=F) (((Keep.refl _ _).alloc _).drewN _) (p:=⟨gp,4,none⟩) (.inl HX.out.fp) _).trans (hk2.mono fun b _ hb=>HX.out.fl b hb);have hE:PermE w2 F gp R (P+1) ((ks.map fun k=>(aC C k,aF C k)).map fun x=>(x.1,inR x.2 z)):=by
  refine ⟨⟨ga,vl,vo,vt,vf,ks,C',tk,fr,⟨hat3,HX.out.fp,HX.out.fa,HX.out.fl,HX.out.fo,HX.out.ft,HX.out.ff,HX.out.nd,by rw [hl'];exact HX.out.tkl,HX.out.tkk,HX.out.frn,HX.out.frk,by rw [hl'];exact HX.out.sz⟩,(zW (f:=fun x=>(x.1,inR x.2 z)) hf').symm⟩,?_,fun x hx=>?_⟩;exact List.pairwise_map.2 (Hsort.out.imp fun {a b} hab=>hab)
  · obtain ⟨y,hy,rfl⟩:=zAy.1 hx;have:=Hbd.out y hy;have h9:∀a,inR a z<=a+1:=fun a=>by unfold inR;split <;> omega
    have h8:=h9 y.1;have h7:=h9 y.2;constructor;show y.1 < _;omega;show inR y.2 z < _;omega
 obtain ⟨HE,HkF⟩:=hqq2 hE hkF;clear hkF hE hat3 hf' hk2 hl' hC hvl hgx2 hgx1 hat2 hat1 hatA;go_wp2_with fail;go_ret;exact ⟨rfl,HE.out,HkF.out⟩
theorem aAy (B gl n c gx0 gx1 z0 z1 k:Nat) (C:List (Nat×Nat)) (w:World) (h:w.ownsRow B 159 2 (.slice (some ⟨gl,0,none⟩) n c) n (bO C)) (hk:k < C.length) (hx0:Bk w gx0 3 #[.int .i64 (z0:Int)]) (hx1:Bk w gx1 3 #[.int .i64 (z1:Int)]) (hC:aC C k<=1000000000000):
 Calls Tryz.prog 201 #[.pointer (some ⟨gl,k*2,none⟩),.pointer (some ⟨gx0,0,none⟩),.pointer (some ⟨gx1,0,none⟩)] w fun e w'=>e=.returned (.tuple #[])/\w'.ownsRow B 159 2 (.slice (some ⟨gl,0,none⟩) n c) n (bO (C.set k (mvR z0 z1 (aC C k),aF C k)))/\Keep (fun b=>b=gl) w w':=by
 obtain ⟨p0,p1⟩:=cD C k hk;have hn:C.length=n:=by have h1:=h.1;rw [cW] at h1;omega
 have d0:=(World.ownsRow.cellAt h (k*2) oM).trans p0;have x0:w.cell? ⟨gx0,0,none⟩=some (.int .i64 (z0:Int)):=(hx0.cell 0).trans rfl;have x1:w.cell? ⟨gx1,0,none⟩=some (.int .i64 (z1:Int)):=(hx1.cell 0).trans rfl;obtain ⟨cur,hcur⟩:=eY h;have fr:=hcur.frozen (k*2);have hgl:=hcur.lt;have hgx0:=hx0.lt;have hgx1:=hx1.lt;have n0:gx0≠gl:=Bk.ne hx0 hcur dC;have n1:gx1≠gl:=Bk.ne hx1 hcur dC;have hself:=kC C k hk;have hset:=fun v=>jN C k v hk;obtain ⟨r,hr⟩:=eqx (aC C k);rw [hr] at d0 hself hC;rw [hr];obtain ⟨H,Hself,Hset⟩:=hqq3 h hself hset;have hst:∀v:Nat,(w.setCell ⟨gl,k*2,none⟩ (.int .i64 (v:Int))).ownsRow B 159 2 (.slice (some ⟨gl,0,none⟩) n c) n (bO (C.set k (v,aF C k))):=fun v=>by have:=(World.ownsRow.stored H.out (k*2) (.int .i64 (v:Int))).1;rwa [Hset.out] at this
 have hst2:∀u v:Nat,((w.setCell ⟨gl,k*2,none⟩ (.int .i64 (u:Int))).setCell ⟨gl,k*2,none⟩ (.int .i64 (v:Int))).ownsRow B 159 2 (.slice (some ⟨gl,0,none⟩) n c) n (bO (C.set k (v,aF C k))):=fun u v=>by have h1:=(World.ownsRow.stored (World.ownsRow.stored H.out (k*2) (.int .i64 (u:Int))).1 (k*2) (.int .i64 (v:Int))).1;rw [List.set_set,Hset.out] at h1;exact h1
 have hkk:∀v:Value,Keep (fun b=>b=gl) w (w.setCell ⟨gl,k*2,none⟩ v):=fun v=>Keep.setCell (F:=fun b=>b=gl) (Keep.refl _ _) (p:=⟨gl,k*2,none⟩) (.inl rfl) _;obtain ⟨Hst,Hst2,Hkk⟩:=hqq3 hst hst2 hkk;clear h hk hx0 hx1 p0 p1 hcur hself hset hn hr hst hst2 hkk;have hgoal:∀v:Nat,mvR z0 z1 r=v->C.set k (mvR z0 z1 r,aF C k)=C.set k (v,aF C k):=fun v e=>by rw [e]
 by_cases c0:r=z0
 · subst c0;have e9:mvR r z1 r=z1:=(by unfold mvR;rw [zBx rfl]);rw [e9];clear hgoal;go_enter Tryz.func201,Tryz.ntmps201;go_wp2_with fail;go_quiet (fail);go_wp2_with fail;refine bodyPost_ret (results_none rfl _ _ _) rfl ?_;exact ⟨rfl,pM (Hst.out z1) rfl,(Keep.setCell (F:=fun b=>b=gl) ((Keep.refl _ _).drewN _) (p:=⟨gl,k*2,none⟩) (.inl rfl) _)⟩
 · have b0:((r:Int)==(z0:Int))=false:=(by rw [zCb];omega);have m0:mvR z0 z1 r=inR (bM r z0) z1:=(by unfold mvR;rw [zBw c0]);by_cases c1:z0 < r
   · obtain ⟨q,hq⟩:∃q,r=q+1:=⟨r - 1,by omega⟩;have b1:decide ((r:Int) > (z0:Int))=true:=zBz oM;have e1:IntKind.i64.wrap ((r:Int) - 1)=(q:Int):=(by rw [IntKind.wrap_i64];omega);have m1:bM r z0=q:=(by unfold bM;rw [zBx c1];omega);rw [m1] at m0;by_cases c2:z1<=q
     · have b2:decide ((q:Int)>=(z1:Int))=true:=zBz oM;have e2:wrap64 ((q:Int)+1)=(r:Int):=(by rw [dL oM oM];omega);have e9:mvR z0 z1 r=r:=(by rw [m0];unfold inR;rw [zBx c2];exact hq.symm);rw [e9];clear hgoal m0 m1 hC hq;go_enter Tryz.func201,Tryz.ntmps201;go_wp2_with fail;go_quiet (fail);go_wp2_with fail;go_quiet (fail);go_wp2_with fail;go_quiet (fail);go_wp2_with fail;go_end0;exact ⟨rfl,pM (Hst2.out q r) rfl,(Keep.setCell (F:=fun b=>b=gl) (Keep.drewN (Keep.setCell (F:=fun b=>b=gl) ((Keep.refl _ _).drewN _) (p:=⟨gl,k*2,none⟩) (.inl rfl) _) _) (p:=⟨gl,k*2,none⟩) (.inl rfl) _)⟩
     · have b2:decide ((q:Int)>=(z1:Int))=false:=zBy oM;have e9:mvR z0 z1 r=q:=(by rw [m0];unfold inR;rw [zBw c2]);rw [e9];clear hgoal m0 m1 hC hq;go_enter Tryz.func201,Tryz.ntmps201;go_wp2_with fail;go_quiet (fail);go_wp2_with fail;go_quiet (fail);go_wp2_with fail;go_quiet (fail);go_wp2_with fail;go_end0;exact ⟨rfl,pM (Hst.out q) rfl,Keep.drewN (Keep.setCell (F:=fun b=>b=gl) ((Keep.refl _ _).drewN _) (p:=⟨gl,k*2,none⟩) (.inl rfl) _) _⟩
   · have b1:decide ((r:Int) > (z0:Int))=false:=zBy oM;by_cases c2:z1<=r
     · have b2:decide ((r:Int)>=(z1:Int))=true:=zBz oM;have e2:wrap64 ((r:Int)+1)=((r+1:Nat):Int):=(by rw [dL oM oM];omega);have e9:mvR z0 z1 r=r+1:=(by rw [m0];unfold bM;rw [zBw c1];unfold inR;rw [zBx c2]);rw [e9];clear hgoal m0;go_enter Tryz.func201,Tryz.ntmps201;go_wp2_with fail;go_quiet (fail);go_wp2_with fail;go_quiet (fail);go_wp2_with fail;go_quiet (fail);go_wp2_with fail;go_end0;exact ⟨rfl,pM (Hst.out (r+1)) rfl,(Keep.setCell (F:=fun b=>b=gl) ((Keep.refl _ _).drewN _) (p:=⟨gl,k*2,none⟩) (.inl rfl) _)⟩
     · have b2:decide ((r:Int)>=(z1:Int))=false:=zBy oM;have e9:mvR z0 z1 r=r:=(by rw [m0];unfold bM;rw [zBw c1];unfold inR;rw [zBw c2]);rw [e9,Hself.out];clear hgoal m0;go_enter Tryz.func201,Tryz.ntmps201;go_wp2_with fail;go_quiet (fail);go_wp2_with fail;go_quiet (fail);go_wp2_with fail;go_quiet (fail);go_wp2_with fail;go_end0;exact ⟨rfl,H.out,(((Keep.refl _ _).drewN _).drewN _).drewN _⟩
theorem tC (B gp ga gx0 gx1 z0 z1:Nat) (vl vo vt vf:Value) (R P:Nat) (ks:List Nat) (C:List (Nat×Nat)) (tk:List Bool) (fr:List Nat) (w:World) (h:PermAt w B gp ga vl vo vt vf R P ks C tk fr) (hnd:ks.Nodup) (hl:ks.length<=1000000) (hx0:Bk w gx0 3 #[.int .i64 (z0:Int)]) (hgx0:∀b,vl.ownBlock=some b->b≠gx0) (hx1:Bk w gx1 3 #[.int .i64 (z1:Int)]) (hgx1:∀b,vl.ownBlock=some b->b≠gx1) (hC:∀k,k∈ks->aC C k<=1000000000000/\aF C k<=1000000000000):
 Calls Tryz.prog 135 #[.pointer (some ⟨gp,0,none⟩),.func (.func 201) #[] #[.pointer (some ⟨gx0,0,none⟩),.pointer (some ⟨gx1,0,none⟩)]] w fun e w'=>e=.returned (.tuple #[])/\Keep (fun b=>vl.ownBlock=some b) w w'/\∃C',C'.length=C.length/\(∀k,k∈ks->(aC C' k,aF C' k)=(mvR z0 z1 (aC C k),aF C k))/\PermAt w' B gp ga vl vo vt vf R P ks C' tk fr:=by
 obtain ⟨A2,c2,hvo,_,_⟩:=aR h.orow;have c2':w.cell? ⟨gp,2,none⟩=some (.slice A2 ks.length c2):=(h.blk.cell 2).trans (by rw [hvo];rfl);have hgp:=h.blk.lt;obtain ⟨n,hn⟩:=eqx ks.length;rw [hn] at c2' hl;obtain ⟨H,Hn,Hvo,Hnd,HC⟩:=hqq5 h hn hvo hnd hC;clear h hn hvo hnd hC;go_enter Tryz.func135,Tryz.ntmps135;go_wp2_with fail;go_loopw [11] (fun i wr=>∃(j:Nat) (Cj:List (Nat×Nat)),j<=n/\i=.int .i64 (j:Int)/\Cj.length=C.length/\(∀k,k∈ks.take j->(aC Cj k,aF Cj k)=(mvR z0 z1 (aC C k),aF C k))/\(∀k,k∈ks.drop j->(aC Cj k,aF Cj k)=(aC C k,aF C k))/\PermAt wr B gp ga vl vo vt vf R P ks Cj tk fr/\Keep (fun b=>vl.ownBlock=some b) w wr) (fun i _=>n -(intOf i).toNat)
 case atStart=>exact ⟨0,C,zAp _,rfl,rfl,fun k hk=>by simp at hk,fun k _=>rfl,H.out,Keep.refl _ _⟩
 case round=>
  obtain ⟨j,Cj,hj,rfl,hlen,hd1,hd2,hp,hk⟩:=hrel;by_cases hlt:j < n
  · have hjl:j < ks.length:=(by rw [Hn.out];exact hlt);obtain ⟨k,hkj⟩:∃k,ks[j]?=some k:=⟨_,zAa hjl⟩;have hkm:=zAd hkj;have hkC:k < Cj.length:=hp.lt k hkm;have ho2:=hp.orow;rw [Hvo.out] at ho2;obtain ⟨g2,k2,e2,_,hg2⟩:=World.ownsRow.form ho2 oM;injection e2 with e2a _ e2c;subst e2a e2c;have hlr:=hp.lrow;obtain ⟨g1,k1,e1,_,hg1⟩:=World.ownsRow.form hlr oM;rw [e1] at hlr;have d2:wr.cell? ⟨g2,j,none⟩=some (.int .i64 (k:Int)):=(World.ownsRow.cellAt ho2 j oM).trans (by rw [zAf,hkj];rfl);have d1:wr.cell? ⟨gp,1,none⟩=some (.slice (some ⟨g1,0,none⟩) Cj.length k1):=(hp.blk.cell 1).trans (by rw [e1];rfl);have hgpr:=hp.blk.lt;have hsz:=hk.size;have hkd:k∈ks.drop j:=(by rw [zAx hjl,List.getElem_eq_getElem?_get];simp [hkj]);have hCk:(aC Cj k,aF Cj k)=(aC C k,aF C k):=hd2 k hkd;injection hCk with hCr hCp;have hxr:=fun (b:Nat) (e:Value.ownBlock vl=some b)=>(World.ownsRow.lt hp.lrow b e).2;obtain ⟨N,hN⟩:=eqx Cj.length;rw [hN] at hlr d1 hkC;have hxr0:=hk.bk hx0 (fun e=>hgx0 _ e rfl);have hxr1:=hk.bk hx1 (fun e=>hgx1 _ e rfl);have hkI:(k:Int) < (N:Int):=oM;obtain ⟨Hp,Hk,Hlr,Hkj,Hd1,Hd2,HN,Hlen,He1⟩:=hqq9 hp hk hlr hkj hd1 hd2 hN hlen e1;obtain ⟨HCr,HCp,Hkm⟩:=hqq3 hCr hCp hkm;clear hp hk hlr hkj hd1 hd2 hN hlen e1 hCr hCp hkm hkd ho2 hxr;go_wp2_with fail;refine (aAy B g1 N k1 gx0 gx1 z0 z1 k Cj wr Hlr.out (by rw [HN.out];exact hkC) hxr0 hxr1 (by rw [HCr.out];exact (HC.out k Hkm.out).1)).mono ?_;rintro e w1 ⟨rfl,hl1,hk1⟩
    have hC':PermAt w1 B gp ga vl vo vt vf R P ks (Cj.set k (mvR z0 z1 (aC Cj k),aF Cj k)) tk fr:=by
        have hp:=Hp.out;have hne:∀b t cs,t≠159->Bk wr b t cs->b≠g1:=fun b t cs ht hb e=>by subst e;obtain ⟨cu,hcu⟩:=eY Hlr.out;exact ht (aM hb hcu).1
        refine ⟨hk1.bk hp.blk (hne _ _ _ dC hp.blk),?_,aB hp.orow fun b cs _ hb=>hk1.bk hb (hne _ _ _ dC hb),hk1.bk hp.ar (hne _ _ _ dC hp.ar),aB hp.trow fun b cs _ hb=>hk1.bk hb (hne _ _ _ dC hb),aB hp.frow fun b cs _ hb=>hk1.bk hb (hne _ _ _ dC hb),hp.apart,fun x hx=>by rw [zAt];exact hp.lt x hx,hp.lo⟩;rw [zAt,HN.out,He1.out,HN.out];exact hl1
    have hk':Keep (fun b=>vl.ownBlock=some b) w w1:=Hk.out.trans (hk1.mono fun b _ e=>by rw [He1.out,show b=g1 from e];rfl)
    have hget:∀x,(aC (Cj.set k (mvR z0 z1 (aC Cj k),aF Cj k)) x,aF (Cj.set k (mvR z0 z1 (aC Cj k),aF Cj k)) x)=if x=k then (mvR z0 z1 (aC Cj k),aF Cj k) else (aC Cj x,aF Cj x):=fun x=>by
        unfold aC aF;rw [zAb,zBm];by_cases cx:k=x;subst cx;rw [zBx rfl,zBx rfl,zBx (by rw [HN.out];exact hkC)];rfl
        · rw [zBw cx,zBw (fun e=>cx e.symm),zAb]
    have hrel:∃(j':Nat) (Cj':List (Nat×Nat)),j'<=n/\Value.int .i64 ((j+1:Nat):Int)=.int .i64 (j':Int)/\Cj'.length=C.length/\(∀k,k∈ks.take j'->(aC Cj' k,aF Cj' k)=(mvR z0 z1 (aC C k),aF C k))/\(∀k,k∈ks.drop j'->(aC Cj' k,aF Cj' k)=(aC C k,aF C k))/\PermAt w1 B gp ga vl vo vt vf R P ks Cj' tk fr/\Keep (fun b=>vl.ownBlock=some b) w w1:=by
        refine ⟨j+1,_,by omega,rfl,by rw [zAt];exact Hlen.out,fun x hx=>?_,fun x hx=>?_,hC',hk'⟩
        · rw [hget];by_cases cx:x=k
          · subst cx;rw [zBx rfl,HCr.out,HCp.out]
          rw [zBw cx];refine Hd1.out x ?_;rw [zAv,Hkj.out] at hx;simp at hx;rcases hx with hx | hx;exact hx;exact absurd hx cx
        · rw [hget];have hxk:x≠k:=fun e=>by subst e;have hd:ks.drop j=x::ks.drop (j+1):=(by have hjl:j < ks.length:=(by rw [Hn.out];exact hlt);rw [zAx hjl];have h9:=Hkj.out;rw [zAa hjl] at h9;injection h9 with h9;rw [h9]);have hnd:=(List.drop_sublist j ks).nodup Hnd.out;rw [hd,List.nodup_cons] at hnd;exact hnd.1 hx
          rw [zBw hxk];exact Hd2.out x (List.mem_of_mem_drop (by rw [<-List.drop_drop] at hx;exact hx:x∈(ks.drop j).drop 1))
    have Hrel:=lhd hrel;clear hC' hk' hget hrel hk1 hl1 d1 d2;go_wp2_with fail;go_roundw
    case rel=>exact Hrel.out
    case measure=>simp [intOf];omega
  · obtain rfl:j=n:=oM;obtain ⟨Hp,Hk,Hd1⟩:=hqq3 hp hk hd1;clear hp hk hd1 hd2;go_wp2_with fail;go_end0;refine ⟨rfl,Hk.out,Cj,hlen,fun k hk=>Hd1.out k ?_,Hp.out⟩;rw [zAg (by rw [Hn.out];exact zAs _)];exact hk
end Go.Proofs.YtnhmjomhloainaaGreatDoor
namespace Go.Proofs.YtnhmjomhloainaaGreatDoor
section
variable {S R : List Nat} {N : Nat}
def ush (k p:Nat):Nat:=if p < k then p else p - 1
theorem aFm (k p:Nat):ush k (sh k p)=p:=by
 unfold ush sh
 (repeat' split)<;> omega
theorem aCB {k p:Nat} (h:p≠k):sh k (ush k p)=p:=by
 unfold ush sh
 (repeat' split)<;> omega
theorem jE (l:List Nat) {k:Nat} (p:Nat) (h:k < l.length):(aI l k).getD p 0=l.getD (sh k p) 0:=by
 rw [aHM l h];unfold sh;split <;> rfl
theorem aHL (h:EndOk S (N+1)) {at_:Nat} (ha:at_<=N):EndOk (aI S at_) N:=by
 obtain ⟨e1,e2,e3⟩:=h;have hl:=dA S (k:=at_) oM;refine ⟨by omega,?_,fun p hp=>?_⟩;rw [jE _ _ oM];unfold sh;rw [zBw oM];exact e2
 · rw [jE _ _ oM];refine e3 _ ?_;unfold sh;split <;> omega
theorem aHK (hp:R.Perm (List.range (N+1+1))) {at_:Nat} (ha:at_<=N):(at_::aI R (ro R at_)).Perm R/\(aI R (ro R at_)).Nodup/\(∀q∈R,q≠at_->(aI R (ro R at_))[bM (ro R q) (ro R at_)]?=some q)/\∀q,q∈aI R (ro R at_)↔q∈R/\q≠at_:=by
 have hn:R.Nodup:=hp.nodup_iff.2 List.nodup_range;have hm:at_∈R:=hp.mem_iff.2 (zCi.2 oM);have hg:=cV hm;have hlt:=(zAc.1 hg).1;have hperm:=iX hg;have hnd:=hperm.nodup_iff.2 hn;rw [List.nodup_cons] at hnd;refine ⟨hperm,hnd.2,fun q hq hqa=>?_,fun q=>?_⟩;have hgq:=cV hq;have hne:ro R q≠ro R at_:=fun e=>hqa (gO hq hm e);rw [eE _ hlt];unfold bM;by_cases c:ro R at_ < ro R q;rw [zBx c,zBw oM,show ro R q - 1+1=ro R q by omega];exact hgq;rw [zBw c,zBx oM];exact hgq;constructor;intro h;exact ⟨hperm.mem_iff.1 (List.mem_cons_of_mem _ h),fun e=>hnd.1 (e ▸ h)⟩;rintro ⟨h1,h2⟩;rcases List.mem_cons.1 (hperm.mem_iff.2 h1) with h | h;exact absurd h h2;exact h
theorem aFS (hp:R.Perm (List.range (N+1+1))) {at_:Nat} (ha:at_<=N):((aI R (ro R at_)).map (ush at_)).Perm (List.range (N+1))/\∀p,p<=N->ro ((aI R (ro R at_)).map (ush at_)) p=bM (ro R (sh at_ p)) (ro R at_):=by
 obtain ⟨h1,h2,h3,h4⟩:=aHK hp ha;have hnd:((aI R (ro R at_)).map (ush at_)).Nodup:=by refine List.pairwise_map.2 (h2.imp_of_mem fun {a b} ha' hb' hab e=>hab ?_);have e1:=aCB (k:=at_) ((h4 a).1 ha').2;have e2:=aCB (k:=at_) ((h4 b).1 hb').2;rw [<-e1,<-e2,e]
 have hmr:∀p,p<=N->sh at_ p∈R:=fun p hp'=>hp.mem_iff.2 (zCi.2 (by unfold sh;split <;> omega));refine ⟨(List.perm_ext_iff_of_nodup hnd List.nodup_range).2 fun q=>?_,fun p hpN=>?_⟩
 · rw [zAy,zCi];constructor
   · rintro ⟨a,ha',rfl⟩;have:=zCi.1 (hp.mem_iff.1 ((h4 a).1 ha').1);have:=((h4 a).1 ha').2;unfold ush;split <;> omega
   intro hq;exact ⟨sh at_ q,(h4 _).2 ⟨hmr q oM,yP _ _⟩,aFm _ _⟩
 · refine fJ hnd ?_;rw [zAf,h3 _ (hmr p hpN) (yP _ _)];show some (ush at_ (sh at_ p))=some p;rw [aFm]
theorem aGi (h0:IsSuf S R) (he:EndOk S (N+1)) {at_:Nat} (ha:at_<=N):Near (aI S at_) ((aI R (ro R at_)).map (ush at_)) N at_:=by
 have h:=h0.near he;have hS:=he.len;obtain ⟨g1,g2⟩:=aFS h.perm ha;have hm:∀p,p<=N+1->p∈R:=fun p hp=>h.mem.2 hp;have hsh:∀p,p<=N->sh at_ p<=N+1:=fun p hp=>by unfold sh;split <;> omega
 have hord:∀p q,p<=N->q<=N->(ro ((aI R (ro R at_)).map (ush at_)) p < ro ((aI R (ro R at_)).map (ush at_)) q↔ro R (sh at_ p) < ro R (sh at_ q)):=fun p q hp hq=>by rw [g2 p hp,g2 q hq];have n1:ro R (sh at_ p)≠ro R at_:=fun e=>yP _ _ (gO (hm _ (hsh p hp)) (hm at_ oM) e);have n2:ro R (sh at_ q)≠ro R at_:=fun e=>yP _ _ (gO (hm _ (hsh q hq)) (hm at_ oM) e);unfold bM;split <;> split <;> omega
 refine ⟨aHL he ha,g1,fun p q hp hq hlt=>?_,fun p q hp hq hpq hpi hqi=>?_⟩;rw [jE _ _ oM,jE _ _ oM];exact h.first _ _ (hsh p hp) (hsh q hq) ((hord p q hp hq).1 hlt)
 · have hne:sh at_ p≠sh at_ q:=fun e=>hpq (aCC e);rw [hord p q hp hq,h.cons _ _ (hsh p hp) (hsh q hq) hne oM oM];unfold xI;rw [jE _ _ oM,jE _ _ oM];by_cases ce:S.getD (sh at_ p) 0=S.getD (sh at_ q) 0
   · by_cases cz:S.getD (sh at_ p) 0=0;have hz:∀x,x<=N+1->S.getD x 0=0->x=N+1:=fun x hx hx0=>Nat.le_antisymm hx (Nat.not_lt.1 fun hl=>by have:=he.pos x hl;omega);have x1:=hz _ (hsh p hp) cz;have x2:=hz _ (hsh q hq) oM;omega
     · have hs:∀x,x<=N->x+1≠at_->S.getD (sh at_ x) 0≠0->x < N/\sh at_ x+1=sh at_ (x+1):=fun x hx hxa hx0=>by have h1:sh at_ x≠N+1:=fun e=>hx0 (by rw [e];exact he.last);have h2:x < N:=(by rcases zBe x N with h3 | h3;exact h3;exfalso;apply h1;unfold sh;rw [zBw oM];omega);refine ⟨h2,?_⟩;unfold sh;split <;> split <;> omega
       obtain ⟨a1,a2⟩:=hs p hp hpi cz;obtain ⟨b1,b2⟩:=hs q hq hqi oM;rw [a2,b2,hord (p+1) (q+1) oM oM]
   omega
theorem aEK (hp:R.Perm (List.range (N+1+1))) (he:EndOk S (N+1)) {at_:Nat} (ha:at_<=N):aE (aI S at_) ((aI R (ro R at_)).map (ush at_))=aI ((aE S R).set (ro R (at_+1)) (bT S at_)) (ro R at_):=by
 have hn:R.Nodup:=hp.nodup_iff.2 List.nodup_range;have hS:=he.len;have hl:=dA S (k:=at_) oM;have hmem:∀p,p∈R->p<=N+1:=fun p hpm=>by have:=zCi.1 (hp.mem_iff.1 hpm);omega
 have hat:at_∈R:=hp.mem_iff.2 (zCi.2 oM);have hat1:at_+1∈R:=hp.mem_iff.2 (zCi.2 oM);have hlt:=(zAc.1 (cV hat)).1;have hpv:∀p,p<=N+1->p≠at_->bT (aI S at_) (ush at_ p)=if p=at_+1 then bT S at_ else bT S p:=fun p hp' hpa=>by
  by_cases c:p=at_+1
  · subst c;rw [zBx rfl,show ush at_ (at_+1)=at_ by unfold ush;rw [zBw oM];omega];rcases at_ with _ | a;rw [bW oM,bW oM,jE _ _ oM];unfold sh;rw [zBw oM];congr 1;omega
    · rw [bE oM,bE oM,jE _ _ oM];unfold sh;rw [zBx oM]
  · rw [zBw c];rcases p with _ | p;rw [show ush at_ 0=0 by unfold ush;split <;> omega,bW oM,bW oM,jE _ _ oM];unfold sh;rw [zBw oM];congr 1;omega
    · by_cases c2:p+1 < at_
      · rw [show ush at_ (p+1)=p+1 by unfold ush;rw [zBx c2],bE oM,bE oM,jE _ _ oM];unfold sh;rw [zBx oM]
      · obtain ⟨x,rfl⟩:∃x,p=x+1:=⟨p - 1,by omega⟩;rw [show ush at_ (x+1+1)=x+1 by unfold ush;rw [zBw c2];omega,bE oM,bE oM,jE _ _ oM];unfold sh;rw [zBw oM]
 unfold aE;rw [zCg];apply List.ext_getElem?;intro j;have hlt2:ro R at_ < ((R.map (bT S)).set (ro R (at_+1)) (bT S at_)).length:=by simpa using hlt
 rw [zAf,eE _ hlt,eE _ hlt2];have key:∀i,i≠ro R at_->Option.map (bT (aI S at_)∘ ush at_) R[i]?=((R.map (bT S)).set (ro R (at_+1)) (bT S at_))[i]?:=fun i hi=>by
  rw [zBm,zAf];cases hg:R[i]? with
  | none=>
    have:¬ro R (at_+1)=i:=fun e=>by rw [<-e,cV hat1] at hg;cases hg
    rw [zBw this];rfl
  | some p=>
    have hpm:=zAd hg;have hri:=fJ hn hg;have hpa:p≠at_:=fun e=>hi (by rw [<-hri,e]);show some (bT (aI S at_) (ush at_ p))=_;rw [hpv p (hmem p hpm) hpa];by_cases c:p=at_+1
    · subst c;rw [zBx rfl,zBx hri,zBx (by rw [hri];simpa using (zAc.1 hg).1)]
    rw [zBw c,zBw (fun e=>c ?_)];rfl;rw [<-e,cV hat1] at hg;injection hg with hg;exact hg.symm
 by_cases c:j < ro R at_;rw [zBx c,zBx c];exact key j oM;rw [zBw c,zBw c];exact key (j+1) oM
end
end Go.Proofs.YtnhmjomhloainaaGreatDoor
namespace Go.Proofs.YtnhmjomhloainaaGreatDoor
open Go.RowKit
def mF (L:List Nat) (n k:Nat):Array Value:=((L.take k).map sv++List.replicate (n - k) (Value.int .i64 0)).toArray
theorem aC8 (L:List Nat) (n:Nat):mF L n 0=Array.replicate n (Value.int .i64 0):=by
 unfold mF;apply Array.ext';simp
theorem aER (L:List Nat) (n:Nat) (h:L.length=n):mF L n n=(L.map sv).toArray:=by
 unfold mF;rw [zAg oM,Nat.sub_self];simp
theorem aC9 (L:List Nat) (n k:Nat) (h:L.length=n) (hk:k<=n):(mF L n k).size=n:=by
 unfold mF;simp;omega
theorem aEQ {L:List Nat} {n k s:Nat} (h:L.length=n) (hs:L[k]?=some s):(mF L n k).setIfInBounds k (.int .i64 (s:Int))=mF L n (k+1):=by
 have hk:=(zAc.1 hs).1;apply Array.ext';unfold mF;rw [Array.toList_setIfInBounds,zAv,hs];have e:n - k=(n -(k+1))+1:=oM;rw [e,List.replicate_succ];have hl:((L.take k).map sv).length=k:=by rw [zBc,zAj];omega
 show List.set ((L.take k).map sv++(Value.int .i64 0::List.replicate (n -(k+1)) (Value.int .i64 0))) k _=_;rw [List.set_append_right _ _ oM,hl,Nat.sub_self,zAz,zCn];rfl
theorem aC0 {w:World} {B g n:Nat} {e:TypeId} {xs:List Value} (h:Bk w g e xs.toArray) (hB:B<=g) (hn:xs.length=n) (hm:n<=maxLen):Made w B e 1 (some ⟨g,0,none⟩) n n xs:=by
 have hown:w.ownsRow B e 1 (.slice (some ⟨g,0,none⟩) n n) n xs:=⟨by omega,.inr ⟨g,n,xs.toArray,rfl,hB,h,zAs _,hm,by simp [hn],by rw [zBl,zAg (by simp [hn])]⟩⟩;exact ⟨hown,Rd.of_own hown,zAs _,hm⟩
def iI (w:World) (B:Nat) (L:List Nat) (e:Ending) (w':World):Prop:=∃A c,e=.returned (.slice A L.length c)/\Made w' w.heap.size 3 1 A L.length c (L.map sv)/\VB B w w'
theorem aBP (B gv:Nat) (L:List Nat) (w:World) (h:WaveAt w B gv L) (hL:∀x∈L,x < 257) (hn:L.length<=1000):
 Calls Tryz.prog 159 #[.pointer (some ⟨gv,0,none⟩)] w (iI w B L):=by
 have hwA:=h;obtain ⟨hBg,S,v,hb,hrows⟩:=h;obtain ⟨n,hnn⟩:=eqx L.length;rw [hnn] at hb;have c9:w.cell? ⟨gv,9,none⟩=some (.int .i64 (n:Int)):=(hb.cell 9).trans (bH S n v).2.2.2.2.2.2.2.2.2.1;have c10:w.cell? ⟨gv,10,none⟩=some (.int .i64 v):=(hb.cell 10).trans (bH S n v).2.2.2.2.2.2.2.2.2.2;have hlt:=hb.lt;have hmk:=lW n oM;obtain ⟨HwA,Hb,HL,HN,Hn⟩:=hqq5 hwA hb hL hnn hn;rw [hnn] at hn;clear hwA hb hL hnn hrows;unfold iI;go_enter Tryz.func159,Tryz.ntmps159;go_wp2_with fail;have hbk0:Bk (w.alloc (.cells (Array.replicate n (.int .i64 0)) 3)) w.heap.size 3 (mF L n 0):=by rw [aC8];exact Bk.new _ _ _
 have hv0:VB B w (w.alloc (.cells (Array.replicate n (.int .i64 0)) 3)):=vR.alloc _;go_loopw [19] (fun i wr=>∃k:Nat,k<=n/\i=.int .i64 (k:Int)/\Bk wr w.heap.size 3 (mF L n k)/\VB B w wr) (fun i _=>n -(intOf i).toNat)
 case atStart=>exact ⟨0,zAp _,rfl,hbk0,hv0⟩
 case round=>
  obtain ⟨k,hk,rfl,hbk,hv⟩:=hrel;clear hbk0 hv0 hmk c9 c10;have hsz:=hv.1.size;obtain ⟨Hbk,Hv⟩:=hqq2 hbk hv;clear hbk hv;by_cases hlt2:k < n
  · obtain ⟨s,hs⟩:∃s,L[k]?=some s:=⟨_,zAa (by rw [HN.out];exact hlt2)⟩;have Hs:=lhd hs;clear hs;go_wp2_with fail;refine (eI B gv L k s wr (HwA.out.vis Hv.out.1) (by rw [HN.out];exact hlt2) (zAc.1 Hs.out).2 HL.out Hn.out).mono ?_;rintro e w2 ⟨rfl,hv2⟩;have hbk2:=hv2.1.bk Hbk.out dC dC;have hv3:=Hv.out.trans hv2;have hgl:=hbk2.lt;have hfz:=hbk2.frozen k;have hbk3:=hbk2.set k (.int .i64 (s:Int));rw [aEQ HN.out Hs.out] at hbk3;have hcell:∃u,w2.cell? ⟨w.heap.size,k,none⟩=some u:=⟨_,(hbk2.cell k).trans (zAq (by rw [aC9 L n k HN.out oM];exact hlt2))⟩;obtain ⟨u,hu⟩:=hcell;have hv4:VB B w (w2.setCell ⟨w.heap.size,k,none⟩ (.int .i64 (s:Int))):=⟨Vis.fresh hv3.1 (p:=⟨w.heap.size,k,none⟩) nL _,Keep.setCell hv3.2 (p:=⟨w.heap.size,k,none⟩) (.inr nL) _⟩;obtain ⟨Hbk3,Hv4⟩:=hqq2 hbk3 hv4;clear hbk2 hbk3 hv2 hv3 hv4;go_wp2_with fail;go_roundw
    case rel=>exact ⟨k+1,by omega,by go_num,Hbk3.out,Hv4.out⟩
    case measure=>simp [intOf];omega
  · obtain rfl:k=n:=oM;have hbk9:=Hbk.out;rw [aER L k HN.out] at hbk9;obtain ⟨v9,hb9⟩:=Hv.out.1.waveC Hb.out;have c10:wr.cell? ⟨gv,10,none⟩=some (.int .i64 v9):=(hb9.cell 10).trans (bH S k v9).2.2.2.2.2.2.2.2.2.2;have f10:=hb9.frozen 10;have hg9:=hb9.lt;have hv9:=Hv.out.trans (VB.set_wave hb9 hBg v);have hne:=Bk.ne hbk9 hb9 dC;have hbk8:=hbk9.far (p:=⟨gv,10,none⟩) hne (.int .i64 v);have hmade:=aC0 (B:=w.heap.size) (n:=k) hbk8 nL (by rw [zBc];exact HN.out) (by unfold maxLen;omega);obtain ⟨Hm,Hv9⟩:=hqq2 hmade hv9;clear hbk9 hb9 hv9 hbk8 hmade hne;go_wp2_with fail;go_ret;exact ⟨_,_,by rw [HN.out];rfl,by rw [HN.out];exact Hm.out,Hv9.out⟩
theorem aBS (B gk:Nat) (L:List Nat) (w:World) (h:WalkAt w B gk L) (hL:∀x∈L,x < 257) (hn:L.length<=1000):
 Calls Tryz.prog 90 #[.pointer (some ⟨gk,0,none⟩)] w (iI w B L):=by
 obtain ⟨gv,gt,h1,h2,h3⟩:=h;have c0:=h1.cell 0;have hall:=aBP B gv L w h2 hL hn;unfold iI at hall⊢;obtain ⟨n,hnn⟩:=eqx L.length;rw [hnn] at hall⊢;clear h1 h2 h3 hnn hn;go_enter Tryz.func90,Tryz.ntmps90;go_wp2_with fail;refine hall.mono ?_;rintro e w2 ⟨A,c,rfl,hm,hv⟩;obtain ⟨Hm,Hv⟩:=hqq2 hm hv;clear hall hm hv;go_wp2_with fail;go_ret;exact ⟨A,c,rfl,Hm.out,Hv.out⟩
theorem qR (Bw gl gk gp N rate:Nat) (L:List Nat) (C:List (Nat×Nat)) (w:World) (h:LiveG w Bw gl gk gp rate N L C) (hL:∀x∈L,x < 257) (hn:L.length<=1000):
 Calls Tryz.prog 25 #[.pointer (some ⟨gl,0,none⟩)] w (iI w Bw L):=by
 obtain ⟨mv,hblk⟩:=h.blk;have c0:=hblk.cell 0;have hall:=aBS Bw gk L w h.walk hL hn;clear hblk;unfold iI at hall⊢;obtain ⟨n,hnn⟩:=eqx L.length;rw [hnn] at hall⊢;clear h hnn hn;go_enter Tryz.func25,Tryz.ntmps25;go_wp2_with fail;refine hall.mono ?_;rintro e w2 ⟨A,c,rfl,hm,hv⟩;obtain ⟨Hm,Hv⟩:=hqq2 hm hv;clear hall hm hv;go_wp2_with fail;go_ret;exact ⟨A,c,rfl,Hm.out,Hv.out⟩
theorem iK {w:World} {B n:Nat} {A:Option Addr} {l:List UInt8} (hr:Rd w B 1 A n (l.map bv)):∀c,(convert 23 9 (.slice A n c)).run Tryz.prog w=.ok (.string ⟨l.toArray⟩) w:=
 fun c=>oJ (P:=Tryz.prog) 23 9 5 Tryz.underlying23 Tryz.underlying5 Tryz.underlying9 hr
theorem yM (l:List UInt8) (i j:Nat):(⟨l.toArray⟩:ByteArray).extract i j=⟨((l.drop i).take (j - i)).toArray⟩:=by
 apply ByteArray.ext;rw [ByteArray.data_extract];apply Array.ext';rw [Array.toList_extract]
theorem bU (l:List UInt8):(⟨l.toArray⟩:ByteArray).size=l.length:=by simp [ByteArray.size]
section
variable (l : List UInt8) (w : World)
theorem mT (j:Nat) (h2:j<=l.length):(Instr.slice 9 (.string ⟨l.toArray⟩) none (some (.int .i64 (j:Int))) none).run Tryz.prog w=.ok (.string ⟨(l.take j).toArray⟩) w:=by
 rw [run_slice_string_h (P:=Tryz.prog) (w:=w) 9 ⟨l.toArray⟩ Tryz.underlying9 .i64 j oM (by rw [bU];omega)];rw [zBr,yM];simp
theorem mS (i:Nat) (h2:i<=l.length):(Instr.slice 9 (.string ⟨l.toArray⟩) (some (.int .i64 (i:Int))) none none).run Tryz.prog w=.ok (.string ⟨(l.drop i).toArray⟩) w:=by
 rw [run_slice_string_l (P:=Tryz.prog) (w:=w) 9 ⟨l.toArray⟩ Tryz.underlying9 .i64 i oM (by rw [bU];omega)];rw [zBr,yM,bU];congr 3;apply congrArg;rw [zAg (by rw [zAw];omega)]
theorem uB (j:Nat) (h2:j<=l.length):(Instr.sliceAt 9 (.string ⟨l.toArray⟩) none (some (.int .i64 (j:Int))) none).run Tryz.prog w=.ok (.string ⟨(l.take j).toArray⟩) w:=by
 rw [run_sliceAt_string (h:=Tryz.underlying9),mT l w j h2]
theorem uA (i:Nat) (h2:i<=l.length):(Instr.sliceAt 9 (.string ⟨l.toArray⟩) (some (.int .i64 (i:Int))) none none).run Tryz.prog w=.ok (.string ⟨(l.drop i).toArray⟩) w:=by
 rw [run_sliceAt_string (h:=Tryz.underlying9),mS l w i h2]
end
theorem tZ (x y:List UInt8):Value.string ((⟨x.toArray⟩:ByteArray)++⟨y.toArray⟩)=.string ⟨(x++y).toArray⟩:=congrArg Value.string (by
 apply ByteArray.ext;rw [ByteArray.data_append];simp)
theorem aFq (w:World) (l:List UInt8) (cap:Nat) (e:TypeId) (fr:Nat×Nat) (n g:Nat) (hn:l.length=n) (hg:g=w.heap.size):Rd (w.drew.alloc (.cells (bytesRow ⟨l.toArray⟩ cap) e fr)) (w.heap.size+1) 1 (some ⟨g,0,none⟩) n (l.map bv):=by
 subst hg;refine ⟨by simp [hn],fun _=>⟨_,0,rfl,by simp,fun j u hu=>?_⟩⟩;have h1:=cell_of_row (w.drew.alloc (.cells (bytesRow ⟨l.toArray⟩ cap) e fr)) w.heap.size j (bytesRow ⟨l.toArray⟩ cap) e fr (heap_alloc_new w.drew _);rw [zBi,h1];unfold bytesRow;have hj:j < l.length:=by have:=(zAc.1 hu).1;simpa using this
 rw [Array.getElem?_append_left (by simpa using hj)];rw [zAf,zAa hj] at hu;simp only [Option.map_some,Option.some.injEq] at hu;rw [<-hu];simp [hj,bv]
theorem aG9 (w:World) (t:List UInt8) (N:Nat) (hN:t.length=N):∃A0 cap W1,(convert 9 23 (.string ⟨t.toArray⟩)).run Tryz.prog w=.ok (.slice A0 N cap) W1/\Rd W1 W1.heap.size 1 A0 N (t.map bv)/\Below w.heap.size w W1:=by
 have kb:=run_bytes_of_string (P:=Tryz.prog) w 9 23 5 ⟨t.toArray⟩ Tryz.underlying9 Tryz.underlying23 Tryz.underlying5;have hz:(⟨t.toArray⟩:ByteArray).size=N:=by rw [<-hN];rfl
 rw [hz] at kb;exact ⟨_,_,_,kb,(aFq w t _ _ _ N _ hN rfl).mono (by simp),bR.drew.alloc nL _⟩
end Go.Proofs.YtnhmjomhloainaaGreatDoor
