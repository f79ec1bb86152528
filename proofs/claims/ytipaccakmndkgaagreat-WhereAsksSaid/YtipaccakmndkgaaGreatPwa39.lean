/- The walk of perm's RowMove. Conditions: rows and places in order; at most 1000 numbers; there is a pair. Plain laws for an edit: the start behind a change of a letter (plain Lean). No conditions. -/
import Derived.Test.YtipaccakmndkgaaGreatPwa37
import Derived.Test.YtipaccakmndkgaaGreatPwa38
import Derived.Test.YtipaccakmndkgaaGreatPwa22
namespace Go.Proofs.YtipaccakmndkgaaGreat
open Go.RowKit Go.Shelf
open Go.Sort (Holds)
set_option linter.unusedVariables false
set_option linter.unusedSimpArgs false
set_option maxRecDepth 100000 in
theorem PermMove2_any (gb gp:Nat) (A:Option Addr) (n c:Nat) (C:List (Nat×Nat)) (a b:Nat) (W:World) (h:PRd W gb gp A n c C) (ha:a < C.length) (hb:b < C.length):
 Calls Tryz.prog 101 #[.int .i64 (a:Int),.int .i64 (b:Int),.pointer (some ⟨gb,0,none⟩)] W fun e w'=>e=.returned (.int .i64 (Lib.compareInt ((rowK C a:Nat):Int) ((rowK C b:Nat):Int)))∧∃q,w'=W.drewN q:=by
 obtain ⟨han,b0,off,rfl,h1,h2⟩:=h.at ha
 obtain ⟨hbn,b1,off1,e1,h3,h4⟩:=h.at hb
 injection e1 with e1
 injection e1 with e1 e2
 subst e1 e2
 have c0:=h.box
 have c1:=h.sl
 obtain ⟨x,hx⟩:∃x,rowK C a=x:=⟨_,rfl⟩
 obtain ⟨y,hy⟩:∃y,rowK C b=y:=⟨_,rfl⟩
 rw [hx] at h1⊢
 rw [hy] at h3⊢
 obtain ⟨r,hr⟩:∃r,Lib.compareInt (x:Int) (y:Int)=r:=⟨_,rfl⟩
 have kc:∀q:Nat,Calls Tryz.prog 78 #[.int .i64 (x:Int),.int .i64 (y:Int)] (W.drewN q) fun e w'=>e=.returned (.int .i64 r)∧∃q',w'=W.drewN q':=fun q=>by
  have hcmp:=AnyG.cmp_Compare_int shCmp (x:Int) (y:Int) (W.drewN q)
  rw [hr] at hcmp
  exact Calls.mono hcmp fun _ _ ⟨he,hq⟩=>⟨he,q,hq⟩
 rw [hr]
 clear h h2 h4 hx hy hr
 go_enter Tryz.func101,Tryz.ntmps101
 go_wp2_with fail
 go_quiet ((with_reducible exact kc _))
 go_wp2_with fail
 go_ret
 exact ⟨rfl,_,rfl⟩
theorem mvR_inj {a t r s:Nat} (h:mvR a t r=mvR a t s):r=s:=by
 unfold mvR inR outR at h
 by_cases c1:r=a
 · by_cases c2:s=a
   · omega
   · rw [if_pos c1,if_neg c2] at h
     split at h <;> split at h <;> omega
 · by_cases c2:s=a
   · rw [if_neg c1,if_pos c2] at h
     split at h <;> split at h <;> omega
   · rw [if_neg c1,if_neg c2] at h
     split at h <;> split at h <;> split at h <;> split at h <;> omega
theorem mvR_lt {a t r R:Nat} (ha:a < R) (ht:t < R) (hr:r < R):mvR a t r < R:=by
 unfold mvR inR outR
 split
 · exact ht
 · split <;> split <;> omega
theorem PermX.drewN {w:World} {F:Nat→Prop} {gp ga:Nat} {vl vo vt vf:Value} {R P:Nat} {ks:List Nat} {C:List (Nat×Nat)} {tk:List Bool} {fr:List Nat} (h:PermX w F gp ga vl vo vt vf R P ks C tk fr) (q:Nat):PermX (w.drewN q) F gp ga vl vo vt vf R P ks C tk fr:=
 { h with at_:=h.at_.below (below_drewN (Below.refl _ _) _)}
theorem PermX.sorted {w w':World} {F:Nat→Prop} {gp ga:Nat} {vl vo vt vf:Value} {R P:Nat} {ks ks':List Nat} {C:List (Nat×Nat)} {tk:List Bool} {fr:List Nat} (h:PermX w F gp ga vl vo vt vf R P ks C tk fr) (hp:ks'.Perm ks) (k:Keep (fun b=>vo.ownBlock=some b) w w') (ho:w'.ownsRow 0 3 1 vo ks.length (ks'.map sv)):PermX w' F gp ga vl vo vt vf R P ks' C tk fr:=by
 have a:=h.at_
 have hne:∀b t cs,Bk w b t cs→t≠3→¬(vo.ownBlock=some b):=fun b t cs hb ht e=>by
  obtain ⟨cs',hc⟩:=own_ty a.orow e
  exact ht (bk_inj hb hc).1
 refine { h with at_:=⟨k.bk a.blk (hne _ _ _ a.blk (by decide)),own_same a.lrow fun b cs _ hb=>k.bk hb (hne _ _ _ hb (by decide)),by rw [hp.length_eq];exact ho,k.bk a.ar (hne _ _ _ a.ar (by decide)),own_same a.trow fun b cs _ hb=>k.bk hb (hne _ _ _ hb (by decide)),own_same a.frow fun b cs hb hk=>k.bk hk fun e=>?_,a.apart,fun x hx=>a.lt x (hp.subset hx),a.lo⟩,nd:=hp.nodup_iff.2 h.nd,tkk:=fun x=>(h.tkk x).trans hp.mem_iff.symm }
 rcases a.apart with f | f
 · rw [f] at e
   cases e
 · exact f (e.trans hb.symm)
set_option maxRecDepth 100000 in
set_option maxHeartbeats 2000000 in
theorem PermSort_any (F:Nat→Prop) (gp ga gb R P:Nat) (vl vo vt vf:Value) (ks:List Nat) (C:List (Nat×Nat)) (tk:List Bool) (fr:List Nat) (w:World) (h:PermX w F gp ga vl vo vt vf R P ks C tk fr) (hb:Bk w gb 40 #[.pointer (some ⟨gp,0,none⟩)]) (hne:ks≠ []) (hinj:∀x∈ks,∀y∈ks,rowK C x=rowK C y→x=y):
 ∃A c,vo=.slice A ks.length c∧Calls Tryz.prog 44 #[.slice A ks.length c,.func (.func 101) #[] #[.pointer (some ⟨gb,0,none⟩)]] w fun e w'=>e=.returned (.tuple #[])∧∃ks',ks'.Perm ks∧ks'.Pairwise (fun a b=>rowK C a < rowK C b)∧PermX w' F gp ga vl vo vt vf R P ks' C tk fr∧Keep F w w':=by
 have hl0:0 < ks.length:=List.length_pos_iff.2 hne
 have a:=h.at_
 obtain ⟨g,c,e,_,hgl⟩:=World.ownsRow.form a.orow hl0
 refine ⟨_,c,e,?_⟩
 have ho:=a.orow
 rw [e] at ho
 obtain ⟨cs,hg,hcs,hnc,hm,hBg,hcell⟩:=own_cells ho hl0
 obtain ⟨k0,hk0⟩:∃k,k∈ks:=List.exists_mem_of_length_pos hl0
 obtain ⟨cc,hcc⟩:∃cc,C.length=cc+1:=⟨C.length - 1,by have:=a.lt k0 hk0;omega⟩
 have hlt':∀k∈ks,k < cc+1:=fun k hk=>by rw [←hcc];exact a.lt k hk
 have hz9:(ordA cc ks).size=ks.length:=by simp [ordA]
 have hH:=ordA_holds (c:=cc) hg hlt' (ei_take_ext (by simp) (by omega) hcell)
 obtain ⟨A1,n1,c1,ev,hprd⟩:=a.prd (hb.cell 0) (Below.refl w.heap.size w)
 have hcmp:CmpReads Tryz.prog 101 #[.pointer (some ⟨gb,0,none⟩)] (encF cc) (cfK cc (rowK C)) g 0 (ordA cc ks).size w:=fun q os dk hdk x y=>by
  have k:=sort_keep (enc:=encF cc) (w:=w) hgl 0 q dk os
  have hbne:∀b t cs',Bk w b t cs'→t≠3→¬(b=g):=fun b t cs' hb' ht e'=>by
   subst e'
   exact ht (bk_inj hb' hg).1
  have hp':PRd (sortWorld (encF cc) w g 0 q dk os) gb gp A1 n1 c1 C:=by
   refine ⟨((k.bk hb (hbne _ _ _ hb (by decide))).cell 0).trans rfl,((k.bk a.blk (hbne _ _ _ a.blk (by decide))).cell 1).trans (by rw [ev];rfl),?_⟩
   have hl:=own_same (w':=sortWorld (encF cc) w g 0 q dk os) a.lrow fun b cs' _ hk=>k.bk hk (hbne _ _ _ hk (by decide))
   rw [ev] at hl
   have h8:=own_shape a.lrow
   obtain ⟨A8,c8,e8,_⟩:=h8
   rw [ev] at e8
   injection e8 with e81 e82 e83
   subst e82
   exact Rd.of_own hl
  exact PermMove2_any gb gp A1 n1 c1 C x.val y.val _ hp' (by rw [hcc];exact x.isLt) (by rw [hcc];exact y.isLt)
 have hsort:=Any.slices_SortFunc shSort (encF cc) (oneCell_encF cc) (cfK cc (rowK C)) (swo_cfK cc (rowK C)) 101 #[.pointer (some ⟨gb,0,none⟩)] g 0 c (ordA cc ks) w (enters_of Tryz.func101 (by kernel_rfl) rfl) hcmp.lays hH hgl (by rw [hz9];have:=ks_len h.nd a.lt;have:=h.sz;omega)
 rw [hz9] at hsort
 refine hsort.mono ?_
 rintro e9 w' ⟨rfl,d',nq,os,hperm,hsrt,rfl⟩
 obtain ⟨hp1,hp2⟩:=sorted_vals (f:=rowK C) hlt' (by rw [hz9];exact hperm) (by rw [hz9];exact hsrt) h.nd hinj
 have hds:d'.size=ks.length:=by rw [hperm.1,hz9]
 have hk:=sort_keep (enc:=encF cc) (w:=w) hgl 0 nq d' os
 have hown:=sort_own (base:=0) (k:=nq) (os:=os) d' hds hg (Nat.zero_le _) hnc hm hcs
 have hfo:F g:=h.fo g (by rw [e];rfl)
 exact ⟨rfl,_,hp1,hp2,h.sorted hp1 (hk.mono fun b _ e'=>by rw [e,show b=g from e'];rfl) (by rw [e];exact hown),hk.mono fun b _ e'=>by rw [show b=g from e'];exact hfo⟩
set_option maxRecDepth 100000 in
set_option maxHeartbeats 2000000 in
theorem PermRowMove_any (F:Nat→Prop) (gp R P z0 z1:Nat) (pr:List (Nat×Nat)) (w:World) (h:PermE w F gp R P pr) (hz0:z0 < R) (hz1:z1 < R) (hR:R≤100000) (hP:P≤100000) (hne:pr≠ []):
 Calls Tryz.prog 65 #[.pointer (some ⟨gp,0,none⟩),.int .i64 (z0:Int),.int .i64 (z1:Int)] w fun e w'=>e=.returned (.int .i64 0)∧(∃pr',pr'.Perm (pr.map fun x=>(mvR z0 z1 x.1,x.2))∧PermE w' F gp R P pr')∧Keep F w w':=by
 obtain ⟨⟨ga,vl,vo,vt,vf,ks,C,tk,fr,hx,rfl⟩,hsort,hbd⟩:=h
 have hat:=hx.at_
 have hkne:ks≠ []:=fun e=>hne (by rw [e];rfl)
 have hgp:=hat.blk.lt
 have hn0:decide ((z0:Int) < 0)=false:=by simp
 have hn1:decide ((z1:Int) < 0)=false:=by simp
 have hn2:¬R≤z0:=by omega
 have hn3:¬R≤z1:=by omega
 have hn4:¬(z0:Int)≥(R:Int):=by omega
 have hn5:¬(z1:Int)≥(R:Int):=by omega
 obtain ⟨w1,hw1⟩:∃w1,((w.alloc (.cells #[.pointer (some ⟨gp,0,none⟩)] 40)).alloc (.cells #[.int .i64 (z0:Int)] 3)).alloc (.cells #[.int .i64 (z1:Int)] 3)=w1:=⟨_,rfl⟩
 have hb1:Below w.heap.size w w1:=by
  rw [←hw1]
  exact (((Below.refl _ _).alloc (Nat.le_refl _) _).alloc (by simp) _).alloc (by simp;omega) _
 have hbp:Bk w1 w.heap.size 40 #[.pointer (some ⟨gp,0,none⟩)]:=by
  rw [←hw1]
  exact ((Bk.new w _ _).alloc _).alloc _
 have hbx0:Bk w1 (w.heap.size+1) 3 #[.int .i64 (z0:Int)]:=by
  rw [←hw1]
  have:=(Bk.new (w.alloc (.cells #[.pointer (some ⟨gp,0,none⟩)] 40)) 3 #[.int .i64 (z0:Int)]).alloc (.cells #[.int .i64 (z1:Int)] 3)
  simpa using this
 have hbx1:Bk w1 (w.heap.size+2) 3 #[.int .i64 (z1:Int)]:=by
  rw [←hw1]
  have:=Bk.new ((w.alloc (.cells #[.pointer (some ⟨gp,0,none⟩)] 40)).alloc (.cells #[.int .i64 (z0:Int)] 3)) 3 #[.int .i64 (z1:Int)]
  simpa using this
 have hat1:PermX w1 F gp ga vl vo vt vf R P ks C tk fr:= { hx with at_:=hat.below hb1 }
 have hvl:∀b,vl.ownBlock=some b→b < w.heap.size:=fun b hb=>(hat.lrow.lt b hb).2
 have q0:∀q,(w1.drewN q).cell? ⟨w.heap.size,0,none⟩=some (.pointer (some ⟨gp,0,none⟩)):=fun q=>(hbp.cell 0).trans rfl
 have q1:∀q,(w1.drewN q).cell? ⟨w.heap.size+1,0,none⟩=some (.int .i64 (z0:Int)):=fun q=>(hbx0.cell 0).trans rfl
 have q2:∀q,(w1.drewN q).cell? ⟨w.heap.size+2,0,none⟩=some (.int .i64 (z1:Int)):=fun q=>(hbx1.cell 0).trans rfl
 have r0:w1.cell? ⟨w.heap.size,0,none⟩=some (.pointer (some ⟨gp,0,none⟩)):=(hbp.cell 0).trans rfl
 have r1:w1.cell? ⟨w.heap.size+1,0,none⟩=some (.int .i64 (z0:Int)):=(hbx0.cell 0).trans rfl
 have r2:w1.cell? ⟨w.heap.size+2,0,none⟩=some (.int .i64 (z1:Int)):=(hbx1.cell 0).trans rfl
 have q3:w1.cell? ⟨gp,3,none⟩=some (.int .i64 (R:Int)):=(hat1.at_.blk.cell 3).trans rfl
 have hgp1:=hat1.at_.blk.lt
 have hC:∀k,k∈ks→rowK C k < R∧posK C k < P:=fun k hk=>hbd (rowK C k,posK C k) (List.mem_map.2 ⟨k,hk,rfl⟩)
 have hinj:∀x∈ks,∀y∈ks,rowK C x=rowK C y→x=y:=fun x hx' y hy e=>by
  have hpw:=List.pairwise_map.1 hsort
  obtain ⟨i,hi,rfl⟩:=List.getElem_of_mem hx'
  obtain ⟨j,hj,rfl⟩:=List.getElem_of_mem hy
  rcases Nat.lt_trichotomy i j with h1 | h1 | h1
  · have h2:rowK C ks[i] < rowK C ks[j]:=List.pairwise_iff_getElem.1 hpw i j hi hj h1
    omega
  · subst h1
    rfl
  · have h2:rowK C ks[j] < rowK C ks[i]:=List.pairwise_iff_getElem.1 hpw j i hj hi h1
    omega
 have HX:=Lib.hid hat1
 have HC:=Lib.hid hC
 have Hinj:=Lib.hid hinj
 have Hb1:=Lib.hid hb1
 have Hbp:=Lib.hid hbp
 have Hbx0:=Lib.hid hbx0
 have Hbx1:=Lib.hid hbx1
 have Hw1:=Lib.hid hw1
 have Hvl:=Lib.hid hvl
 have Hkne:=Lib.hid hkne
 clear hx hat hsort hbd hat1 hC hinj hb1 hbp hbx0 hbx1 hw1 hvl hkne hne
 go_enter Tryz.func65,Tryz.ntmps65
 go_wp2_with fail
 rw [Hw1.out]
 go_quiet (fail)
 rename_i nq
 have hmf:∀(fn:Fn) (first cap:Array Value) (w:World),(Instr.makeFunc fn first cap).run Tryz.prog w=.ok (.func fn first cap) w:=fun _ _ _ _=>rfl
 go_wp2_with fail
 have hat2:=HX.out.drewN nq
 have hkl:=ks_len hat2.nd hat2.at_.lt
 refine (EachRowMove_any 0 gp ga (w.heap.size+1) (w.heap.size+2) z0 z1 vl vo vt vf R P ks C tk fr _ hat2.at_ hat2.nd (by have:=hat2.sz;omega) (Hbx0.out.drewN nq) (fun b hb e=>by have:=Hvl.out b hb;omega) (Hbx1.out.drewN nq) (fun b hb e=>by have:=Hvl.out b hb;omega) (fun k hk=>by have:=HC.out k hk;omega)).mono ?_
 rintro e w2 ⟨rfl,hk2,C',hl',hf',hat3⟩
 have hrow:∀k,k∈ks→rowK C' k=mvR z0 z1 (rowK C k):=fun k hk=>(Prod.mk.inj (hf' k hk)).1
 have hX3:PermX w2 F gp ga vl vo vt vf R P ks C' tk fr:=⟨hat3,HX.out.fp,HX.out.fa,HX.out.fl,HX.out.fo,HX.out.ft,HX.out.ff,HX.out.nd,by rw [hl'];exact HX.out.tkl,HX.out.tkk,HX.out.frn,HX.out.frk,by rw [hl'];exact HX.out.sz⟩
 have hbp2:Bk w2 w.heap.size 40 #[.pointer (some ⟨gp,0,none⟩)]:=hk2.bk (Hbp.out.drewN nq) fun e=>by
  have:=Hvl.out _ e
  omega
 have hkF:Keep F w w2:=(Keep.of_below (below_drewN Hb1.out nq)).trans (hk2.mono fun b _ hb=>HX.out.fl b hb)
 obtain ⟨Ao,co,evo,hcall⟩:=PermSort_any F gp ga w.heap.size R P vl vo vt vf ks C' tk fr w2 hX3 hbp2 Hkne.out (fun x hx y hy e=>Hinj.out x hx y hy (mvR_inj (by rw [←hrow x hx,←hrow y hy,e])))
 have c2:w2.cell? ⟨gp,2,none⟩=some (.slice Ao ks.length co):=(hX3.at_.blk.cell 2).trans (by rw [evo];rfl)
 have s0:w2.cell? ⟨w.heap.size,0,none⟩=some (.pointer (some ⟨gp,0,none⟩)):=(hbp2.cell 0).trans rfl
 have hgp2:=hX3.at_.blk.lt
 have HkF:=Lib.hid hkF
 have Hf':=Lib.hid hf'
 have Hcall:=Lib.hid hcall
 clear hkF hf' hcall hX3 hbp2 hk2 hl' hat3 hrow hat2 hkl r0 r1 r2 q0 q1 q2 q3 evo
 go_wp2_with fail
 refine Hcall.out.mono ?_
 rintro e w3 ⟨rfl,ks',hp1,hp2,hX4,hk4⟩
 have hfin:(∃pr',pr'.Perm ((ks.map fun k=>(rowK C k,posK C k)).map fun x=>(mvR z0 z1 x.1,x.2))∧PermE w3 F gp R P pr')∧Keep F w w3:=by
  refine ⟨⟨_,?_,⟨ga,vl,vo,vt,vf,ks',C',tk,fr,hX4,rfl⟩,List.pairwise_map.2 hp2,fun x hx=>?_⟩,HkF.out.trans hk4⟩
  · refine (hp1.map _).trans ?_
    rw [List.map_map]
    refine List.Perm.of_eq (List.map_congr_left fun k hk=>?_)
    exact Hf'.out k hk
  · obtain ⟨k,hk,rfl⟩:=List.mem_map.1 hx
    have hkk:=hp1.subset hk
    have h1:=HC.out k hkk
    rw [Hf'.out k hkk]
    exact ⟨mvR_lt hz0 hz1 h1.1,h1.2⟩
 have Hfin:=Lib.hid hfin
 clear hfin hX4 hk4 hp1 hp2 c2 s0
 go_wp2_with fail
 go_ret
 exact ⟨rfl,Hfin.out.1,Hfin.out.2⟩
end Go.Proofs.YtipaccakmndkgaaGreat
namespace Go.Proofs.YtipaccakmndkgaaGreat
set_option linter.unusedVariables false
set_option linter.unusedSimpArgs false
section
variable {S R : List Nat} {N : Nat}
end
end Go.Proofs.YtipaccakmndkgaaGreat
