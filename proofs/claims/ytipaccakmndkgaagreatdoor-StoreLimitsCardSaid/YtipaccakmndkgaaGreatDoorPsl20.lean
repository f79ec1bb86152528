/- The walks of perm.New (no pairs), live.New and live's Len. Conditions: at most 127 bytes, a rate from 1 to 64. The walks of the wave's look with the closures of Insert and Delete. Conditions: at most 128 bits behind the edit; the tree owns its blocks. -/
import Derived.Test.YtipaccakmndkgaaGreatDoorPsl18
import Derived.Test.YtipaccakmndkgaaGreatDoorPsl19
import Derived.Test.YtipaccakmndkgaaGreatDoorPsl11
set_option linter.unusedVariables false
set_option linter.unusedSimpArgs false
set_option maxRecDepth 100000
set_option maxHeartbeats 1000000
namespace Go.Proofs.YtipaccakmndkgaaGreatDoor
open Go.RowKit
theorem PermNew_any (n:Nat) (w:World) (hn:n≤2147483648):
 Calls Tryz.prog 49 #[.int .i64 (n:Int),.slice none 0 0] w fun e w'=>∃gp ga,e=.returned (.tuple #[.pointer (some ⟨gp,0,none⟩),.int .i64 0])∧PermAt w' w.heap.size gp ga (.slice none 0 0) (.slice none 0 0) (.slice none 0 0) (.slice none 0 0) n n [] [] [] []∧Below w.heap.size w w':=by
 have h1:¬((n:Int) < 0):=by omega
 have h2:¬((n:Int) > 2147483648):=by omega
 go_enter Tryz.func49,Tryz.ntmps49
 go_wp2_with fail
 refine (ArenaNew_any _).mono ?_
 rintro e w1 ⟨rfl,hbk,hb⟩
 have Hbk:=lhd hbk
 have Hb:=lhd hb
 have hz:=hbk.lt
 clear hbk hb
 go_wp2_with fail
 refine wp_loop_rounds 1 ?_
 rw [rounds_succ]
 go_wp2_with fail
 go_ret2
 have hs:=Hb.out.size
 exact ⟨_,_,rfl,⟨Bk.new _ _ _,World.ownsRow_nil _ _ _ _,World.ownsRow_nil _ _ _ _,Hbk.out.alloc _,World.ownsRow_nil _ _ _ _,World.ownsRow_nil _ _ _ _,.inl rfl,fun k hk=>(by cases hk),⟨hs,Nat.le_refl _⟩⟩,Hb.out.alloc hs _⟩
def sampC (rs:List Nat) (rate k:Nat):List (Nat×Nat):=((List.range k).filter fun i=>rs.getD i 0 % rate==0).map fun i=>(i,rs.getD i 0)
theorem sampC_succ (rs:List Nat) (rate k:Nat):sampC rs rate (k+1)=if rs.getD k 0 % rate=0 then sampC rs rate k++ [(k,rs.getD k 0)] else sampC rs rate k:=by
 unfold sampC
 rw [List.range_succ,List.filter_append,List.map_append]
 by_cases h:rs.getD k 0 % rate=0
 · rw [if_pos h]
   simp only [List.filter_cons,h,beq_self_eq_true,if_true,List.filter_nil,List.map_cons,List.map_nil]
 · rw [if_neg h]
   have:(rs.getD k 0 % rate==0)=false:=by simpa using h
   simp only [List.filter_cons,this,Bool.false_eq_true,if_false,List.filter_nil,List.map_nil,List.append_nil]
theorem sampC_mem {rs:List Nat} {rate k:Nat} {x:Nat×Nat} (h:x∈sampC rs rate k):x.1 < k∧x.2=rs.getD x.1 0:=by
 unfold sampC at h
 obtain ⟨i,hi,rfl⟩:=List.mem_map.1 h
 have:=(List.mem_filter.1 hi).1
 exact ⟨by simpa using this,rfl⟩
theorem sampC_sorted (rs:List Nat) (rate k:Nat):(sampC rs rate k).Pairwise (fun a b=>a.1 < b.1):=by
 unfold sampC
 rw [List.pairwise_map]
 exact List.Pairwise.filter _ List.pairwise_lt_range
theorem rowK_mem {C:List (Nat×Nat)} {k:Nat} (h:k < C.length):(rowK C k,posK C k)∈C:=by
 unfold rowK posK
 rw [List.getD_eq_getElem?_getD,List.getElem?_eq_getElem h]
 exact List.getElem_mem h
theorem rowK_sorted {C:List (Nat×Nat)} (h:C.Pairwise (fun a b=>a.1 < b.1)):(List.range C.length).Pairwise (fun a b=>rowK C a < rowK C b):=by
 rw [List.pairwise_iff_getElem]
 intro i j hi hj hij
 have hi':i < C.length:=by simpa using hi
 have hj':j < C.length:=by simpa using hj
 have:=List.pairwise_iff_getElem.1 h i j hi' hj' hij
 simp only [List.getElem_range]
 unfold rowK
 rw [List.getD_eq_getElem?_getD,List.getD_eq_getElem?_getD,List.getElem?_eq_getElem hi',List.getElem?_eq_getElem hj']
 exact this
theorem Apt.next2 {v v':Value} {A:Option Addr} {N:Nat} (h:Apt v A) (ho:v'.ownBlock=v.ownBlock∨∃g,v'.ownBlock=some g∧N≤g) (hA:∀a,A=some a→a.block < N):Apt v' A:=by
 intro a ha hb
 rcases ho with e |⟨g,e,hg⟩
 · exact h a ha (e.symm.trans hb)
 · rw [e] at hb
   injection hb with hb
   have:=hA a ha
   omega
theorem PermAt.foot {w:World} {B gp ga:Nat} {vl vo vt vf:Value} {R P:Nat} {ks:List Nat} {C:List (Nat×Nat)} {tk:List Bool} {fr:List Nat} (h:PermAt w B gp ga vl vo vt vf R P ks C tk fr) {b:Nat} (hb:PF gp ga vl vo vt b):B≤b:=by
 rcases hb with rfl | rfl | hb | hb | hb
 · exact h.lo.1
 · exact h.lo.2
 · exact (h.lrow.lt _ hb).1
 · exact (h.orow.lt _ hb).1
 · exact (h.trow.lt _ hb).1
theorem PermAt.keep {F:Nat→Prop} {w w':World} {B gp ga:Nat} {vl vo vt vf:Value} {R P:Nat} {ks:List Nat} {C:List (Nat×Nat)} {tk:List Bool} {fr:List Nat} (h:PermAt w B gp ga vl vo vt vf R P ks C tk fr) (k:Keep F w w')
 (hf:∀b t cs,F b→Bk w b t cs→t∉ [157,159,3,217,4]):PermAt w' B gp ga vl vo vt vf R P ks C tk fr:=
 ⟨k.bk h.blk (fun f=>hf _ _ _ f h.blk (by decide)),own_keepT h.lrow k (fun b cs f hb=>hf _ _ _ f hb (by decide)),own_keepT h.orow k (fun b cs f hb=>hf _ _ _ f hb (by decide)),k.bk h.ar (fun f=>hf _ _ _ f h.ar (by decide)),own_keepT h.trow k (fun b cs f hb=>hf _ _ _ f hb (by decide)),own_keepT h.frow k (fun b cs f hb=>hf _ _ _ f hb (by decide)),h.apart,h.lt,h.lo⟩
structure LvInv (w2:World) (B1 B3 gl gk gp ga n rate:Nat) (A3:Option Addr) (c3:Nat) (rs:List Nat) (k:Nat) (vl vo vt:Value) (tk:List Bool) (wr:World):Prop where
 perm:PermAt wr B1 gp ga vl vo vt (.slice none 0 0) n n (List.range (sampC rs rate k).length) (sampC rs rate k) tk []
 len:tk.length=(sampC rs rate k).length
 apt:Apt vo A3
 row:wr.ownsRow B3 3 1 (.slice A3 n c3) n (rs.map sv)
 blk:Bk wr gl 87 #[.pointer (some ⟨gk,0,none⟩),.pointer (some ⟨gp,0,none⟩),.int .i64 (rate:Int),.int .i64 0]
 below:Below w2.heap.size w2 wr
structure LiveAt (w:World) (Bw gl gk gp ga:Nat) (vl vo vt:Value) (B n rate:Nat) (L:List Nat) (C:List (Nat×Nat)) (tk:List Bool):Prop where
 blk:Bk w gl 87 #[.pointer (some ⟨gk,0,none⟩),.pointer (some ⟨gp,0,none⟩),.int .i64 (rate:Int),.int .i64 0]
 walk:WalkAt w Bw gk L
 perm:PermAt w B gp ga vl vo vt (.slice none 0 0) n n (List.range C.length) C tk []
theorem Gw.gw {F:Nat→Prop} {n m:Nat} (h:n≤m):∀b,Gw (Gw F n) m b→Gw F n b:=fun b hb=>by
 rcases hb with hb | hb
 · exact hb
 · exact .inr (by omega)
theorem InsertC_any (gt gk gb:Nat) (lv p:Int) (F:Nat→Prop) (bs:List Bool) (k:Nat) (b:Bool) (w:World) (ht:TreeE w F gt bs) (hk:Bk w gk 3 #[.int .i64 (k:Int)]) (hb:Bk w gb 4 #[.bool b]) (hl:bs.length≤127) (hkl:k≤bs.length):
 Calls Tryz.prog 202 #[.agg #[.pointer (some ⟨gt,0,none⟩),.int .i64 lv,.int .i64 p],.pointer (some ⟨gk,0,none⟩),.pointer (some ⟨gb,0,none⟩)] w fun e w'=>e=.returned (.tuple #[])∧TreeE w' (Gw F w.heap.size) gt (insN bs k b)∧Keep F w w':=by
 have c1:w.cell? ⟨gk,0,none⟩=some (.int .i64 (k:Int)):=(hk.cell 0).trans rfl
 have c2:w.cell? ⟨gb,0,none⟩=some (.bool b):=(hb.cell 0).trans rfl
 have l1:=hk.lt
 have l2:=hb.lt
 have Ht:=lhd ht
 clear ht hk hb
 go_enter Tryz.func202,Tryz.ntmps202
 go_wp2_with fail
 refine (TreeInsert_any F gt k b bs _ (Ht.out.below ((Below.refl _ _).alloc (Nat.le_refl _) _)) hl hkl).mono ?_
 rintro e w1 ⟨rfl,h1,h2⟩
 have h3:Keep F w w1:=(Keep.of_below ((Below.refl _ _).alloc (Nat.le_refl _) _)).trans h2
 have H1:=lhd (h1.mono (G:=Gw F w.heap.size) fun x _ f=>by
  rcases f with f | f
  · exact .inl f
  · simp at f
    exact .inr (by omega))
 have H3:=lhd h3
 clear h1 h2 h3
 go_wp2_with fail
 go_end0
 exact ⟨rfl,H1.out,H3.out⟩
theorem DeleteC_any (gt gk gn:Nat) (lv p:Int) (x:Value) (F:Nat→Prop) (bs:List Bool) (k:Nat) (w:World) (ht:TreeE w F gt bs) (hk:Bk w gk 3 #[.int .i64 (k:Int)]) (hn:Bk w gn 4 #[x]) (hFn:¬F gn) (hkl:k < bs.length):
 Calls Tryz.prog 209 #[.agg #[.pointer (some ⟨gt,0,none⟩),.int .i64 lv,.int .i64 p],.pointer (some ⟨gk,0,none⟩),.pointer (some ⟨gn,0,none⟩)] w fun e w'=>e=.returned (.tuple #[])∧∃w1,TreeE w1 (Gw F w.heap.size) gt (delN bs k)∧Keep F w w1∧Bk w1 gn 4 #[x]∧w'=w1.setCell ⟨gn,0,none⟩ (.bool (bs.getD k false)):=by
 have c1:w.cell? ⟨gk,0,none⟩=some (.int .i64 (k:Int)):=(hk.cell 0).trans rfl
 have l1:=hk.lt
 have l2:=hn.lt
 obtain ⟨bb,hbb⟩:∃b,bs.getD k false=b:=⟨_,rfl⟩
 rw [hbb]
 have Hbb:=lhd hbb
 have Ht:=lhd ht
 have Hn:=lhd hn
 have Hkl:=lhd hkl
 clear ht hk hn hbb hkl
 go_enter Tryz.func209,Tryz.ntmps209
 go_wp2_with fail
 refine (TreeDelete_any F gt k bs _ (Ht.out.below ((Below.refl _ _).alloc (Nat.le_refl _) _)) Hkl.out).mono ?_
 rintro e w1 ⟨rfl,h1,h2⟩
 rw [Hbb.out]
 have h3:Keep F w w1:=(Keep.of_below ((Below.refl _ _).alloc (Nat.le_refl _) _)).trans h2
 have hn1:=h3.bk Hn.out hFn
 have c3:w1.cell? ⟨gn,0,none⟩=some x:=(hn1.cell 0).trans rfl
 have f3:=hn1.frozen 0
 have hgn1:=hn1.lt
 have H1:=lhd (h1.mono (G:=Gw F w.heap.size) fun x _ f=>by
  rcases f with f | f
  · exact .inl f
  · simp at f
    exact .inr (by omega))
 have H3:=lhd h3
 have Hn1:=lhd hn1
 clear h1 h2 h3 hn1
 go_wp2_with fail
 go_end0
 exact ⟨rfl,w1,H1.out,H3.out,Hn1.out,rfl⟩
theorem tree_ne_wave {w:World} {gt gv:Nat} {bs:List Bool} {cs:Array Value} (h:TreeAt w gt bs) (hv:Bk w gv 174 cs):gt≠gv:=by
 rintro rfl
 obtain ⟨ga,v,⟨_,_,h2⟩|⟨_,_,_,_,_,h3⟩⟩:=h
 · exact absurd (bk_inj h2 hv).1 (by decide)
 · exact absurd (bk_inj h3.tree hv).1 (by decide)
theorem LookI_any (gv gt gk gb:Nat) (S:Nat→Value) (n v lv p:Int) (F:Nat→Prop) (bs:List Bool) (k:Nat) (b:Bool) (w:World) (hw:Bk w gv 174 (wcells S n v)) (ht:TreeE w F gt bs) (hFv:¬F gv) (hFs:∀x,F x→x < w.heap.size) (hk:Bk w gk 3 #[.int .i64 (k:Int)]) (hb:Bk w gb 4 #[.bool b]) (hl:bs.length≤127) (hkl:k≤bs.length):
 Calls Tryz.prog 130 #[.pointer (some ⟨gv,0,none⟩),.agg #[.pointer (some ⟨gt,0,none⟩),.int .i64 lv,.int .i64 p],.func (.func 202) #[] #[.pointer (some ⟨gk,0,none⟩),.pointer (some ⟨gb,0,none⟩)]] w fun e w'=>e=.returned (.tuple #[])∧
  TreeE w' (Gw F w.heap.size) gt (insN bs k b)∧Keep (fun x=>F x∨x=gv) w w'∧∃v',Bk w' gv 174 (wcells S n v'):=by
 obtain ⟨o,ho⟩:∃o,Obj.cells #[.pointer (some ⟨gt,0,none⟩),.int .i64 lv,.int .i64 p] 177=o:=⟨_,rfl⟩
 have hal:=(Below.refl w.heap.size w).alloc (Nat.le_refl _) o
 have hs1:=Bk.new w 177 #[.pointer (some ⟨gt,0,none⟩),.int .i64 lv,.int .i64 p]
 rw [ho] at hs1
 have l4:=hw.lt
 have Ht:=lhd ht
 have Hk:=lhd hk
 have Hb:=lhd hb
 have Hw:=lhd hw
 have HA:=lhd hal
 have Hs:=lhd hs1
 have Ho:=lhd ho
 have HFs:=lhd hFs
 clear ht hk hb hw hal hs1 ho hFs
 go_enter Tryz.func130,Tryz.ntmps130
 go_wp2_with fail
 rw [Ho.out]
 refine (InsertC_any gt gk gb lv p F bs k b _ (Ht.out.below HA.out) (Hk.out.alloc _) (Hb.out.alloc _) hl hkl).mono ?_
 rintro e W ⟨rfl,ht2,hk2⟩
 have hw2:=hk2.bk (Hw.out.alloc o) hFv
 have hs2:=hk2.bk Hs.out (fun f=>by have:=HFs.out _ f;omega)
 have hkW:Keep F w W:=(Keep.of_below HA.out).trans hk2
 have htE:TreeE W (Gw F w.heap.size) gt (insN bs k b):=ht2.mono fun x _ f=>by
  rcases f with f | f
  · exact .inl f
  · simp at f
    exact .inr (by omega)
 obtain ⟨vt,hvt⟩:=htE.at.visits
 have htlt:=htE.at.lt
 have hslt:=hs2.lt
 have hgs:=Bk.ne hw2 hs2 (by decide)
 have hgvt:=tree_ne_wave htE.at hw2
 have Hw2:=lhd hw2
 have Hs2:=lhd hs2
 have HkW:=lhd hkW
 have HtE:=lhd htE
 have Hvt:=lhd hvt
 clear hw2 hs2 hkW htE hvt ht2 hk2 HA Ht Hk Hb Hw Hs
 go_wp2_with fail
 refine wp_region_any (by kernel_rfl) ?_
 refine wpAny_keep [9,10,11,12,13,14,15,16,17,18] (fun b=>b=gv) 10 [3,10] (fun w2=>Bk w2 gv 174 (wcells S n v)) (fun _ w2=>Bk w2 gv 174 (wcells S n (IntKind.i64.wrap (v+vt)))) [is (.pointer (some ⟨gv,0,none⟩)),is (.pointer (some ⟨gv,0,none⟩)),is (.pointer (some ⟨gv,10,none⟩)),is (.int .i64 v),is (.pointer (some ⟨w.heap.size,0,none⟩)),is (.pointer (some ⟨gt,0,none⟩)),is (.int .i64 vt),is (.int .i64 (IntKind.i64.wrap (v+vt))),is (.pointer (some ⟨gv,0,none⟩)),is (.pointer (some ⟨gv,10,none⟩)),anyV] _ _ rfl (by kernel_rfl) (by kernel_rfl) (Hw2.out) (fun w2 w3 h _ hg=>Bk.below h hg h.lt) (fun _ _ _ h k=>Bk.below h k h.lt) (by repeat' (first | exact stbk_is _ _ | exact stbk_any _ |(refine List.forall_mem_cons.2 ⟨?_,?_⟩)|(intro p hp;cases hp))) ?_ ?_
 · refine steps_of ?_
   refine steps_cons (step_on3 rfl rfl fun ev _ _ _ _ _ hold _ _ _ _ hK=>?_) ?_
   · have e0:ev (.tmp 0)=.pointer (some ⟨gv,0,none⟩):=hold 0 (by kernel_rfl)
     go_simp
     exact kq hK rfl
   refine steps_cons (step_on3 rfl rfl fun _ _ _ _ _ _ _ hval _ _ _ hK=>?_) ?_
   · have e9:_=_:=hval 0 9 (by kernel_rfl) rfl
     go_simp
     exact kq hK rfl
   refine steps_cons (step_on3 rfl rfl fun _ _ _ _ _ _ _ hval _ _ _ hK=>?_) ?_
   · have e10:_=_:=hval 1 10 (by kernel_rfl) rfl
     go_simp
     exact kq hK rfl
   refine steps_cons (step_on3 rfl rfl fun _ w5 _ hU _ _ _ hval _ _ _ hK=>?_) ?_
   · have hpre:=hU rfl
     have e11:_=_:=hval 2 11 (by kernel_rfl) rfl
     have c12:w5.cell? ⟨gv,10,none⟩=some (.int .i64 v):=(hpre.cell 10).trans (wcells_get _ _ _).2.2.2.2.2.2.2.2.2.2
     go_simp
     exact kq hK rfl
   refine steps_cons (step_on3 rfl rfl fun ev _ _ _ _ _ hold _ _ _ _ hK=>?_) ?_
   · have e4:ev (.tmp 4)=.pointer (some ⟨w.heap.size,0,none⟩):=hold 4 (by kernel_rfl)
     go_simp
     exact kq hK rfl
   refine steps_cons (step_on3 rfl rfl fun _ w5 hS _ _ _ _ hval _ _ _ hK=>?_) ?_
   · replace hS:Keep (fun b=>b=gv) W w5:=⟨hS.os,hS.tape,hS.output,hS.size,hS.block⟩
     have e13:_=_:=hval 4 13 (by kernel_rfl) rfl
     have c14:w5.cell? ⟨w.heap.size,0,none⟩=some (.pointer (some ⟨gt,0,none⟩)):=((hS.bk Hs2.out (fun h=>hgs (show w.heap.size=gv from h).symm)).cell 0).trans rfl
     go_simp
     exact kq hK rfl
   refine steps_cons (step_on3 rfl rfl fun _ w5 hS _ _ _ _ hval _ _ _ hK=>?_) ?_
   · replace hS:Keep (fun b=>b=gv) W w5:=⟨hS.os,hS.tape,hS.output,hS.size,hS.block⟩
     have e14:_=_:=hval 5 14 (by kernel_rfl) rfl
     go_simp
     refine (TreeVisits_any gt vt w5 ((hS.cell htlt hgvt).trans Hvt.out)).mono ?_
     rintro e w8 ⟨rfl,hb8⟩
     exact hK _ _ (kstep_grow hb8) rfl
   refine steps_cons (step_on3 rfl rfl fun _ _ _ _ _ _ _ hval _ _ _ hK=>?_) ?_
   · have e12:_=_:=hval 3 12 (by kernel_rfl) rfl
     have e15:_=_:=hval 6 15 (by kernel_rfl) rfl
     go_simp
     exact kq hK rfl
   refine steps_cons (step_on3 rfl rfl fun _ _ _ _ _ _ _ hval _ _ _ hK=>?_) ?_
   · have e9:_=_:=hval 0 9 (by kernel_rfl) rfl
     go_simp
     exact kq hK rfl
   refine steps_cons (step_on3 rfl rfl fun _ _ _ _ _ _ _ hval _ _ _ hK=>?_) ?_
   · have e17:_=_:=hval 8 17 (by kernel_rfl) rfl
     go_simp
     exact kq hK rfl
   refine steps_cons (step_on3 rfl rfl fun _ w5 _ hU _ _ _ hval _ _ _ hK=>?_) ?_
   · have hpre:=hU rfl
     have e18:_=_:=hval 9 18 (by kernel_rfl) rfl
     have e16:_=_:=hval 7 16 (by kernel_rfl) rfl
     have c12:w5.cell? ⟨gv,10,none⟩=some (.int .i64 v):=(hpre.cell 10).trans (wcells_get _ _ _).2.2.2.2.2.2.2.2.2.2
     have f12:=hpre.frozen 10
     go_simp
     refine hK (.bool true) _ (kstep_keep (Keep.setCell (F:=fun b=>b=gv) (Keep.refl _ _) (p:=⟨gv,10,none⟩) (.inl rfl) _)) ?_
     have h9:=hpre.set 10 (.int .i64 (IntKind.i64.wrap (v+vt)))
     rw [wcells_visits] at h9
     exact h9
   exact steps_nil
 · intro ev w6 hS hval hall
   replace hS:Keep (fun b=>b=gv) W w6:=⟨hS.os,hS.tape,hS.output,hS.size,hS.block⟩
   obtain ⟨vJ,pJ⟩:∃vJ0,(fun _ w2=>Bk w2 gv 174 (wcells S n (IntKind.i64.wrap (v+vt)))) vJ0 w6:=hall 10 (by decide)
   simp only [putsOf,List.foldl_cons,List.foldl_nil,Act.put,List.setIfInBounds_toArray,List.set_cons_zero,List.set_cons_succ]
   clear hval hall
   have hw6:Bk w6 gv 174 (wcells S n (IntKind.i64.wrap (v+vt))):=pJ
   have ht6:=HtE.out.keep hS fun x t cs hin hk _=>fun e=>by
    have e':x=gv:=e
    subst e'
    rw [(bk_inj hk Hw2.out).1] at hin
    exact absurd hin (by decide)
   have hk6:Keep (fun x=>F x∨x=gv) w w6:=(HkW.out.mono fun x _ f=>.inl f).trans (hS.mono fun x _ e=>.inr e)
   have Hw6:=lhd hw6
   have Ht6:=lhd ht6
   have Hk6:=lhd hk6
   clear pJ hw6 ht6 hk6 hS
   go_wp2_with fail
   go_end0
   exact ⟨rfl,Ht6.out,Hk6.out,_,Hw6.out⟩
theorem LookD_any (gv gt gk gn:Nat) (S:Nat→Value) (n v lv p:Int) (x:Value) (F:Nat→Prop) (bs:List Bool) (k:Nat) (w:World) (hw:Bk w gv 174 (wcells S n v)) (ht:TreeE w F gt bs) (hFv:¬F gv) (hFn:¬F gn) (hFs:∀x,F x→x < w.heap.size) (hk:Bk w gk 3 #[.int .i64 (k:Int)]) (hn:Bk w gn 4 #[x]) (hgn:∀y,F y→y≠gn) (hkl:k < bs.length):
 Calls Tryz.prog 130 #[.pointer (some ⟨gv,0,none⟩),.agg #[.pointer (some ⟨gt,0,none⟩),.int .i64 lv,.int .i64 p],.func (.func 209) #[] #[.pointer (some ⟨gk,0,none⟩),.pointer (some ⟨gn,0,none⟩)]] w fun e w'=>e=.returned (.tuple #[])∧
  TreeE w' (Gw F w.heap.size) gt (delN bs k)∧Keep (fun x=>F x∨x=gv∨x=gn) w w'∧Bk w' gn 4 #[.bool (bs.getD k false)]∧∃v',Bk w' gv 174 (wcells S n v'):=by
 obtain ⟨bb,hbb⟩:∃b,bs.getD k false=b:=⟨_,rfl⟩
 rw [hbb]
 have Hbb:=lhd hbb
 clear hbb
 obtain ⟨o,ho⟩:∃o,Obj.cells #[.pointer (some ⟨gt,0,none⟩),.int .i64 lv,.int .i64 p] 177=o:=⟨_,rfl⟩
 have hal:=(Below.refl w.heap.size w).alloc (Nat.le_refl _) o
 have hs1:=Bk.new w 177 #[.pointer (some ⟨gt,0,none⟩),.int .i64 lv,.int .i64 p]
 rw [ho] at hs1
 have l4:=hw.lt
 have l5:=hn.lt
 have n1:=Bk.ne hn hw (by decide)
 have Ht:=lhd ht
 have Hk:=lhd hk
 have Hn:=lhd hn
 have Hw:=lhd hw
 have HA:=lhd hal
 have Hs:=lhd hs1
 have Ho:=lhd ho
 have HFs:=lhd hFs
 have Hkl:=lhd hkl
 clear ht hk hn hw hal hs1 ho hFs hkl
 go_enter Tryz.func130,Tryz.ntmps130
 go_wp2_with fail
 rw [Ho.out]
 refine (DeleteC_any gt gk gn lv p x F bs k _ (Ht.out.below HA.out) (Hk.out.alloc _) (Hn.out.alloc _) hFn Hkl.out).mono ?_
 rintro e w2 ⟨rfl,w1,ht2,hk2,hn1,rfl⟩
 rw [Hbb.out]
 have hw1:=hk2.bk (Hw.out.alloc o) hFv
 have hw2:=hw1.far (p:=⟨gn,0,none⟩) (fun h=>n1 h.symm) (.bool bb)
 have hs2:=(hk2.bk Hs.out (fun f=>by have:=HFs.out _ f;omega)).far (p:=⟨gn,0,none⟩) (fun h=>absurd (show w.heap.size=gn from h) (by omega)) (.bool bb)
 have hn2:=hn1.set 0 (.bool bb)
 have hkW:Keep (fun y=>F y∨y=gn) w (w1.setCell ⟨gn,0,none⟩ (.bool bb)):=Keep.setCell (F:=fun y=>F y∨y=gn) (((Keep.of_below HA.out).trans hk2).mono fun y _ f=>.inl f) (p:=⟨gn,0,none⟩) (.inl (.inr rfl)) _
 have htE1:TreeE w1 (Gw F w.heap.size) gt (delN bs k):=ht2.mono fun x _ f=>by
  rcases f with f | f
  · exact .inl f
  · simp at f
    exact .inr (by omega)
 have htE:TreeE (w1.setCell ⟨gn,0,none⟩ (.bool bb)) (Gw F w.heap.size) gt (delN bs k):=htE1.keep (G:=fun y=>y=gn) (Keep.setCell (F:=fun y=>y=gn) (Keep.refl _ _) (p:=⟨gn,0,none⟩) (.inl rfl) _) fun y t cs _ hk f=>fun e=>by
  rcases f with f | f
  · exact hgn y f e
  · have e':y=gn:=e
    omega
 obtain ⟨W,hW⟩:∃W,w1.setCell ⟨gn,0,none⟩ (.bool bb)=W:=⟨_,rfl⟩
 rw [hW] at hw2 hs2 hn2 hkW htE⊢
 obtain ⟨vt,hvt⟩:=htE.at.visits
 have htlt:=htE.at.lt
 have hslt:=hs2.lt
 have hgs:=Bk.ne hw2 hs2 (by decide)
 have hgvt:=tree_ne_wave htE.at hw2
 have Hw2:=lhd hw2
 have Hs2:=lhd hs2
 have Hn2:=lhd hn2
 have HkW:=lhd hkW
 have HtE:=lhd htE
 have Hvt:=lhd hvt
 clear hw2 hs2 hn2 hkW htE hvt ht2 hk2 HA Ht Hk Hn Hw Hs hW htE1 hw1 hn1
 go_wp2_with fail
 refine wp_region_any (by kernel_rfl) ?_
 refine wpAny_keep [9,10,11,12,13,14,15,16,17,18] (fun b=>b=gv) 10 [3,10] (fun w2=>Bk w2 gv 174 (wcells S n v)) (fun _ w2=>Bk w2 gv 174 (wcells S n (IntKind.i64.wrap (v+vt)))) [is (.pointer (some ⟨gv,0,none⟩)),is (.pointer (some ⟨gv,0,none⟩)),is (.pointer (some ⟨gv,10,none⟩)),is (.int .i64 v),is (.pointer (some ⟨w.heap.size,0,none⟩)),is (.pointer (some ⟨gt,0,none⟩)),is (.int .i64 vt),is (.int .i64 (IntKind.i64.wrap (v+vt))),is (.pointer (some ⟨gv,0,none⟩)),is (.pointer (some ⟨gv,10,none⟩)),anyV] _ _ rfl (by kernel_rfl) (by kernel_rfl) (Hw2.out) (fun w2 w3 h _ hg=>Bk.below h hg h.lt) (fun _ _ _ h k=>Bk.below h k h.lt) (by repeat' (first | exact stbk_is _ _ | exact stbk_any _ |(refine List.forall_mem_cons.2 ⟨?_,?_⟩)|(intro p hp;cases hp))) ?_ ?_
 · refine steps_of ?_
   refine steps_cons (step_on3 rfl rfl fun ev _ _ _ _ _ hold _ _ _ _ hK=>?_) ?_
   · have e0:ev (.tmp 0)=.pointer (some ⟨gv,0,none⟩):=hold 0 (by kernel_rfl)
     go_simp
     exact kq hK rfl
   refine steps_cons (step_on3 rfl rfl fun _ _ _ _ _ _ _ hval _ _ _ hK=>?_) ?_
   · have e9:_=_:=hval 0 9 (by kernel_rfl) rfl
     go_simp
     exact kq hK rfl
   refine steps_cons (step_on3 rfl rfl fun _ _ _ _ _ _ _ hval _ _ _ hK=>?_) ?_
   · have e10:_=_:=hval 1 10 (by kernel_rfl) rfl
     go_simp
     exact kq hK rfl
   refine steps_cons (step_on3 rfl rfl fun _ w5 _ hU _ _ _ hval _ _ _ hK=>?_) ?_
   · have hpre:=hU rfl
     have e11:_=_:=hval 2 11 (by kernel_rfl) rfl
     have c12:w5.cell? ⟨gv,10,none⟩=some (.int .i64 v):=(hpre.cell 10).trans (wcells_get _ _ _).2.2.2.2.2.2.2.2.2.2
     go_simp
     exact kq hK rfl
   refine steps_cons (step_on3 rfl rfl fun ev _ _ _ _ _ hold _ _ _ _ hK=>?_) ?_
   · have e4:ev (.tmp 4)=.pointer (some ⟨w.heap.size,0,none⟩):=hold 4 (by kernel_rfl)
     go_simp
     exact kq hK rfl
   refine steps_cons (step_on3 rfl rfl fun _ w5 hS _ _ _ _ hval _ _ _ hK=>?_) ?_
   · replace hS:Keep (fun b=>b=gv) W w5:=⟨hS.os,hS.tape,hS.output,hS.size,hS.block⟩
     have e13:_=_:=hval 4 13 (by kernel_rfl) rfl
     have c14:w5.cell? ⟨w.heap.size,0,none⟩=some (.pointer (some ⟨gt,0,none⟩)):=((hS.bk Hs2.out (fun h=>hgs (show w.heap.size=gv from h).symm)).cell 0).trans rfl
     go_simp
     exact kq hK rfl
   refine steps_cons (step_on3 rfl rfl fun _ w5 hS _ _ _ _ hval _ _ _ hK=>?_) ?_
   · replace hS:Keep (fun b=>b=gv) W w5:=⟨hS.os,hS.tape,hS.output,hS.size,hS.block⟩
     have e14:_=_:=hval 5 14 (by kernel_rfl) rfl
     go_simp
     refine (TreeVisits_any gt vt w5 ((hS.cell htlt hgvt).trans Hvt.out)).mono ?_
     rintro e w8 ⟨rfl,hb8⟩
     exact hK _ _ (kstep_grow hb8) rfl
   refine steps_cons (step_on3 rfl rfl fun _ _ _ _ _ _ _ hval _ _ _ hK=>?_) ?_
   · have e12:_=_:=hval 3 12 (by kernel_rfl) rfl
     have e15:_=_:=hval 6 15 (by kernel_rfl) rfl
     go_simp
     exact kq hK rfl
   refine steps_cons (step_on3 rfl rfl fun _ _ _ _ _ _ _ hval _ _ _ hK=>?_) ?_
   · have e9:_=_:=hval 0 9 (by kernel_rfl) rfl
     go_simp
     exact kq hK rfl
   refine steps_cons (step_on3 rfl rfl fun _ _ _ _ _ _ _ hval _ _ _ hK=>?_) ?_
   · have e17:_=_:=hval 8 17 (by kernel_rfl) rfl
     go_simp
     exact kq hK rfl
   refine steps_cons (step_on3 rfl rfl fun _ w5 _ hU _ _ _ hval _ _ _ hK=>?_) ?_
   · have hpre:=hU rfl
     have e18:_=_:=hval 9 18 (by kernel_rfl) rfl
     have e16:_=_:=hval 7 16 (by kernel_rfl) rfl
     have c12:w5.cell? ⟨gv,10,none⟩=some (.int .i64 v):=(hpre.cell 10).trans (wcells_get _ _ _).2.2.2.2.2.2.2.2.2.2
     have f12:=hpre.frozen 10
     go_simp
     refine hK (.bool true) _ (kstep_keep (Keep.setCell (F:=fun b=>b=gv) (Keep.refl _ _) (p:=⟨gv,10,none⟩) (.inl rfl) _)) ?_
     have h9:=hpre.set 10 (.int .i64 (IntKind.i64.wrap (v+vt)))
     rw [wcells_visits] at h9
     exact h9
   exact steps_nil
 · intro ev w6 hS hval hall
   replace hS:Keep (fun b=>b=gv) W w6:=⟨hS.os,hS.tape,hS.output,hS.size,hS.block⟩
   obtain ⟨vJ,pJ⟩:∃vJ0,(fun _ w2=>Bk w2 gv 174 (wcells S n (IntKind.i64.wrap (v+vt)))) vJ0 w6:=hall 10 (by decide)
   simp only [putsOf,List.foldl_cons,List.foldl_nil,Act.put,List.setIfInBounds_toArray,List.set_cons_zero,List.set_cons_succ]
   clear hval hall
   have hw6:Bk w6 gv 174 (wcells S n (IntKind.i64.wrap (v+vt))):=pJ
   have ht6:=HtE.out.keep hS fun x t cs hin hk _=>fun e=>by
    have e':x=gv:=e
    subst e'
    rw [(bk_inj hk Hw2.out).1] at hin
    exact absurd hin (by decide)
   have hn6:=hS.bk Hn2.out n1
   have hk6:Keep (fun x=>F x∨x=gv∨x=gn) w w6:=(HkW.out.mono (G:=fun x=>F x∨x=gv∨x=gn) fun x _ f=>by
    rcases f with f | f
    · exact .inl f
    · exact .inr (.inr f)).trans (hS.mono fun x _ e=>.inr (.inl e))
   have Hw6:=lhd hw6
   have Ht6:=lhd ht6
   have Hn6:=lhd hn6
   have Hk6:=lhd hk6
   clear pJ hw6 ht6 hk6 hS hn6
   go_wp2_with fail
   go_end0
   exact ⟨rfl,Ht6.out,Hk6.out,Hn6.out,_,Hw6.out⟩
end Go.Proofs.YtipaccakmndkgaaGreatDoor
