/- slices.SortFunc of an own row of numbers, by what they stand for. Conditions: numbers below a bound; the comparison leaves the world (but draws). The walks of perm.New (no pairs), live.New and live's Len. Conditions: at most 127 bytes, a rate from 1 to 64. -/
import Derived.Test.YtipaccakmndkgaaGreatPwa20
import Derived.Test.YtipaccakmndkgaaGreatPwa15
namespace Go.Proofs.YtipaccakmndkgaaGreat
open Go.RowKit Go.Shelf
open Go.Sort (Holds PermIn SortedIn SWO heap_grow_old)
set_option linter.unusedVariables false
set_option linter.unusedSimpArgs false
theorem sort_own {w:World} {m base g cap n k:Nat} {os:Array Obj} {cur:Array Value} (d':Array (Fin (m+1))) (hd:d'.size=n) (hb:Bk w g 3 cur) (hg:base≤g) (h1:n≤cap) (h2:cap≤maxLen) (h3:cur.size=cap):
 (sortWorld (encF m) w g 0 k d' os).ownsRow base 3 1 (.slice (some ⟨g,0,none⟩) n cap) n ((d'.toList.map fun x=>x.val).map sv):=by
 have hgl:=hb.lt
 have hh:(sortWorld (encF m) w g 0 k d' os).heap[g]?=some (.cells (Go.Sort.putCells (encF m) 0 d' cur) 3 (0,0)):=by
  unfold sortWorld
  rw [heap_grow_old _ _ (by show g < (w.heap.modify g _).size;simpa using hgl)]
  have hb':w.heap[g]?=some (.cells cur 3 (0,0)):=hb
  simp [Go.Sort.putRow,Go.Sort.mapBlock,Go.Sort.ahead,Array.getElem?_modify,hb',Go.Sort.onCells]
 refine ⟨by simp [hd],.inr ⟨g,cap,_,rfl,hg,hh,h1,h2,by simp [Go.Sort.putCells,h3],?_⟩⟩
 rw [Nat.mul_one]
 refine ei_take_ext (by simp [hd]) (by simp [Go.Sort.putCells];omega) fun j hj=>?_
 have hjc:j < cur.size:=by omega
 have hjd:j < d'.size:=by omega
 simp [Go.Sort.putCells,Array.getElem?_mapIdx,hjc,hjd,encF,sv,getB]
theorem ordA_vals {c:Nat} {ks:List Nat} (h:∀k∈ks,k < c+1):(ordA c ks).toList.map (fun x=>x.val)=ks:=by
 unfold ordA
 rw [List.map_map]
 conv=>rhs;rw [←List.map_id ks]
 exact List.map_congr_left fun k hk=>Nat.mod_eq_of_lt (h k hk)
def cfK (c:Nat) (f:Nat→Nat) (x y:Fin (c+1)):Int:=Lib.compareInt ((f x.val:Nat):Int) ((f y.val:Nat):Int)
theorem lt_cfK (c:Nat) (f:Nat→Nat) (x y:Fin (c+1)):ltOf (cfK c f) x y=decide (f x.val < f y.val):=by
 unfold ltOf cfK
 rw [decide_eq_decide,cmp_neg]
 omega
theorem swo_cfK (c:Nat) (f:Nat→Nat):SWO (ltOf (cfK c f)) where
 irrefl x:=by rw [lt_cfK];simp
 trans x y z h1 h2:=by
  rw [lt_cfK,decide_eq_true_eq] at*
  omega
 ntrans x y z h1 h2:=by
  rw [lt_cfK,decide_eq_false_iff_not] at*
  omega
theorem sorted_vals {c:Nat} {ks:List Nat} {f:Nat→Nat} {d':Array (Fin (c+1))} (h:∀k∈ks,k < c+1) (hp:PermIn 0 (ordA c ks).size (ordA c ks) d') (hs:SortedIn (ltOf (cfK c f)) 0 (ordA c ks).size d') (hnd:ks.Nodup) (hf:∀x∈ks,∀y∈ks,f x=f y→x=y):
 (d'.toList.map fun x=>x.val).Perm ks∧(d'.toList.map fun x=>x.val).Pairwise (fun a b=>f a < f b):=by
 have hperm:(d'.toList.map fun x=>x.val).Perm ks:=by
  have:=(perm_of_in hp).map (fun x:Fin (c+1)=>x.val)
  rwa [ordA_vals h] at this
 refine ⟨hperm,?_⟩
 have hnd':(d'.toList.map fun x=>x.val).Nodup:=hperm.nodup_iff.2 hnd
 rw [List.pairwise_iff_getElem]
 intro i j hi hj hij
 have hi':i < d'.size:=by simpa using hi
 have hj':j < d'.size:=by simpa using hj
 have h1:=hs i j (Nat.zero_le _) hij (by rw [←hp.1];exact hj')
 rw [lt_cfK,decide_eq_false_iff_not,getB _ _ hi',getB _ _ hj'] at h1
 have e1:(d'.toList.map fun x=>x.val)[i]=d'[i].val:=by simp
 have e2:(d'.toList.map fun x=>x.val)[j]=d'[j].val:=by simp
 have hne:(d'.toList.map fun x=>x.val)[i]≠(d'.toList.map fun x=>x.val)[j]:=List.pairwise_iff_getElem.1 hnd' i j hi hj hij
 have m1:d'[i].val∈ks:=hperm.subset (by rw [←e1];exact List.getElem_mem hi)
 have m2:d'[j].val∈ks:=hperm.subset (by rw [←e2];exact List.getElem_mem hj)
 rw [e1,e2] at hne⊢
 have hne2:f d'[i].val≠f d'[j].val:=fun e=>hne (hf _ m1 _ m2 e)
 omega
end Go.Proofs.YtipaccakmndkgaaGreat
namespace Go.Proofs.YtipaccakmndkgaaGreat
open Go.RowKit
set_option linter.unusedVariables false
set_option linter.unusedSimpArgs false
set_option maxRecDepth 100000 in
theorem PermNew_any (n:Nat) (w:World) (hn:n≤2147483648):
 Calls Tryz.prog 14 #[.int .i64 (n:Int),.slice none 0 0] w fun e w'=>∃gp ga,e=.returned (.tuple #[.pointer (some ⟨gp,0,none⟩),.int .i64 0])∧PermAt w' w.heap.size gp ga (.slice none 0 0) (.slice none 0 0) (.slice none 0 0) (.slice none 0 0) n n [] [] [] []∧Below w.heap.size w w':=by
 have h1:¬((n:Int) < 0):=by omega
 have h2:¬((n:Int) > 2147483648):=by omega
 go_enter Tryz.func14,Tryz.ntmps14
 go_wp2_with fail
 refine (ArenaNew_any _).mono ?_
 rintro e w1 ⟨rfl,hbk,hb⟩
 have Hbk:=Lib.hid hbk
 have Hb:=Lib.hid hb
 have hz:=hbk.lt
 clear hbk hb
 go_wp2_with fail
 refine wp_loop_rounds 1 ?_
 rw [rounds_succ]
 go_wp2_with fail
 go_ret2
 have hs:=Hb.out.size
 exact ⟨_,_,rfl,⟨Bk.new _ _ _,World.ownsRow_nil _ _ _ _,World.ownsRow_nil _ _ _ _,Hbk.out.alloc _,World.ownsRow_nil _ _ _ _,World.ownsRow_nil _ _ _ _,.inl rfl,fun k hk=>(by cases hk),⟨hs,Nat.le_refl _⟩⟩,Hb.out.alloc hs _⟩
def sampC (rs:List Nat) (rate k:Nat):List (Nat×Nat):=((List.range k).filter fun i=>rs.getD i 0 % rate==0).map fun i=>(i,rs.getD i 0)
theorem sampC_succ (rs:List Nat) (rate k:Nat):sampC rs rate (k+1)=if rs.getD k 0 % rate=0 then sampC rs rate k++ [(k,rs.getD k 0)] else sampC rs rate k:=by
 unfold sampC
 rw [List.range_succ,List.filter_append,List.map_append]
 by_cases h:rs.getD k 0 % rate=0
 · rw [if_pos h]
   simp only [List.filter_cons,h,beq_self_eq_true,if_true,List.filter_nil,List.map_cons,List.map_nil]
 · rw [if_neg h]
   have:(rs.getD k 0 % rate==0)=false:=by simpa using h
   simp only [List.filter_cons,this,Bool.false_eq_true,if_false,List.filter_nil,List.map_nil,List.append_nil]
theorem sampC_mem {rs:List Nat} {rate k:Nat} {x:Nat×Nat} (h:x∈sampC rs rate k):x.1 < k∧x.2=rs.getD x.1 0:=by
 unfold sampC at h
 obtain ⟨i,hi,rfl⟩:=List.mem_map.1 h
 have:=(List.mem_filter.1 hi).1
 exact ⟨by simpa using this,rfl⟩
theorem sampC_sorted (rs:List Nat) (rate k:Nat):(sampC rs rate k).Pairwise (fun a b=>a.1 < b.1):=by
 unfold sampC
 rw [List.pairwise_map]
 exact List.Pairwise.filter _ List.pairwise_lt_range
theorem rowK_mem {C:List (Nat×Nat)} {k:Nat} (h:k < C.length):(rowK C k,posK C k)∈C:=by
 unfold rowK posK
 rw [List.getD_eq_getElem?_getD,List.getElem?_eq_getElem h]
 exact List.getElem_mem h
theorem rowK_sorted {C:List (Nat×Nat)} (h:C.Pairwise (fun a b=>a.1 < b.1)):(List.range C.length).Pairwise (fun a b=>rowK C a < rowK C b):=by
 rw [List.pairwise_iff_getElem]
 intro i j hi hj hij
 have hi':i < C.length:=by simpa using hi
 have hj':j < C.length:=by simpa using hj
 have:=List.pairwise_iff_getElem.1 h i j hi' hj' hij
 simp only [List.getElem_range]
 unfold rowK
 rw [List.getD_eq_getElem?_getD,List.getD_eq_getElem?_getD,List.getElem?_eq_getElem hi',List.getElem?_eq_getElem hj']
 exact this
theorem Apt.next2 {v v':Value} {A:Option Addr} {N:Nat} (h:Apt v A) (ho:v'.ownBlock=v.ownBlock∨∃g,v'.ownBlock=some g∧N≤g) (hA:∀a,A=some a→a.block < N):Apt v' A:=by
 intro a ha hb
 rcases ho with e |⟨g,e,hg⟩
 · exact h a ha (e.symm.trans hb)
 · rw [e] at hb
   injection hb with hb
   have:=hA a ha
   omega
theorem PermAt.foot {w:World} {B gp ga:Nat} {vl vo vt vf:Value} {R P:Nat} {ks:List Nat} {C:List (Nat×Nat)} {tk:List Bool} {fr:List Nat} (h:PermAt w B gp ga vl vo vt vf R P ks C tk fr) {b:Nat} (hb:PF gp ga vl vo vt b):B≤b:=by
 rcases hb with rfl | rfl | hb | hb | hb
 · exact h.lo.1
 · exact h.lo.2
 · exact (h.lrow.lt _ hb).1
 · exact (h.orow.lt _ hb).1
 · exact (h.trow.lt _ hb).1
theorem PermAt.keep {F:Nat→Prop} {w w':World} {B gp ga:Nat} {vl vo vt vf:Value} {R P:Nat} {ks:List Nat} {C:List (Nat×Nat)} {tk:List Bool} {fr:List Nat} (h:PermAt w B gp ga vl vo vt vf R P ks C tk fr) (k:Keep F w w')
 (hf:∀b t cs,F b→Bk w b t cs→t∉ [68,70,3,107,4]):PermAt w' B gp ga vl vo vt vf R P ks C tk fr:=
 ⟨k.bk h.blk (fun f=>hf _ _ _ f h.blk (by decide)),own_keepT h.lrow k (fun b cs f hb=>hf _ _ _ f hb (by decide)),own_keepT h.orow k (fun b cs f hb=>hf _ _ _ f hb (by decide)),k.bk h.ar (fun f=>hf _ _ _ f h.ar (by decide)),own_keepT h.trow k (fun b cs f hb=>hf _ _ _ f hb (by decide)),own_keepT h.frow k (fun b cs f hb=>hf _ _ _ f hb (by decide)),h.apart,h.lt,h.lo⟩
structure LvInv (w2:World) (B1 B3 gl gk gp ga n rate:Nat) (A3:Option Addr) (c3:Nat) (rs:List Nat) (k:Nat) (vl vo vt:Value) (tk:List Bool) (wr:World):Prop where
 perm:PermAt wr B1 gp ga vl vo vt (.slice none 0 0) n n (List.range (sampC rs rate k).length) (sampC rs rate k) tk []
 len:tk.length=(sampC rs rate k).length
 apt:Apt vo A3
 row:wr.ownsRow B3 3 1 (.slice A3 n c3) n (rs.map sv)
 blk:Bk wr gl 42 #[.pointer (some ⟨gk,0,none⟩),.pointer (some ⟨gp,0,none⟩),.int .i64 (rate:Int),.int .i64 0]
 below:Below w2.heap.size w2 wr
structure LiveAt (w:World) (Bw gl gk gp ga:Nat) (vl vo vt:Value) (B n rate:Nat) (L:List Nat) (C:List (Nat×Nat)) (tk:List Bool):Prop where
 blk:Bk w gl 42 #[.pointer (some ⟨gk,0,none⟩),.pointer (some ⟨gp,0,none⟩),.int .i64 (rate:Int),.int .i64 0]
 walk:WalkAt w Bw gk L
 perm:PermAt w B gp ga vl vo vt (.slice none 0 0) n n (List.range C.length) C tk []
set_option maxRecDepth 100000 in
set_option maxHeartbeats 4000000 in
theorem LiveNew_any (rate:Nat) (A0:Option Addr) (m0 c0 B:Nat) (ss:List Sl) (t:List UInt8) (N:Nat) (hT:catS ss=t) (hN:t.length=N) (w:World) (hr0:Rd w B 1 A0 m0 (ss.map slV)) (hss:∀s∈ss,Rd w B 1 s.A s.n (s.l.map bv)) (hB:B≤w.heap.size) (hm:m0≤1000000) (hn:N≤127) (hr1:1≤rate) (hr2:rate≤64):
 Calls Tryz.prog 5 #[.int .i64 (rate:Int),.slice A0 m0 c0] w fun e w'=>∃gl gk gp ga vl vo vt B' tk rs,IsSuf (symL t) rs∧e=.returned (.tuple #[.pointer (some ⟨gl,0,none⟩),.int .i64 0])∧w.heap.size≤gl∧LiveAt w' w.heap.size gl gk gp ga vl vo vt B' (N+1) rate (lastL (symL t) rs) (sampC rs rate (N+1)) tk∧tk.length=(sampC rs rate (N+1)).length∧Below w.heap.size w w':=by
 have hcat:=Concat_any A0 m0 c0 B ss t N hT hN w hr0 hss hB (by omega) (by omega)
 have hrI1:¬((rate:Int) < 1):=by omega
 have hrI2:¬((rate:Int) > 64):=by omega
 clear hr0 hss
 go_enter Tryz.func5,Tryz.ntmps5
 go_wp2_with fail
 refine hcat.mono ?_
 clear hcat
 rintro e w1 ⟨A1,c1,rfl,hm1,hb1⟩
 have hbb1:=hb1
 have hR1:=hm1.rd
 have HR1:=Lib.hid hR1
 have Hb1:=Lib.hid hb1
 clear hm1 hb1 hbb1 hR1
 go_wp2_with fail
 refine (WalkNew_any A1 N c1 w1.heap.size t w1 HR1.out (Nat.le_refl _) hn).mono ?_
 rintro e w2 ⟨gk,rs,hsuf,rfl,hgk,hwk,hb2⟩
 have hR2:=HR1.out.below hb2
 have hb12:=Hb1.out.trans (hb2.mono Hb1.out.size)
 have Hsuf:=Lib.hid hsuf
 have Hwk:=Lib.hid (hwk.mono Hb1.out.size)
 have HR2:=Lib.hid (hR2.mono hb2.size)
 have Hb2:=Lib.hid hb12
 clear hsuf hwk hR2 hb12 hb2 HR1 Hb1 hgk
 go_wp2_with fail
 obtain ⟨n,hn1⟩:∃n,N+1=n:=⟨_,rfl⟩
 have hnI:(N:Int)+1=(n:Int):=by omega
 rw [hnI]
 have hlb:=Bk.new w2 42 #[.pointer (some ⟨gk,0,none⟩),.pointer none,.int .i64 (rate:Int),.int .i64 0]
 have hbA:Below w2.heap.size w2 (w2.alloc (.cells #[.pointer (some ⟨gk,0,none⟩),.pointer none,.int .i64 (rate:Int),.int .i64 0] 42)):=(Below.refl _ _).alloc (Nat.le_refl _) _
 obtain ⟨gl,hgl⟩:∃g,w2.heap.size=g:=⟨_,rfl⟩
 rw [hgl] at hlb
 rw [hgl]
 have Hgl:=Lib.hid hgl
 generalize w2.alloc (.cells #[.pointer (some ⟨gk,0,none⟩),.pointer none,.int .i64 (rate:Int),.int .i64 0] 42)=w3 at hlb hbA⊢
 have Hlb:=Lib.hid hlb
 have HbA:=Lib.hid hbA
 have HN1:=Lib.hid hn1
 clear hlb hbA hn1 hgl
 refine (PermNew_any n w3 (by omega)).mono ?_
 rintro e w4 ⟨gp,ga,rfl,hpm,hb4⟩
 have hlb4:=Hlb.out.below hb4 Hlb.out.lt
 have d1:w4.cell? ⟨gl,1,none⟩=some (.pointer none):=(hlb4.cell 1).trans rfl
 have f1:=hlb4.frozen 1
 have Hlb4:=Lib.hid hlb4
 have Hpm:=Lib.hid hpm
 have Hb4:=Lib.hid hb4
 clear hlb4 hpm hb4
 go_wp2_with fail
 have hk45:=(Keep.refl (fun b=>b=gl) w4).setCell (p:=⟨gl,1,none⟩) (.inl rfl) (.pointer (some ⟨gp,0,none⟩))
 have hlb5:=Hlb4.out.set 1 (.pointer (some ⟨gp,0,none⟩))
 have hpm5:=Hpm.out.keep hk45 (fun b t cs f hb=>by
  subst f
  have:=(bk_inj hb Hlb4.out).1
  subst this
  decide)
 have hb25:Below w2.heap.size w2 (w4.setCell ⟨gl,1,none⟩ (.pointer (some ⟨gp,0,none⟩))):=(HbA.out.trans (Hb4.out.mono HbA.out.size)).setCell (by rw [Hgl.out];exact Nat.le_refl _) _
 have hgl2:=Hgl.out
 have hB1:w2.heap.size≤w3.heap.size:=HbA.out.size
 clear d1 f1
 generalize w4.setCell ⟨gl,1,none⟩ (.pointer (some ⟨gp,0,none⟩))=w5 at hlb5 hpm5 hb25⊢
 have hrows:=SortedRows_any A1 N c1 w2.heap.size t w5 (HR2.out.below hb25) hb25.size (by omega)
 rw [HN1.out] at hrows
 have Hlb5:=Lib.hid hlb5
 have Hpm5:=Lib.hid hpm5
 have Hb25:=Lib.hid hb25
 clear hk45 hlb5 hpm5 hb25
 refine hrows.mono ?_
 clear hrows
 rintro e w6 ⟨rs',A3,c3,hsuf',rfl,hm6,hb6⟩
 obtain rfl:rs=rs':=Hsuf.out.unique hsuf'
 have hlen:rs.length=n:=by rw [Hsuf.out.len,symL_len,hN,HN1.out]
 have hinv:LvInv w2 w3.heap.size w5.heap.size gl gk gp ga n rate A3 c3 rs 0 (.slice none 0 0) (.slice none 0 0) (.slice none 0 0) [] w6:=
  ⟨Hpm5.out.below hb6,rfl,fun a _ hb=>(by cases hb),hm6.own,Hlb5.out.below hb6 Hlb5.out.lt,Hb25.out.trans (hb6.mono Hb25.out.size)⟩
 have Hlen:=Lib.hid hlen
 have Hinv:=Lib.hid hinv
 clear hinv hm6 hb6 hsuf' hlen Hlb5 Hpm5 Hb25
 go_wp2_with fail
 go_loopw [8,9,36] (fun _ _ i wr=>∃k:Nat,k≤n∧i=.int .i64 k∧∃vl vo vt tk,LvInv w2 w3.heap.size w5.heap.size gl gk gp ga n rate A3 c3 rs k vl vo vt tk wr) (fun _ _ i _=>n -(intOf i).toNat)
 case atStart=>exact ⟨0,by omega,rfl,_,_,_,_,Hinv.out⟩
 case round=>
  clear Hinv
  obtain ⟨k,hk,rfl,vl,vo,vt,tk,hinv⟩:=hrel
  by_cases hlt:k < n
  · have hkl:k < rs.length:=by rw [Hlen.out];exact hlt
    obtain ⟨p,hp⟩:∃p,rs[k]?=some p:=⟨_,List.getElem?_eq_getElem hkl⟩
    have hpn:p < n:=by have:=Hsuf.out.lt (List.mem_of_getElem? hp);rw [symL_len,hN,HN1.out] at this;exact this
    have hgd:rs.getD k 0=p:=by rw [List.getD_eq_getElem?_getD,hp];rfl
    have hrd:=Rd.of_own hinv.row
    obtain ⟨b,off,u,hA3,hbl,hu,hc⟩:=hrd.get hlt
    rw [List.getElem?_map,hp] at hu
    injection hu with hu
    subst hu hA3
    unfold sv at hc
    have cg0:=hinv.blk.cell 1
    have hmt:((p:Int)).tmod (rate:Int)=((p % rate:Nat):Int):=by rw [Int.tmod_eq_emod_of_nonneg (by omega)];simp
    have hme:((p:Int))%(rate:Int)=((p % rate:Nat):Int):=by simp
    obtain ⟨q,hq⟩:∃q,p % rate=q:=⟨_,rfl⟩
    rw [hq] at hmt hme
    have hsc:=sampC_succ rs rate k
    rw [hgd,hq] at hsc
    have Hgd:=Lib.hid hgd
    have Hp:=Lib.hid hp
    have Hq:=Lib.hid hq
    have Hinv:=Lib.hid hinv
    have Hrl:=Lib.hid hbl
    clear hgd hp hq hinv hrd hkl hbl
    by_cases hq0:q=0
    · subst hq0
      rw [if_pos rfl] at hsc
      have Hsc:=Lib.hid hsc
      clear hsc
      go_wp2_with fail
      have hadd:=PermAdd_any w3.heap.size gp ga vl vo vt n n (List.range (sampC rs rate k).length) (sampC rs rate k) tk k p wr Hinv.out.perm (rowK_sorted (sampC_sorted rs rate k)) (fun j hj=>(sampC_mem (rowK_mem (by simpa using hj))).1) (fun j hj e=>by
       have h1:=sampC_mem (rowK_mem (C:=sampC rs rate k) (by simpa using hj))
       have h2:posK (sampC rs rate k) j=rs.getD (rowK (sampC rs rate k) j) 0:=h1.2
       have h3:rowK (sampC rs rate k) j < k:=h1.1
       have hkl:k < rs.length:=by rw [Hlen.out];exact hlt
       have h4:rs[rowK (sampC rs rate k) j]?=rs[k]?:=by
        rw [Hp.out,←e,h2,List.getD_eq_getElem?_getD,List.getElem?_eq_getElem (show rowK (sampC rs rate k) j < rs.length by omega)]
        rfl
       have:=(List.getElem?_inj (show rowK (sampC rs rate k) j < rs.length by omega) Hsuf.out.nodup).1 h4
       omega) hlt hpn Hinv.out.len (by
        have:(sampC rs rate k).length≤k:=by unfold sampC;rw [List.length_map];exact Nat.le_trans (List.length_filter_le _ _) (by simp)
        omega) (by
        have:(sampC rs rate k).length≤k:=by unfold sampC;rw [List.length_map];exact Nat.le_trans (List.length_filter_le _ _) (by simp)
        simp
        omega) (by have:=Hinv.out.perm.blk.lt;have:=Hinv.out.perm.lo.1;omega)
      refine hadd.mono ?_
      clear hadd
      rintro e w7 ⟨rfl,hk7,vl',vo',vt',hpm7,hf1,hf2,hf3⟩
      go_wp2_with fail
      go_roundw
      case rel=>
       have hinv:=Hinv.out
       refine ⟨k+1,by omega,by go_num,vl',vo',vt',tk++ [true],?_,?_,?_,?_,?_,?_⟩
       · rw [Hsc.out]
         simpa [List.range_succ] using hpm7
       · rw [Hsc.out]
         simp [hinv.len]
       · exact hinv.apt.next2 hf1 (fun a ha=>by injection ha with ha;subst ha;exact Hrl.out)
       · refine own_same hinv.row fun b' cs hb' hbk=>hk7.bk hbk (fun f=>?_)
         rcases f with f | f | f | f | f
         · subst f;exact Bk.ne hbk hinv.perm.blk (by decide) rfl
         · subst f;exact Bk.ne hbk hinv.perm.ar (by decide) rfl
         · exact own_bk_ne hinv.perm.lrow hbk (by decide) f.symm
         · have hb2:b=b':=by simpa [Value.ownBlock] using hb'
           subst hb2
           exact hinv.apt _ rfl f
         · exact own_bk_ne hinv.perm.trow hbk (by decide) f.symm
       · refine hk7.bk hinv.blk (fun f=>?_)
         have:=hinv.perm.foot f
         have:=Hlb.out.lt
         omega
       · exact hinv.below.trans (hk7.to_below hinv.below.size (fun b' hb' f=>by have:=hinv.perm.foot f;omega))
      case measure=>simp [intOf];omega
    · rw [if_neg hq0] at hsc
      have Hsc:=Lib.hid hsc
      have hqb:((q:Int)==0)=false:=by simp;omega
      clear hsc
      go_wp2_with fail
      go_roundw
      case rel=>
       have hinv:=Hinv.out
       exact ⟨k+1,by omega,by go_num,vl,vo,vt,tk,by rw [Hsc.out];exact hinv.perm,by rw [Hsc.out];exact hinv.len,hinv.apt,hinv.row,hinv.blk,hinv.below⟩
      case measure=>simp [intOf];omega
  · obtain rfl:n=k:=by omega
    have Hinv:=Lib.hid hinv
    clear hinv
    go_wp2_with fail
    go_ret2
    have hinv:=Hinv.out
    refine ⟨gl,gk,gp,ga,vl,vo,vt,w3.heap.size,tk,rs,Hsuf.out,rfl,?_,⟨hinv.blk,?_,?_⟩,?_,?_⟩
    · have:=Hb2.out.size
      have:=Hgl.out
      omega
    · exact Hwk.out.vis (Vis.of_below hinv.below)
    · rw [HN1.out];exact hinv.perm
    · rw [HN1.out];exact hinv.len
    · exact Hb2.out.trans (hinv.below.mono Hb2.out.size)
end Go.Proofs.YtipaccakmndkgaaGreat
