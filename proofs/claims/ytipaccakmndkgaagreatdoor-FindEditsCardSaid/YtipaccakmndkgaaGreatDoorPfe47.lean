/- Plain laws: counts of patterns where three bytes are put into a text. No conditions. The walk of FindEdits: three bytes that a text lacks, put in and taken out, and the counts. Conditions: the list's length is a length; the table of math/bits stands in its variable. -/
import Derived.Test.YtipaccakmndkgaaGreatDoorPfe46
import Derived.Test.YtipaccakmndkgaaGreatDoorPfe3
import Derived.Test.YtipaccakmndkgaaGreatDoorPfe39
import Derived.Test.YtipaccakmndkgaaGreatDoorPfe38
import Derived.BigQuiet
namespace Go.Proofs.YtipaccakmndkgaaGreatDoor
open Go.RowKit
set_option linter.unusedVariables false
set_option linter.unusedSimpArgs false
theorem plq_mem (t:List UInt8) (q:List UInt8) (x:Nat) (hq:0 < q.length):x∈placesT t q↔∀(i:Nat) (c:UInt8),q[i]?=some c→t[x+i]?=some c:=by
 unfold placesT
 rw [List.mem_filter,List.mem_range,preQ_bytes]
 constructor
 · exact fun h=>h.2
 · intro h
   have h1:=h 0 q[0] (List.getElem?_eq_getElem hq)
   have:=(List.getElem?_eq_some_iff.1 h1).1
   exact ⟨by omega,h⟩
theorem pl2_mem (t:List UInt8) (a b:UInt8) (x:Nat):x∈placesT t [a,b]↔t[x]?=some a∧t[x+1]?=some b:=by
 rw [plq_mem t _ x (by simp)]
 constructor
 · intro h
   exact ⟨h 0 a rfl,h 1 b rfl⟩
 · rintro ⟨h1,h2⟩ i c hc
   match i,hc with
   | 0,hc=>injection hc with hc;subst hc;exact h1
   | 1,hc=>injection hc with hc;subst hc;exact h2
   | n+2,hc=>simp at hc
theorem pl3_mem (t:List UInt8) (a b d:UInt8) (x:Nat):x∈placesT t [a,b,d]↔t[x]?=some a∧t[x+1]?=some b∧t[x+2]?=some d:=by
 rw [plq_mem t _ x (by simp)]
 constructor
 · intro h
   exact ⟨h 0 a rfl,h 1 b rfl,h 2 d rfl⟩
 · rintro ⟨h1,h2,h3⟩ i c hc
   match i,hc with
   | 0,hc=>injection hc with hc;subst hc;exact h1
   | 1,hc=>injection hc with hc;subst hc;exact h2
   | 2,hc=>injection hc with hc;subst hc;exact h3
   | n+3,hc=>simp at hc
theorem places_mid3 (t:List UInt8) {k:Nat} (x y z:UInt8) (hk:k≤t.length) (hx:∀c∈t,c≠x) (hxy:y≠x) (hxz:z≠x):placesT (midT t k [x,y,z]) [x,y,z]= [k]:=by
 refine rise_ext (places_rise _ _) (List.pairwise_singleton _ _) fun p=>?_
 have hg:=fun j=>midT_get t [x,y,z] hk j
 rw [pl3_mem,List.mem_singleton]
 constructor
 · rintro ⟨h,_⟩
   rw [hg] at h
   split at h
   · exact absurd rfl (hx x (List.mem_of_getElem? h))
   · split at h
     · rename_i h1 h2
       simp at h2
       obtain ⟨d,hd⟩:∃d,p - k=d:=⟨_,rfl⟩
       rw [hd] at h
       match d,h with
       | 0,_=>omega
       | 1,h=>injection h with h;exact absurd h hxy
       | 2,h=>injection h with h;exact absurd h hxz
       | n+3,h=>simp at h
     · exact absurd rfl (hx x (List.mem_of_getElem? h))
 · rintro rfl
   refine ⟨?_,?_,?_⟩
   · rw [hg,if_neg (by omega),if_pos (by simp),Nat.sub_self];rfl
   · rw [hg,if_neg (by omega),if_pos (by simp),Nat.add_sub_cancel_left];rfl
   · rw [hg,if_neg (by omega),if_pos (by simp),Nat.add_sub_cancel_left];rfl
theorem places_none3 (t:List UInt8) (x y z:UInt8) (hx:∀c∈t,c≠x):placesT t [x,y,z]= []:=by
 apply List.eq_nil_iff_forall_not_mem.2
 intro p hp
 exact absurd rfl (hx x (List.mem_of_getElem? ((pl3_mem t x y z p).1 hp).1))
def sh3 (k p:Nat):Nat:=if p < k then p else p+3
theorem places_cut2 (t:List UInt8) {k:Nat} (x y z a b:UInt8) (hk:k≤t.length) (hax:x≠a) (hay:y≠a) (haz:z≠a) (hbx:x≠b):placesT (midT t k [x,y,z]) [a,b]=((placesT t [a,b]).filter fun p=>decide (p+1≠k)).map (sh3 k):=by
 have hg:=fun j=>midT_get t [x,y,z] hk j
 refine rise_ext (places_rise _ _) ?_ fun p=>?_
 · refine List.pairwise_map.2 (((places_rise t [a,b]).filter _).imp fun {u v} h=>?_)
   unfold sh3
   split <;> split <;> omega
 · rw [pl2_mem,List.mem_map]
   have hmid:∀d c,([x,y,z]:List UInt8)[d]?=some c→c=x∨c=y∨c=z:=fun d c h=>by
    have:=List.mem_of_getElem? h
    simpa using this
   constructor
   · rintro ⟨h1,h2⟩
     rw [hg] at h1 h2
     by_cases c1:p < k
     · rw [if_pos c1] at h1
       by_cases c2:p+1 < k
       · rw [if_pos c2] at h2
         exact ⟨p,List.mem_filter.2 ⟨(pl2_mem t a b p).2 ⟨h1,h2⟩,decide_eq_true (by omega)⟩,by unfold sh3;rw [if_pos c1]⟩
       · rw [if_neg c2,if_pos (by simp;omega),show p+1 - k=0 by omega] at h2
         injection h2 with h2
         exact absurd h2 hbx
     · rw [if_neg c1] at h1
       by_cases c2:p < k+([x,y,z]:List UInt8).length
       · rw [if_pos c2] at h1
         rcases hmid _ _ h1 with e | e | e
         · exact absurd e.symm hax
         · exact absurd e.symm hay
         · exact absurd e.symm haz
       · rw [if_neg c2] at h1
         have c3:¬p+1 < k+([x,y,z]:List UInt8).length:=by omega
         rw [if_neg (by omega),if_neg c3] at h2
         simp only [List.length_cons,List.length_nil] at h1 h2 c2
         refine ⟨p - 3,List.mem_filter.2 ⟨(pl2_mem t a b (p - 3)).2 ⟨h1,?_⟩,decide_eq_true (by omega)⟩,by unfold sh3;rw [if_neg (by omega)];omega⟩
         rw [show p - 3+1=p+1 -(0+1+1+1) by omega]
         exact h2
   · rintro ⟨u,hu,rfl⟩
     obtain ⟨hu1,hu2⟩:=List.mem_filter.1 hu
     have hu2:=of_decide_eq_true hu2
     obtain ⟨h1,h2⟩:=(pl2_mem t a b u).1 hu1
     rw [hg,hg]
     unfold sh3
     by_cases c1:u < k
     · rw [if_pos c1,if_pos c1,if_pos (by omega)]
       exact ⟨h1,h2⟩
     · rw [if_neg c1,if_neg (by omega),if_neg (by simp only [List.length_cons,List.length_nil];omega),if_neg (by omega),if_neg (by simp only [List.length_cons,List.length_nil];omega)]
       simp only [List.length_cons,List.length_nil]
       exact ⟨h1,by rw [show u+3+1 -(0+1+1+1)=u+1 by omega];exact h2⟩
theorem filter_one {L:List Nat} (h:L.Pairwise (· < ·)) (k:Nat):(L.filter fun p=>decide (p+1≠k)).length+(if 0 < k∧k - 1∈L then 1 else 0)=L.length:=by
 induction L with
 | nil=>simp
 | cons x L ih=>
   rw [List.pairwise_cons] at h
   have ih:=ih h.2
   by_cases c:x+1=k
   · have hnm:k - 1∉L:=fun hm=>by
        have:=h.1 _ hm
        omega
     rw [if_neg (fun e=>hnm e.2)] at ih
     rw [List.filter_cons_of_neg (by simp [c]),if_pos ⟨by omega,by rw [←c];simp⟩,List.length_cons]
     omega
   · rw [List.filter_cons_of_pos (by simp [c]),List.length_cons,List.length_cons]
     have:(0 < k∧k - 1∈x::L)↔(0 < k∧k - 1∈L):=by
        rw [List.mem_cons]
        constructor
        · rintro ⟨h0,e | e⟩
          · omega
          · exact ⟨h0,e⟩
        · exact fun ⟨h0,e⟩=>⟨h0,.inr e⟩
     by_cases cc:0 < k∧k - 1∈L
     · rw [if_pos cc] at ih
       rw [if_pos (this.2 cc)]
       omega
     · rw [if_neg cc] at ih
       rw [if_neg (fun e=>cc (this.1 e))]
       omega
end Go.Proofs.YtipaccakmndkgaaGreatDoor
namespace Go.Proofs.YtipaccakmndkgaaGreatDoor
open Go.RowKit
set_option linter.unusedVariables false
set_option linter.unusedSimpArgs false
theorem LiveE.txt {w:World} {B:Nat} {own:Nat→Nat} {gl:Nat} {t:List UInt8} {rate:Nat} (h:LiveE w B own gl t rate) (hn:t.length≤127):TxtAt w B gl t:=by
 obtain ⟨rs,gk,gp,pr,h1,h2,h3,h4,h5⟩:=h.tp hn
 exact ⟨rs,h1,h2.lvw,h5⟩
theorem count_lit (W:World) (B gl:Nat) (t:List UInt8) (bs:List UInt8) (cs:Array Value) (fr:Nat×Nat) (n:Nat) (hcs:cs.toList=bs.map bv) (hn:bs.length=n) (hn2:n≤1000) (h:TxtAt W B gl t) (hB:B≤W.heap.size):
 Calls Tryz.prog 16 #[.pointer (some ⟨gl,0,none⟩),.slice (some ⟨W.heap.size+1,0,none⟩) 1 1] ((W.alloc (.cells cs 5 fr)).alloc (.cells #[.slice (some ⟨W.heap.size,0,none⟩) n n] 23)) fun e w'=>e=.returned (.int .i64 ((occ (symL t) (symB bs):Nat):Int))∧VB B W w':=by
 have hp:=parts_one W cs fr bs n hcs hn
 have hv:Below W.heap.size W ((W.alloc (.cells cs 5 fr)).alloc (.cells #[.slice (some ⟨W.heap.size,0,none⟩) n n] 23)):=((Below.refl _ _).alloc (Nat.le_refl _) _).alloc (by simp) _
 have hv2:VB B W ((W.alloc (.cells cs 5 fr)).alloc (.cells #[.slice (some ⟨W.heap.size,0,none⟩) n n] 23)):=VisK.of_below hv
 refine (TxtCount_any B gl t _ 1 1 (W.heap.size+2) [(⟨some ⟨W.heap.size,0,none⟩,n,n,bs⟩:Sl)] bs (by simp [catS]) _ (h.vis hv2.1) hp.1 hp.2 (by simp) (by omega) (by omega)).mono ?_
 rintro e w' ⟨rfl,hu⟩
 exact ⟨rfl,hv2.trans hu⟩
set_option maxRecDepth 100000 in
set_option maxHeartbeats 4000000 in
theorem FindEdits_walk (A:Option Addr) (n c:Nat) (l:List Int) (at_:Int) (w:World) (hr:Rd w w.heap.size 1 A n (l.map iv)) (hn:n≤maxLen) (hT:TabW w):
 Calls Tryz.prog 3 #[.slice A n c,.int .i64 at_] w fun e w'=>e=.returned (.bool true)∧Below w.heap.size w w':=by
 have hw:=hT.pos
 have Hr:=Lib.hid hr
 have HT:=Lib.hid hT
 have kc:=str_const
 have kc1:=str_const1
 clear hr hT
 go_enter Tryz.func3,Tryz.ntmps3
 go_wp2_with fail
 refine (Text_any A n c w.heap.size l 50 true w Hr.out (Nat.le_refl _) hn (by omega)).mono ?_
 rintro e w1 ⟨t,A1,c1,ht50,hfew,rfl,hm1,hb1⟩
 have hfz:∀d∈t,d≠(120:UInt8):=fun d hd e=>by
  have:=hfew rfl d hd
  rw [e] at this
  have h0:(120:UInt8).toNat=120:=rfl
  omega
 obtain ⟨n1,hn1⟩:∃n1,t.length=n1:=⟨_,rfl⟩
 rw [hn1] at hm1 ht50
 rw [hn1]
 have Hn1:=Lib.hid hn1
 have Hfz:=Lib.hid hfz
 have Hm1:=Lib.hid hm1
 have Hb1:=Lib.hid hb1
 clear hn1 hm1 hb1 Hr hfew hfz
 go_wp2_with fail
 have hbA:Below w1.heap.size w1 (w1.alloc (.cells #[.slice A1 n1 c1] 23)):=(Below.refl _ _).alloc (Nat.le_refl _) _
 have hrd:=Rd.made w1 23 1 1 #[.slice A1 n1 c1] rfl
 have hm1A:=Hm1.out.below hbA
 refine (LiveNewE_any 4 _ 1 1 _ [⟨A1,n1,c1,t⟩] t n1 (by simp [catS]) Hn1.out _ hrd (fun s hs=>by simp at hs;subst hs;exact hm1A.rd) (Nat.le_refl _) (by omega) (by omega) (by omega) (by omega)).mono ?_
 rintro e w3 ⟨gl,own,rfl,hgl,hle,hb3⟩
 have hb23:=hbA.trans (hb3.mono hbA.size)
 obtain ⟨B,hBe⟩:∃B,w1.heap.size=B:=⟨_,rfl⟩
 have hle3:=hle.low (B':=w1.heap.size) (by have:=hbA.size;omega)
 rw [hBe] at hb23 hle3
 have hBw:w.heap.size≤B:=by have:=Hb1.out.size;omega
 have hTB:1 < B:=by omega
 have HT1:=HT.out.below Hb1.out hw
 have Hm13:=Lib.hid (hm1A)
 have HBe:=Lib.hid hBe
 have HT1':=Lib.hid HT1
 have HTB:=Lib.hid hTB
 have HBw:=Lib.hid hBw
 have Hb3:=Lib.hid hb23
 have Hle:=Lib.hid hle3
 clear hrd hm1A hb3 hbA hb23 hle3 hle hgl HT1 hTB hBw hBe Hm13 HT
 obtain ⟨k,hk1,hk2⟩:=umod_ex at_ ((n1:Int)+1) (by omega)
 have hkn:k≤n1:=by omega
 have hk51:k≤51:=by omega
 have e1:IntKind.i64.wrap ((n1:Int)+1)=(n1:Int)+1:=by rw [IntKind.wrap_i64];omega
 have e2:IntKind.u64.wrap ((n1:Int)+1)=(n1:Int)+1:=by rw [IntKind.wrap_u64];omega
 have e3:IntKind.i64.wrap (k:Int)=(k:Int):=by rw [IntKind.wrap_i64];omega
 have hkt:k≤t.length:=by rw [Hn1.out];exact hkn
 have hlen:∀m:List UInt8,m.length≤3→(midT t k m).length≤53:=fun m hm=>by rw [midT_len t m hkt,Hn1.out];omega
 have hx3:occ (symL (midT t k [120,121,122])) (symB [120,121,122])=1:=by
  rw [←places_len,places_mid3 t 120 121 122 hkt Hfz.out (by decide) (by decide)];rfl
 have hx0:occ (symL t) (symB [120,121,122])=0:=by rw [←places_len,places_none3 t 120 121 122 Hfz.out];rfl
 obtain ⟨was,hwas⟩:∃x,occ (symL t) (symB [97,98])=x:=⟨_,rfl⟩
 obtain ⟨now,hnow⟩:∃x,occ (symL (midT t k [120,121,122])) (symB [97,98])=x:=⟨_,rfl⟩
 have hwn:now+(if 0 < k∧k - 1∈placesT t [97,98] then 1 else 0)=was:=by
  rw [←hnow,←hwas,←places_len,←places_len,places_cut2 t 120 121 122 97 98 hkt (by decide) (by decide) (by decide) (by decide),List.length_map]
  exact filter_one (places_rise _ _) k
 have hwle:was≤51:=by
  rw [←hwas,←places_len]
  have:=placesT_le t [97,98]
  rw [Hn1.out] at this
  omega
 have Hkt:=Lib.hid hkt
 have Hlen:=Lib.hid hlen
 have Hx3:=Lib.hid hx3
 have Hx0:=Lib.hid hx0
 have Hwas:=Lib.hid hwas
 have Hnow:=Lib.hid hnow
 have Hwn:=Lib.hid hwn
 have Hwle:=Lib.hid hwle
 clear hk2 hkt hlen hx3 hx0 hwas hnow hwn hwle Hfz
 go_wp2_with fail
 clear e1 e2 e3 hk1
 have htx:=Hle.out.txt (by rw [Hn1.out];omega)
 refine (count_lit w3 B gl t [97,98] #[.int .u8 97,.int .u8 98] (2,3) 2 rfl rfl (by omega) htx (by have:=Hb3.out.size;have:=HBe.out;omega)).mono ?_
 rintro e w4 ⟨rfl,hv4⟩
 rw [Hwas.out]
 have Hle4:=Lib.hid (Hle.out.vis hv4.1)
 have Hb4:=Lib.hid (Hb3.out.trans (VB.to_below hv4 (by have:=Hb3.out.size;have:=HBe.out;omega)))
 clear hv4 htx Hle Hb3
 go_wp2_with fail
 go_loopw [10] (fun i wr=>∃(j:Nat) (own':Nat→Nat),j≤3∧i=.int .i64 (j:Int)∧LiveE wr B own' gl (midT t k (([120,121,122]:List UInt8).take j)) 4∧Below B w1 wr) (fun i _=>3 -(intOf i).toNat)
 case atStart=>exact ⟨0,own,by omega,rfl,by rw [List.take_zero,midT_nil];exact Hle4.out,Hb4.out⟩
 case round=>
  clear Hle4 Hb4
  obtain ⟨j,own',hj,rfl,hle,hbr⟩:=hrel
  have Hbr:=Lib.hid hbr
  have hBr:B≤wr.heap.size:=by have:=hbr.size;have:=HBe.out;omega
  clear hbr
  rcases (show j=0∨j=1∨j=2∨j=3 by omega) with rfl | rfl | rfl | rfl
  · have hins:=LInsert_any wr B own' gl (midT t k ([]:List UInt8)) 4 (k+0) 120 hle (by have:=Hlen.out ([]:List UInt8) (by simp);omega) (by rw [midT_len t _ Hkt.out];have:=Hkt.out;simp;omega) (by omega) (by omega)
    unfold InsE at hins
    have hmi:=midT_ins t ([]:List UInt8) 120 Hkt.out
    have e122:(((120:UInt8).toNat:Nat):Int)=120:=rfl
    have e1:wrap64 ((k:Int)+0)=((k+0:Nat):Int):=by rw [wrap64_id (by omega) (by omega)];omega
    change insN (midT t k ([]:List UInt8)) (k+0) 120=midT t k [120] at hmi
    rw [e122,hmi] at hins
    have Hins:=Lib.hid hins
    clear hins e122 hmi hle
    go_wp2_with fail
    try rw [e1]
    refine Hins.out.mono ?_
    rintro e w5 ⟨rfl,own5,hle5,hlf5⟩
    have hb5:=Hbr.out.trans (hlf5.belowW hBr)
    have Hle5:=Lib.hid hle5
    have Hb5:=Lib.hid hb5
    clear hle5 hlf5 hb5 e1
    go_wp2_with fail
    go_roundw
    case rel=>exact ⟨1,own5,by omega,rfl,Hle5.out,Hb5.out⟩
    case measure=>simp [intOf]
  · have hins:=LInsert_any wr B own' gl (midT t k [120]) 4 (k+1) 121 hle (by have:=Hlen.out [120] (by simp);omega) (by rw [midT_len t _ Hkt.out];have:=Hkt.out;simp;omega) (by omega) (by omega)
    unfold InsE at hins
    have hmi:=midT_ins t [120] 121 Hkt.out
    have e122:(((121:UInt8).toNat:Nat):Int)=121:=rfl
    have e1:wrap64 ((k:Int)+1)=((k+1:Nat):Int):=by rw [wrap64_id (by omega) (by omega)];omega
    change insN (midT t k [120]) (k+1) 121=midT t k [120,121] at hmi
    rw [e122,hmi] at hins
    have Hins:=Lib.hid hins
    clear hins e122 hmi hle
    go_wp2_with fail
    try rw [e1]
    refine Hins.out.mono ?_
    rintro e w5 ⟨rfl,own5,hle5,hlf5⟩
    have hb5:=Hbr.out.trans (hlf5.belowW hBr)
    have Hle5:=Lib.hid hle5
    have Hb5:=Lib.hid hb5
    clear hle5 hlf5 hb5 e1
    go_wp2_with fail
    go_roundw
    case rel=>exact ⟨2,own5,by omega,rfl,Hle5.out,Hb5.out⟩
    case measure=>simp [intOf]
  · have hins:=LInsert_any wr B own' gl (midT t k [120,121]) 4 (k+2) 122 hle (by have:=Hlen.out [120,121] (by simp);omega) (by rw [midT_len t _ Hkt.out];have:=Hkt.out;simp;omega) (by omega) (by omega)
    unfold InsE at hins
    have hmi:=midT_ins t [120,121] 122 Hkt.out
    have e122:(((122:UInt8).toNat:Nat):Int)=122:=rfl
    have e1:wrap64 ((k:Int)+2)=((k+2:Nat):Int):=by rw [wrap64_id (by omega) (by omega)];omega
    change insN (midT t k [120,121]) (k+2) 122=midT t k [120,121,122] at hmi
    rw [e122,hmi] at hins
    have Hins:=Lib.hid hins
    clear hins e122 hmi hle
    go_wp2_with fail
    try rw [e1]
    refine Hins.out.mono ?_
    rintro e w5 ⟨rfl,own5,hle5,hlf5⟩
    have hb5:=Hbr.out.trans (hlf5.belowW hBr)
    have Hle5:=Lib.hid hle5
    have Hb5:=Lib.hid hb5
    clear hle5 hlf5 hb5 e1
    go_wp2_with fail
    go_roundw
    case rel=>exact ⟨3,own5,by omega,rfl,Hle5.out,Hb5.out⟩
    case measure=>simp [intOf]
  · have hle3:LiveE wr B own' gl (midT t k [120,121,122]) 4:=hle
    have Hle:=Lib.hid hle3
    clear hle hle3
    obtain ⟨W,hW⟩:∃W,W=wr:=⟨_,rfl⟩
    subst hW
    have hl53:=Hlen.out [120,121,122] (by simp)
    have HBr:=Lib.hid hBr
    have Hl53:=Lib.hid hl53
    clear hBr hl53
    go_wp2_with fail
    refine (count_lit W B gl _ [120,121,122] #[.int .u8 120,.int .u8 121,.int .u8 122] (3,4) 3 rfl rfl (by omega) (Hle.out.txt (by have:=Hl53.out;omega)) HBr.out).mono ?_
    rintro e W1 ⟨rfl,hv1⟩
    rw [Hx3.out]
    have Hle1:=Lib.hid (Hle.out.vis hv1.1)
    have Hb1':=Lib.hid (Hbr.out.trans (VB.to_below hv1 HBr.out))
    have HB1:=Lib.hid (Nat.le_trans HBr.out hv1.1.size)
    clear hv1 Hle Hbr HBr
    go_wp2_with fail
    refine (count_lit W1 B gl _ [97,98] #[.int .u8 97,.int .u8 98] (2,3) 2 rfl rfl (by omega) (Hle1.out.txt (by have:=Hl53.out;omega)) HB1.out).mono ?_
    rintro e W2 ⟨rfl,hv2⟩
    rw [Hnow.out]
    have Hle2:=Lib.hid (Hle1.out.vis hv2.1)
    have Hb2:=Lib.hid (Hb1'.out.trans (VB.to_below hv2 HB1.out))
    clear hv2 Hle1 Hb1' HB1
    go_wp2_with fail
    go_loopw [13] (fun i wr=>∃(j:Nat) (own':Nat→Nat),j≤3∧i=.int .i64 (j:Int)∧LiveE wr B own' gl (midT t k (([120,121,122]:List UInt8).drop j)) 4∧Below B w1 wr) (fun i _=>3 -(intOf i).toNat)
    case atStart=>exact ⟨0,own',by omega,rfl,Hle2.out,Hb2.out⟩
    case round=>
        clear Hle2 Hb2
        obtain ⟨j,own2,hj,rfl,hle,hbr⟩:=hrel
        have Hbr:=Lib.hid hbr
        have hBr:B≤wr.heap.size:=by have:=hbr.size;have:=HBe.out;omega
        clear hbr
        rcases (show j=0∨j=1∨j=2∨j=3 by omega) with rfl | rfl | rfl | rfl
        · have hTr:=HT1'.out.below Hbr.out HTB.out
          have hins:=LDelete_any wr B own2 gl (midT t k [120,121,122]) 4 k hle hTr HTB.out (by have:=Hlen.out [120,121,122] (by simp);omega) (by rw [midT_len t _ Hkt.out];have:=Hkt.out;simp;omega) (by omega) (by omega)
          unfold InsE at hins
          rw [midT_del t [121,122] 120 Hkt.out] at hins
          have Hins:=Lib.hid hins
          clear hins hTr hle
          go_wp2_with fail
          refine Hins.out.mono ?_
          rintro e w5 ⟨rfl,own5,hle5,hlf5⟩
          have hb5:=Hbr.out.trans (hlf5.belowW hBr)
          have Hle5:=Lib.hid hle5
          have Hb5:=Lib.hid hb5
          clear hle5 hlf5 hb5
          go_wp2_with fail
          go_roundw
          case rel=>exact ⟨1,own5,by omega,rfl,Hle5.out,Hb5.out⟩
          case measure=>simp [intOf]
        · have hTr:=HT1'.out.below Hbr.out HTB.out
          have hins:=LDelete_any wr B own2 gl (midT t k [121,122]) 4 k hle hTr HTB.out (by have:=Hlen.out [121,122] (by simp);omega) (by rw [midT_len t _ Hkt.out];have:=Hkt.out;simp;omega) (by omega) (by omega)
          unfold InsE at hins
          rw [midT_del t [122] 121 Hkt.out] at hins
          have Hins:=Lib.hid hins
          clear hins hTr hle
          go_wp2_with fail
          refine Hins.out.mono ?_
          rintro e w5 ⟨rfl,own5,hle5,hlf5⟩
          have hb5:=Hbr.out.trans (hlf5.belowW hBr)
          have Hle5:=Lib.hid hle5
          have Hb5:=Lib.hid hb5
          clear hle5 hlf5 hb5
          go_wp2_with fail
          go_roundw
          case rel=>exact ⟨2,own5,by omega,rfl,Hle5.out,Hb5.out⟩
          case measure=>simp [intOf]
        · have hTr:=HT1'.out.below Hbr.out HTB.out
          have hins:=LDelete_any wr B own2 gl (midT t k [122]) 4 k hle hTr HTB.out (by have:=Hlen.out [122] (by simp);omega) (by rw [midT_len t _ Hkt.out];have:=Hkt.out;simp;omega) (by omega) (by omega)
          unfold InsE at hins
          rw [midT_del t ([]:List UInt8) 122 Hkt.out] at hins
          have Hins:=Lib.hid hins
          clear hins hTr hle
          go_wp2_with fail
          refine Hins.out.mono ?_
          rintro e w5 ⟨rfl,own5,hle5,hlf5⟩
          have hb5:=Hbr.out.trans (hlf5.belowW hBr)
          have Hle5:=Lib.hid hle5
          have Hb5:=Lib.hid hb5
          clear hle5 hlf5 hb5
          go_wp2_with fail
          go_roundw
          case rel=>exact ⟨3,own5,by omega,rfl,Hle5.out,Hb5.out⟩
          case measure=>simp [intOf]
        · have hle3:LiveE wr B own2 gl t 4:=by
           have:=hle
           rw [show ([120,121,122]:List UInt8).drop 3= [] from rfl,midT_nil] at this
           exact this
          have Hle4:=Lib.hid hle3
          have Hb4:=Hbr
          have HB4:=Lib.hid hBr
          clear hle hle3 Hbr hBr
          obtain ⟨W4,hW4⟩:∃W,W=wr:=⟨_,rfl⟩
          subst hW4
          have hmt:=Hm1.out.rd.below (Hb4.out.mono (by rw [HBe.out];exact Nat.le_refl _))
          have hwn:=Hwn.out
          have hwle:=Hwle.out
          by_cases hk0:0 < k
          · have g1:decide ((k:Int) > 0)=true:=decide_eq_true (by omega)
            have g1':decide (0 < k)=true:=decide_eq_true hk0
            by_cases hkl:k < n1
            · obtain ⟨b1,o1,rfl,_,hc1⟩:=hmt.2 (by omega)
              obtain ⟨k0,hk0e⟩:∃k0,k - 1=k0:=⟨_,rfl⟩
              have e0:wrap64 ((k:Int) - 1)=(k0:Int):=by rw [wrap64_id (by omega) (by omega)];omega
              have e0':IntKind.i64.wrap ((k:Int) - 1)=(k0:Int):=by rw [IntKind.wrap_i64];omega
              obtain ⟨u,hu⟩:∃u,t[k0]?=some u:=⟨_,List.getElem?_eq_getElem (by rw [Hn1.out];omega)⟩
              obtain ⟨v,hv⟩:∃v,t[k]?=some v:=⟨_,List.getElem?_eq_getElem (by rw [Hn1.out];omega)⟩
              obtain ⟨uz,huz⟩:∃z:Int,(u.toNat:Int)=z:=⟨_,rfl⟩
              obtain ⟨vz,hvz⟩:∃z:Int,(v.toNat:Int)=z:=⟨_,rfl⟩
              have d1:W4.cell? ⟨b1,o1+k0,none⟩=some (.int .u8 uz):=hc1 k0 _ (by rw [List.getElem?_map,hu,←huz];rfl)
              have d2:W4.cell? ⟨b1,o1+k,none⟩=some (.int .u8 vz):=hc1 k _ (by rw [List.getElem?_map,hv,←hvz];rfl)
              have hiff:k - 1∈placesT t [97,98]↔u=97∧v=98:=by
               rw [hk0e,pl2_mem,show k0+1=k by omega,hu,hv]
               simp
              have hk0n:k0 < n1:=by omega
              clear hc1 hu hv hmt
              by_cases hu97:u=97
              · obtain rfl:uz=97:=by rw [←huz,hu97];rfl
                by_cases hv98:v=98
                · obtain rfl:vz=98:=by rw [←hvz,hv98];rfl
                  rw [if_pos ⟨hk0,hiff.2 ⟨hu97,hv98⟩⟩] at hwn
                  have g4:IntKind.i64.wrap ((was:Int) - 1)=(now:Int):=by rw [IntKind.wrap_i64];omega
                  have g5:wrap64 ((was:Int) - 1)=(now:Int):=by rw [wrap64_id (by omega) (by omega)];omega
                  clear hwn hwle hk0e hiff hu97 hv98 huz hvz
                  go_wp2_with fail
                  refine (Told13_any W4).mono ?_
                  rintro e W5 ⟨rfl,hb5⟩
                  have Hle5:=Lib.hid (Hle4.out.vis (Vis.of_below hb5))
                  have Hb5:=Lib.hid (Hb4.out.trans (hb5.mono HB4.out))
                  have HB5:=Lib.hid (Nat.le_trans HB4.out hb5.size)
                  clear hb5 Hle4 Hb4 HB4
                  go_wp2_with fail
                  refine (count_lit W5 B gl t [97,98] #[.int .u8 97,.int .u8 98] (2,3) 2 rfl rfl (by omega) (Hle5.out.txt (by rw [Hn1.out];omega)) HB5.out).mono ?_
                  rintro e W6 ⟨rfl,hv6⟩
                  rw [Hwas.out]
                  have Hle6:=Lib.hid (Hle5.out.vis hv6.1)
                  have Hb6:=Lib.hid (Hb5.out.trans (VB.to_below hv6 HB5.out))
                  have HB6:=Lib.hid (Nat.le_trans HB5.out hv6.1.size)
                  clear hv6 Hle5 Hb5 HB5
                  go_wp2_with fail
                  refine (count_lit W6 B gl t [120,121,122] #[.int .u8 120,.int .u8 121,.int .u8 122] (3,4) 3 rfl rfl (by omega) (Hle6.out.txt (by rw [Hn1.out];omega)) HB6.out).mono ?_
                  rintro e W7 ⟨rfl,hv7⟩
                  rw [Hx0.out]
                  have Hb7:=Lib.hid (Hb6.out.trans (VB.to_below hv7 HB6.out))
                  clear hv7 Hle6 Hb6 HB6
                  go_wp2_with fail
                  go_ret
                  exact ⟨rfl,Hb1.out.trans (Hb7.out.mono HBw.out)⟩
                · have g3:(vz==98)=false:=by
                   rw [beq_eq_false_iff_ne]
                   intro e
                   exact hv98 (UInt8.toNat_inj.1 (by have h0:(98:UInt8).toNat=98:=rfl;omega))
                  rw [if_neg (fun e=>hv98 (hiff.1 e.2).2),Nat.add_zero] at hwn
                  clear hk0e hiff hu97 hv98 huz hvz
                  have Hwn2:=Lib.hid hwn
                  have Hwl2:=Lib.hid hwle
                  clear hwn hwle
                  go_wp2_with fail
                  refine (Told13_any W4).mono ?_
                  rintro e W5 ⟨rfl,hb5⟩
                  have Hle5:=Lib.hid (Hle4.out.vis (Vis.of_below hb5))
                  have Hb5:=Lib.hid (Hb4.out.trans (hb5.mono HB4.out))
                  have HB5:=Lib.hid (Nat.le_trans HB4.out hb5.size)
                  clear hb5 Hle4 Hb4 HB4
                  have g5:wrap64 (was:Int)=(now:Int):=by have h1:=Hwn2.out;have h2:=Hwl2.out;rw [wrap64_id (by omega) (by omega)];omega
                  go_wp2_with fail
                  refine (count_lit W5 B gl t [97,98] #[.int .u8 97,.int .u8 98] (2,3) 2 rfl rfl (by omega) (Hle5.out.txt (by rw [Hn1.out];omega)) HB5.out).mono ?_
                  rintro e W6 ⟨rfl,hv6⟩
                  rw [Hwas.out]
                  have Hle6:=Lib.hid (Hle5.out.vis hv6.1)
                  have Hb6:=Lib.hid (Hb5.out.trans (VB.to_below hv6 HB5.out))
                  have HB6:=Lib.hid (Nat.le_trans HB5.out hv6.1.size)
                  clear hv6 Hle5 Hb5 HB5
                  go_wp2_with fail
                  refine (count_lit W6 B gl t [120,121,122] #[.int .u8 120,.int .u8 121,.int .u8 122] (3,4) 3 rfl rfl (by omega) (Hle6.out.txt (by rw [Hn1.out];omega)) HB6.out).mono ?_
                  rintro e W7 ⟨rfl,hv7⟩
                  rw [Hx0.out]
                  have Hb7:=Lib.hid (Hb6.out.trans (VB.to_below hv7 HB6.out))
                  clear hv7 Hle6 Hb6 HB6
                  go_wp2_with fail
                  go_ret
                  exact ⟨rfl,Hb1.out.trans (Hb7.out.mono HBw.out)⟩
              · have g2:(uz==97)=false:=by
                 rw [beq_eq_false_iff_ne]
                 intro e
                 exact hu97 (UInt8.toNat_inj.1 (by have h0:(97:UInt8).toNat=97:=rfl;omega))
                rw [if_neg (fun e=>hu97 (hiff.1 e.2).1),Nat.add_zero] at hwn
                clear hk0e hiff hu97 huz hvz
                have Hwn2:=Lib.hid hwn
                have Hwl2:=Lib.hid hwle
                clear hwn hwle
                go_wp2_with fail
                refine (Told13_any W4).mono ?_
                rintro e W5 ⟨rfl,hb5⟩
                have Hle5:=Lib.hid (Hle4.out.vis (Vis.of_below hb5))
                have Hb5:=Lib.hid (Hb4.out.trans (hb5.mono HB4.out))
                have HB5:=Lib.hid (Nat.le_trans HB4.out hb5.size)
                clear hb5 Hle4 Hb4 HB4
                have g5:wrap64 (was:Int)=(now:Int):=by have h1:=Hwn2.out;have h2:=Hwl2.out;rw [wrap64_id (by omega) (by omega)];omega
                go_wp2_with fail
                refine (count_lit W5 B gl t [97,98] #[.int .u8 97,.int .u8 98] (2,3) 2 rfl rfl (by omega) (Hle5.out.txt (by rw [Hn1.out];omega)) HB5.out).mono ?_
                rintro e W6 ⟨rfl,hv6⟩
                rw [Hwas.out]
                have Hle6:=Lib.hid (Hle5.out.vis hv6.1)
                have Hb6:=Lib.hid (Hb5.out.trans (VB.to_below hv6 HB5.out))
                have HB6:=Lib.hid (Nat.le_trans HB5.out hv6.1.size)
                clear hv6 Hle5 Hb5 HB5
                go_wp2_with fail
                refine (count_lit W6 B gl t [120,121,122] #[.int .u8 120,.int .u8 121,.int .u8 122] (3,4) 3 rfl rfl (by omega) (Hle6.out.txt (by rw [Hn1.out];omega)) HB6.out).mono ?_
                rintro e W7 ⟨rfl,hv7⟩
                rw [Hx0.out]
                have Hb7:=Lib.hid (Hb6.out.trans (VB.to_below hv7 HB6.out))
                clear hv7 Hle6 Hb6 HB6
                go_wp2_with fail
                go_ret
                exact ⟨rfl,Hb1.out.trans (Hb7.out.mono HBw.out)⟩
            · have hnm:k - 1∉placesT t [97,98]:=fun e=>by
               have h2:=((pl2_mem t 97 98 (k - 1)).1 e).2
               have:=(List.getElem?_eq_some_iff.1 h2).1
               rw [Hn1.out] at this
               omega
              rw [if_neg (fun e=>hnm e.2),Nat.add_zero] at hwn
              clear hnm hmt
              have Hwn2:=Lib.hid hwn
              have Hwl2:=Lib.hid hwle
              clear hwn hwle
              go_wp2_with fail
              refine (Told13_any W4).mono ?_
              rintro e W5 ⟨rfl,hb5⟩
              have Hle5:=Lib.hid (Hle4.out.vis (Vis.of_below hb5))
              have Hb5:=Lib.hid (Hb4.out.trans (hb5.mono HB4.out))
              have HB5:=Lib.hid (Nat.le_trans HB4.out hb5.size)
              clear hb5 Hle4 Hb4 HB4
              have g5:wrap64 (was:Int)=(now:Int):=by have h1:=Hwn2.out;have h2:=Hwl2.out;rw [wrap64_id (by omega) (by omega)];omega
              go_wp2_with fail
              refine (count_lit W5 B gl t [97,98] #[.int .u8 97,.int .u8 98] (2,3) 2 rfl rfl (by omega) (Hle5.out.txt (by rw [Hn1.out];omega)) HB5.out).mono ?_
              rintro e W6 ⟨rfl,hv6⟩
              rw [Hwas.out]
              have Hle6:=Lib.hid (Hle5.out.vis hv6.1)
              have Hb6:=Lib.hid (Hb5.out.trans (VB.to_below hv6 HB5.out))
              have HB6:=Lib.hid (Nat.le_trans HB5.out hv6.1.size)
              clear hv6 Hle5 Hb5 HB5
              go_wp2_with fail
              refine (count_lit W6 B gl t [120,121,122] #[.int .u8 120,.int .u8 121,.int .u8 122] (3,4) 3 rfl rfl (by omega) (Hle6.out.txt (by rw [Hn1.out];omega)) HB6.out).mono ?_
              rintro e W7 ⟨rfl,hv7⟩
              rw [Hx0.out]
              have Hb7:=Lib.hid (Hb6.out.trans (VB.to_below hv7 HB6.out))
              clear hv7 Hle6 Hb6 HB6
              go_wp2_with fail
              go_ret
              exact ⟨rfl,Hb1.out.trans (Hb7.out.mono HBw.out)⟩
          · have g1:decide ((k:Int) > 0)=false:=decide_eq_false (by omega)
            have g1':decide (0 < k)=false:=decide_eq_false hk0
            rw [if_neg (fun e=>hk0 e.1),Nat.add_zero] at hwn
            clear hmt
            have Hwn2:=Lib.hid hwn
            have Hwl2:=Lib.hid hwle
            clear hwn hwle
            go_wp2_with fail
            refine (Told13_any W4).mono ?_
            rintro e W5 ⟨rfl,hb5⟩
            have Hle5:=Lib.hid (Hle4.out.vis (Vis.of_below hb5))
            have Hb5:=Lib.hid (Hb4.out.trans (hb5.mono HB4.out))
            have HB5:=Lib.hid (Nat.le_trans HB4.out hb5.size)
            clear hb5 Hle4 Hb4 HB4
            have g5:wrap64 (was:Int)=(now:Int):=by have h1:=Hwn2.out;have h2:=Hwl2.out;rw [wrap64_id (by omega) (by omega)];omega
            go_wp2_with fail
            refine (count_lit W5 B gl t [97,98] #[.int .u8 97,.int .u8 98] (2,3) 2 rfl rfl (by omega) (Hle5.out.txt (by rw [Hn1.out];omega)) HB5.out).mono ?_
            rintro e W6 ⟨rfl,hv6⟩
            rw [Hwas.out]
            have Hle6:=Lib.hid (Hle5.out.vis hv6.1)
            have Hb6:=Lib.hid (Hb5.out.trans (VB.to_below hv6 HB5.out))
            have HB6:=Lib.hid (Nat.le_trans HB5.out hv6.1.size)
            clear hv6 Hle5 Hb5 HB5
            go_wp2_with fail
            refine (count_lit W6 B gl t [120,121,122] #[.int .u8 120,.int .u8 121,.int .u8 122] (3,4) 3 rfl rfl (by omega) (Hle6.out.txt (by rw [Hn1.out];omega)) HB6.out).mono ?_
            rintro e W7 ⟨rfl,hv7⟩
            rw [Hx0.out]
            have Hb7:=Lib.hid (Hb6.out.trans (VB.to_below hv7 HB6.out))
            clear hv7 Hle6 Hb6 HB6
            go_wp2_with fail
            go_ret
            exact ⟨rfl,Hb1.out.trans (Hb7.out.mono HBw.out)⟩
end Go.Proofs.YtipaccakmndkgaaGreatDoor
