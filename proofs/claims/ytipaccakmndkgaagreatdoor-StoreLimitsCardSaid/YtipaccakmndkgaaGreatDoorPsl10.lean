/- The walks of the tally's Of, Below, Add (of one) and New. Conditions: symbols below 257, at most 1000. The walks of sym's Of and All (of one part), and of slices.Clone of ints. Conditions: at most 128 bytes, 2^30 ints. The walks of block's Insert and Delete. Conditions: a place that is there; room for one bit more. -/
import Derived.Test.YtipaccakmndkgaaGreatDoorPsl9
import Derived.Test.YtipaccakmndkgaaGreatDoorPsl4
import Derived.Test.YtipaccakmndkgaaGreatDoorPsl6
set_option linter.unusedVariables false
set_option linter.unusedSimpArgs false
set_option maxRecDepth 100000
set_option maxHeartbeats 4000000
namespace Go.Proofs.YtipaccakmndkgaaGreatDoor
open Go.RowKit
@[irreducible] def tcells (L:List Nat):Array Value:=Array.ofFn (n:=258) fun i=>.int .i64 (((if i.val < 257 then L.count i.val else L.length):Nat):Int)
theorem tcells_of (L:List Nat) {s:Nat} (h:s < 257):(tcells L)[s]?=some (.int .i64 ((L.count s:Nat):Int)):=by
 unfold tcells
 rw [Array.getElem?_ofFn,dif_pos (by omega),if_pos h]
theorem tcells_all (L:List Nat):(tcells L)[257]?=some (.int .i64 ((L.length:Nat):Int)):=by
 unfold tcells
 rw [Array.getElem?_ofFn,dif_pos (by omega)]
 rfl
theorem tcells_size (L:List Nat):(tcells L).size=258:=by unfold tcells;simp
theorem tcells_ext (cs:Array Value) (L:List Nat) (h0:cs.size=258) (h1:∀s,s < 257→cs[s]?=some (.int .i64 ((L.count s:Nat):Int))) (h2:cs[257]?=some (.int .i64 ((L.length:Nat):Int))):cs=tcells L:=by
 apply Array.ext_getElem?
 intro i
 rcases Nat.lt_or_ge i 257 with h | h
 · rw [h1 i h,tcells_of L h]
 · rcases Nat.eq_or_lt_of_le h with h | h
   · rw [←h,h2,tcells_all]
   · rw [Array.getElem?_eq_none (by omega),Array.getElem?_eq_none (by rw [tcells_size];omega)]
theorem tcells_add (L:List Nat) (s:Nat) (hs:s < 257):((tcells L).setIfInBounds s (.int .i64 (((L.count s+1:Nat)):Int))).setIfInBounds 257 (.int .i64 ((L.length+1:Nat):Int))=tcells (L++ [s]):=by
 apply tcells_ext
 · simp [tcells_size]
 · intro i hi
   rw [Array.getElem?_setIfInBounds_ne (by omega)]
   by_cases e:s=i
   · subst e
     rw [Array.getElem?_setIfInBounds_self_of_lt (by rw [tcells_size];omega)]
     simp
   · rw [Array.getElem?_setIfInBounds_ne e,tcells_of L hi]
     have: [s].count i=0:=by simp [e]
     rw [List.count_append,this]
     rfl
 · rw [Array.getElem?_setIfInBounds_self_of_lt (by simp [tcells_size])]
   simp
theorem TallyOf_any (gt:Nat) (L:List Nat) (s:Nat) (w:World) (h:Bk w gt 232 (tcells L)) (hs:s < 257):
 Calls Tryz.prog 161 #[.pointer (some ⟨gt,0,none⟩),.int .i64 (s:Int)] w fun e w'=>e=.returned (.int .i64 ((L.count s:Nat):Int))∧Below w.heap.size w w':=by
 have H:=lhd h
 clear h
 go_enter Tryz.func161,Tryz.ntmps161
 go_wp2_with fail
 refine (SymIs_any s _ hs).mono ?_
 rintro e w1 ⟨rfl,hb⟩
 have c0:w1.cell? ⟨gt,s,none⟩=some (.int .i64 ((L.count s:Nat):Int)):=((H.out.below hb H.out.lt).cell s).trans (tcells_of L hs)
 have h0:¬((s:Int) < 0):=by omega
 have h1:((s:Int) < 257):=by omega
 clear H
 go_wp2_with fail
 go_ret
 exact ⟨rfl,hb⟩
theorem countP_step (L:List Nat) (k:Nat):L.countP (fun x=>decide (x < k+1))=L.countP (fun x=>decide (x < k))+L.count k:=by
 induction L with
 | nil=>rfl
 | cons x l ih=>
   rw [List.countP_cons,List.countP_cons,List.count_cons,ih]
   by_cases h1:x < k
   · have h2:x < k+1:=by omega
     have h3:x≠k:=by omega
     simp [h1,h2,h3]
     omega
   · by_cases h2:x=k
     · subst h2
       simp
       omega
     · have h3:¬x < k+1:=by omega
       simp [h1,h2,h3]
theorem TallyBelow_any (gt:Nat) (L:List Nat) (s:Nat) (w:World) (h:Bk w gt 232 (tcells L)) (hs:s < 257) (hl:L.length≤1000):
 Calls Tryz.prog 162 #[.pointer (some ⟨gt,0,none⟩),.int .i64 (s:Int)] w fun e w'=>e=.returned (.int .i64 ((L.countP (fun x=>decide (x < s)):Nat):Int))∧Below w.heap.size w w':=by
 have H:=lhd h
 clear h
 have m1:max (s:Int) 0=(s:Int):=by omega
 have m2:min (s:Int) 257=(s:Int):=by omega
 go_enter Tryz.func162,Tryz.ntmps162
 go_wp2_with fail
 go_loopw [5,10] (fun v i wr=>∃k:Nat,k≤s∧i=.int .i64 k∧v=.int .i64 ((L.countP (fun x=>decide (x < k)):Nat):Int)∧Below w.heap.size w wr) (fun _ i _=>s -(intOf i).toNat)
 case atStart=>exact ⟨0,by omega,rfl,by simp,Below.refl _ _⟩
 case round=>
  obtain ⟨k,hk,rfl,rfl,hb⟩:=hrel
  have hsz:=hb.size
  by_cases hlt:k < s
  · go_wp2_with fail
    refine (TallyOf_any gt L k wr (H.out.below hb H.out.lt) (by omega)).mono ?_
    rintro e w1 ⟨rfl,hb1⟩
    have hb2:=hb.trans (hb1.mono hsz)
    have hst:=countP_step L k
    have hbd:L.countP (fun x=>decide (x < k+1))≤1000:=Nat.le_trans List.countP_le_length hl
    obtain ⟨p,hp⟩:∃p,L.countP (fun x=>decide (x < k))=p:=⟨_,rfl⟩
    obtain ⟨q,hq⟩:∃q,L.count k=q:=⟨_,rfl⟩
    rw [hst] at hbd
    rw [hp,hq] at hst hbd
    rw [hq]
    try rw [hp]
    have HS:=lhd hst
    clear hst hp hq
    go_wp2_with fail
    go_roundw
    case rel=>exact ⟨k+1,by omega,by go_num,by rw [HS.out];exact i64_eq (by omega),hb2⟩
    case measure=>simp [intOf];omega
  · have hks:k=s:=by omega
    subst hks
    go_wp2_with fail
    go_ret
    exact ⟨rfl,hb⟩
theorem TallyAdd_any (gt:Nat) (L:List Nat) (s:Nat) (w:World) (h:Bk w gt 232 (tcells L)) (hs:s < 257) (hl:L.length≤1000):
 Calls Tryz.prog 136 #[.pointer (some ⟨gt,0,none⟩),.int .i64 (s:Int),.int .i64 1] w fun e w'=>e=.returned (.int .i64 0)∧Bk w' gt 232 (tcells (L++ [s]))∧Keep (fun b=>b=gt) w w':=by
 have H:=lhd h
 clear h
 have h0:¬((s:Int) < 0):=by omega
 have h1:((s:Int) < 257):=by omega
 obtain ⟨q,hq⟩:∃q,L.count s=q:=⟨_,rfl⟩
 obtain ⟨n,hn⟩:∃n,L.length=n:=⟨_,rfl⟩
 have hql:q≤1000:=by rw [←hq];exact Nat.le_trans List.count_le_length hl
 rw [hn] at hl
 have hadd:=tcells_add L s hs
 rw [hq,hn] at hadd
 have HA:=lhd hadd
 have HQ:=lhd hq
 have HN:=lhd hn
 clear hadd hq hn
 go_enter Tryz.func136,Tryz.ntmps136
 go_wp2_with fail
 refine (SymIs_any s _ hs).mono ?_
 rintro e w1 ⟨rfl,hb⟩
 have hbk:=H.out.below hb H.out.lt
 have c0:w1.cell? ⟨gt,s,none⟩=some (.int .i64 (q:Int)):=by rw [←HQ.out];exact (hbk.cell s).trans (tcells_of L hs)
 have c1:w1.cell? ⟨gt,257,none⟩=some (.int .i64 (n:Int)):=by rw [←HN.out];exact (hbk.cell 257).trans (tcells_all L)
 have n1:¬((1:Int) < -(q:Int)):=by omega
 have n2:¬((1:Int) > 2147483648 -(n:Int)):=by omega
 have HB:=lhd hb
 have Hbk:=lhd hbk
 clear hb hbk H
 go_wp2_with fail
 refine wp_region_any (by kernel_rfl) ?_
 refine wpAny_keep [33,34,35,36,37,38,39,40,41,42,43] (fun b=>b=gt) 11 [5,11] (fun w2=>Bk w2 gt 232 (tcells L)) (fun _ w2=>Bk w2 gt 232 ((tcells L).setIfInBounds s (.int .i64 ((q+1:Nat):Int)))) [is (.pointer (some ⟨gt,0,none⟩)),is (.int .i64 (s:Int)),is (.pointer (some ⟨gt,0,none⟩)),is (.pointer (some ⟨gt,0,none⟩)),is (.pointer (some ⟨gt,s,none⟩)),is (.int .i64 (q:Int)),is (.int .i64 1),is (.int .i64 ((q+1:Nat):Int)),is (.pointer (some ⟨gt,0,none⟩)),is (.pointer (some ⟨gt,0,none⟩)),is (.pointer (some ⟨gt,s,none⟩)),anyV] _ _ rfl (by kernel_rfl) (by kernel_rfl) (Hbk.out) (fun w2 w3 h _ hg=>Bk.below h hg h.lt) (fun _ _ _ h k=>Bk.below h k h.lt) (by repeat' (first | exact stbk_is _ _ | exact stbk_any _ |(refine List.forall_mem_cons.2 ⟨?_,?_⟩)|(intro p hp;cases hp))) ?_ ?_
 · refine steps_of ?_
   refine steps_cons (step_on3 rfl rfl fun ev _ _ _ _ _ hold _ _ _ _ hK=>?_) ?_
   · have e0:ev (.tmp 0)=.pointer (some ⟨gt,0,none⟩):=hold 0 (by kernel_rfl)
     go_simp
     exact kq hK rfl
   refine steps_cons (step_on3 rfl rfl fun ev _ _ _ _ _ hold _ _ _ _ hK=>?_) ?_
   · have e1:ev (.tmp 1)=.int .i64 (s:Int):=hold 1 (by kernel_rfl)
     go_simp
     exact kq hK rfl
   refine steps_cons (step_on3 rfl rfl fun _ _ _ _ _ _ _ hval _ _ _ hK=>?_) ?_
   · have e33:_=_:=hval 0 33 (by kernel_rfl) rfl
     go_simp
     exact kq hK rfl
   refine steps_cons (step_on3 rfl rfl fun _ _ _ _ _ _ _ hval _ _ _ hK=>?_) ?_
   · have e35:_=_:=hval 2 35 (by kernel_rfl) rfl
     go_simp
     exact kq hK rfl
   refine steps_cons (step_on3 rfl rfl fun _ _ _ _ _ _ _ hval _ _ _ hK=>?_) ?_
   · have e36:_=_:=hval 3 36 (by kernel_rfl) rfl
     have e34:_=_:=hval 1 34 (by kernel_rfl) rfl
     go_simp
     exact kq hK rfl
   refine steps_cons (step_on3 rfl rfl fun _ w5 _ hU _ _ _ hval _ _ _ hK=>?_) ?_
   · have hpre:=hU rfl
     have e37:_=_:=hval 4 37 (by kernel_rfl) rfl
     have c38:w5.cell? ⟨gt,s,none⟩=some (.int .i64 (q:Int)):=by rw [←HQ.out];exact (hpre.cell s).trans (tcells_of L hs)
     go_simp
     exact kq hK rfl
   refine steps_cons (step_on3 rfl rfl fun ev _ _ _ _ _ hold _ _ _ _ hK=>?_) ?_
   · have e2:ev (.tmp 2)=.int .i64 1:=hold 2 (by kernel_rfl)
     go_simp
     exact kq hK rfl
   refine steps_cons (step_on3 rfl rfl fun _ _ _ _ _ _ _ hval _ _ _ hK=>?_) ?_
   · have e38:_=_:=hval 5 38 (by kernel_rfl) rfl
     have e39:_=_:=hval 6 39 (by kernel_rfl) rfl
     go_simp
     exact hK _ _ (kstep_grow (Below.refl _ _)) (i64_eq (by rw [IntKind.wrap_i64];omega))
   refine steps_cons (step_on3 rfl rfl fun _ _ _ _ _ _ _ hval _ _ _ hK=>?_) ?_
   · have e33:_=_:=hval 0 33 (by kernel_rfl) rfl
     go_simp
     exact kq hK rfl
   refine steps_cons (step_on3 rfl rfl fun _ _ _ _ _ _ _ hval _ _ _ hK=>?_) ?_
   · have e41:_=_:=hval 8 41 (by kernel_rfl) rfl
     go_simp
     exact kq hK rfl
   refine steps_cons (step_on3 rfl rfl fun _ _ _ _ _ _ _ hval _ _ _ hK=>?_) ?_
   · have e42:_=_:=hval 9 42 (by kernel_rfl) rfl
     have e34:_=_:=hval 1 34 (by kernel_rfl) rfl
     go_simp
     exact kq hK rfl
   refine steps_cons (step_on3 rfl rfl fun _ w5 _ hU _ _ _ hval _ _ _ hK=>?_) ?_
   · have hpre:=hU rfl
     have e43:_=_:=hval 10 43 (by kernel_rfl) rfl
     have e40:_=_:=hval 7 40 (by kernel_rfl) rfl
     have c43:w5.cell? ⟨gt,s,none⟩=some (.int .i64 (q:Int)):=by rw [←HQ.out];exact (hpre.cell s).trans (tcells_of L hs)
     have f43:=hpre.frozen s
     go_simp
     exact hK (.bool true) _ (kstep_keep (Keep.setCell (F:=fun b=>b=gt) (Keep.refl _ _) (p:=⟨gt,s,none⟩) (.inl rfl) _)) (hpre.set s _)
   exact steps_nil
 · intro ev w6 hS hval hall
   replace hS:Keep (fun b=>b=gt) w1 w6:=⟨hS.os,hS.tape,hS.output,hS.size,hS.block⟩
   obtain ⟨vJ,pJ⟩:∃vJ0,(fun _ w2=>Bk w2 gt 232 ((tcells L).setIfInBounds s (.int .i64 ((q+1:Nat):Int)))) vJ0 w6:=hall 11 (by decide)
   simp only [putsOf,List.foldl_cons,List.foldl_nil,Act.put,List.setIfInBounds_toArray,List.set_cons_zero,List.set_cons_succ]
   clear hval hall
   have c257:w6.cell? ⟨gt,257,none⟩=some (.int .i64 (n:Int)):=by
    refine (pJ.cell 257).trans ?_
    rw [Array.getElem?_setIfInBounds_ne (by omega),←HN.out]
    exact tcells_all L
   have f257:=pJ.frozen 257
   have PJ:=lhd pJ
   have HS:=lhd hS
   have hglt:=pJ.lt
   clear pJ hS
   go_wp2_with fail
   go_ret
   refine ⟨rfl,?_,?_⟩
   · rw [←HA.out]
     exact PJ.out.set 257 _
   · exact ((Keep.of_below HB.out).trans HS.out).setCell (.inl rfl) _
theorem tcells_nil:tcells []=Tryz.zeroCells232:=by kernel_rfl
theorem TallyNew_any (A:Option Addr) (m c B:Nat) (L:List Nat) (w:World) (hr:Rd w B 1 A m (L.map sv)) (hB:B≤w.heap.size) (hm:m≤1000) (hL:∀s∈L,s < 257):
 Calls Tryz.prog 160 #[.slice A m c] w fun e w'=>∃gt,e=.returned (.tuple #[.pointer (some ⟨gt,0,none⟩),.int .i64 0])∧w.heap.size≤gt∧Bk w' gt 232 (tcells L)∧Below w.heap.size w w':=by
 have hll:L.length=m:=by simpa using hr.1
 have Hr:=lhd hr
 have HL:=lhd hL
 have Hll:=lhd hll
 have HB:=lhd hB
 clear hr hL hll
 go_enter Tryz.func160,Tryz.ntmps160
 go_wp2_with fail
 obtain ⟨gt,hgt⟩:∃gt,w.heap.size=gt:=⟨_,rfl⟩
 have hbk0:Bk (w.alloc (.cells Tryz.zeroCells232 232)) gt 232 (tcells (L.take 0)):=by
  rw [List.take_zero,tcells_nil,←hgt]
  exact Bk.new _ _ _
 have hb0:=(Below.refl w.heap.size w).alloc (Nat.le_refl _) (.cells Tryz.zeroCells232 232)
 try rw [hgt]
 go_loopw [12] (fun i wr=>∃k:Nat,k≤m∧i=.int .i64 k∧Bk wr gt 232 (tcells (L.take k))∧Below w.heap.size w wr) (fun i _=>m -(intOf i).toNat)
 case atStart=>exact ⟨0,by omega,rfl,hbk0,hb0⟩
 case round=>
  obtain ⟨k,hk,rfl,hbk,hb⟩:=hrel
  have hsz:=hb.size
  by_cases hlt:k < m
  · have hkl:k < L.length:=by rw [Hll.out];exact hlt
    obtain ⟨s,hs⟩:∃s,L[k]?=some s:=⟨L[k],List.getElem?_eq_getElem hkl⟩
    obtain ⟨b,off,u,rfl,hbl,hu,hc⟩:=((Hr.out.mono HB.out).below hb).get hlt
    rw [List.getElem?_map,hs] at hu
    simp at hu
    subst hu
    have hs257:s < 257:=HL.out s (List.mem_of_getElem? hs)
    have htk:L.take (k+1)=L.take k++ [s]:=by rw [List.take_add_one,hs];rfl
    have htl:(L.take k).length≤1000:=by rw [List.length_take];omega
    unfold sv at hc
    have HTK:=lhd htk
    have Hbk:=lhd hbk
    clear htk hbk hs
    go_wp2_with fail
    refine (TallyAdd_any gt (L.take k) s _ Hbk.out hs257 htl).mono ?_
    rintro e w1 ⟨rfl,hb1,hk1⟩
    have hb2:Below w.heap.size w w1:=hb.trans (hk1.to_below hsz (fun b hb e=>by omega))
    rw [←HTK.out] at hb1
    have Hb1:=lhd hb1
    clear hb1 hk1
    go_wp2_with fail
    go_roundw
    case rel=>exact ⟨k+1,by omega,by go_num,Hb1.out,hb2⟩
    case measure=>simp [intOf];omega
  · have hkm:k=m:=by omega
    subst hkm
    rw [List.take_of_length_le (by rw [Hll.out];omega)] at hbk
    have Hbk:=lhd hbk
    clear hbk
    go_wp2_with fail
    go_ret2
    exact ⟨gt,rfl,by omega,Hbk.out,hb⟩
theorem int_info:(Tryz.prog.info? 3).map (fun i=>(i.zero,i.size,i.bytes))=some (some (.int .i64 0),1,8):=by kernel_rfl
theorem oneCell_sv (l:List Nat):∀u∈l.map sv,u.oneCell'=true:=by
 intro u hu
 obtain ⟨x,_,rfl⟩:=List.mem_map.1 hu
 rfl
def symB (t:List UInt8):List Nat:=t.map (fun c=>c.toNat+1)
def symL (t:List UInt8):List Nat:=symB t++ [0]
theorem symL_len (t:List UInt8):(symL t).length=t.length+1:=by simp [symL,symB]
theorem symL_lt (t:List UInt8):∀s∈symL t,s < 257:=by
 intro s hs
 unfold symL symB at hs
 rcases List.mem_append.1 hs with h | h
 · obtain ⟨c,_,rfl⟩:=List.mem_map.1 h
   have:=c.toNat_lt
   omega
 · simp at h
   omega
theorem SymOf_any (c:UInt8) (w:World):
 Calls Tryz.prog 55 #[.int .u8 (c.toNat:Int)] w fun e w'=>e=.returned (.int .i64 ((c.toNat+1:Nat):Int))∧Below w.heap.size w w':=by
 have hc:=c.toNat_lt
 have h64:IntKind.i64.wrap (c.toNat:Int)=(c.toNat:Int):=by rw [IntKind.wrap_i64];omega
 go_enter Tryz.func55,Tryz.ntmps55
 go_wp2
 go_ret
 exact ⟨ret_i64 (by omega),Below.refl _ _⟩
theorem SymAll_any (gs g0:Nat) (A:Option Addr) (m c B:Nat) (t:List UInt8) (w:World) (hs:Bk w gs 23 #[.slice A m c]) (hr:Rd w B 1 A m (t.map bv)) (hB:B≤w.heap.size) (hm:m≤1000):
 Calls Tryz.prog 115 #[.slice (some ⟨gs,0,none⟩) 1 1] w fun e w'=>∃A' c',e=.returned (.slice A' (m+1) c')∧Made w' w.heap.size 3 1 A' (m+1) c' ((symL t).map sv)∧Below w.heap.size w w':=by
 obtain ⟨i0,hi0,hz0,hz1,hz2⟩:=info_parts int_info
 have htl:t.length=m:=by simpa using hr.1
 have c0:w.cell? ⟨gs,0,none⟩=some (.slice A m c):=(hs.cell 0).trans rfl
 have hgs:=hs.lt
 have Hr:=lhd (hr.mono hB)
 have Htl:=lhd htl
 clear hs hr htl
 go_enter Tryz.func115,Tryz.ntmps115
 go_wp2_with fail
 go_loopw [3,10] (fun v i wr=>∃k:Nat,k≤1∧i=.int .i64 k∧wr.ownsRow w.heap.size 3 1 v (if k=0 then 0 else m) ((if k=0 then [] else symB t).map sv)∧Below w.heap.size w wr) (fun _ i _=>1 -(intOf i).toNat)
 case atStart=>exact ⟨0,by omega,rfl,World.ownsRow_nil _ _ _ _,Below.refl _ _⟩
 case round=>
  obtain ⟨k,hk,rfl,hown,hb⟩:=hrel
  have hsz:=hb.size
  rcases k with _ | k
  · have d0:wr.cell? ⟨gs,0,none⟩=some (.slice A m c):=(hb.cell hgs).trans c0
    have Hown:=lhd hown
    have Hb:=lhd hb
    clear hown hb
    go_wp2_with fail
    obtain ⟨W,hW⟩:∃W,W=wr:=⟨_,rfl⟩
    subst hW
    go_loopw [3,16] (fun v i wr2=>∃k:Nat,k≤m∧i=.int .i64 k∧wr2.ownsRow w.heap.size 3 1 v k ((symB (t.take k)).map sv)∧Below w.heap.size w wr2) (fun _ i _=>m -(intOf i).toNat)
    case atStart=>exact ⟨0,by omega,rfl,Hown.out,Hb.out⟩
    case round=>
        obtain ⟨k,hk,rfl,hown,hb⟩:=hrel
        have hsz:=hb.size
        by_cases hlt:k < m
        · have hkl:k < t.length:=by rw [Htl.out];exact hlt
          obtain ⟨x,hx⟩:∃x,t[k]?=some x:=⟨t[k],List.getElem?_eq_getElem hkl⟩
          obtain ⟨b,off,u,rfl,hbl,hu,hc⟩:=(Hr.out.below hb).get hlt
          rw [List.getElem?_map,hx] at hu
          simp at hu
          subst hu
          have htk:t.take (k+1)=t.take k++ [x]:=by rw [List.take_add_one,hx];rfl
          unfold bv at hc
          have HTK:=lhd htk
          have Hown2:=lhd hown
          clear htk hx hown
          go_wp2_with fail
          refine (SymOf_any x _).mono ?_
          rintro e w1 ⟨rfl,hb1⟩
          have hown1:=own_below Hown2.out hb1
          have hb2:=hb.trans (hb1.mono hsz)
          have hsz2:=hb2.size
          have Hown3:=lhd hown1
          clear hown1
          go_wp2_with (at_builtin;refine wpList_push _ rfl (.tmp 20) (.tmp 23) _ rfl w.heap.size 3 i0 (.int .i64 0) 1 8 Tryz.underlying22 hi0 hz0 hz1 hz2 rfl (by decide) _ k _ rfl Hown3.out rfl rfl (by simp [Value.oneCell']) (by unfold maxLen;omega) (by omega) hsz2 ?_;intro v2 w2 hown2 hg2 hs2 hat2)
          have hb3:=below_grown hb2 Hown3.out hg2 hsz2
          clear hg2 hat2
          go_roundw
          case rel=>
           refine ⟨k+1,by omega,by go_num,?_,hb3⟩
           rw [HTK.out,symB,List.map_append,List.map_append]
           exact hown2
          case measure=>simp [intOf];omega
        · have hkm:k=m:=by omega
          subst hkm
          rw [List.take_of_length_le (by rw [Htl.out];omega)] at hown
          have Hown2:=lhd hown
          clear hown
          go_wp2_with fail
          go_roundw
          case rel=>exact ⟨1,by omega,by go_num,Hown2.out,hb⟩
          case measure=>simp [intOf]
  · have hk0:k=0:=by omega
    subst hk0
    rw [if_neg (by omega),if_neg (by omega)] at hown
    have Hown:=lhd hown
    have hlS:(symL t).map sv=(symB t).map sv++ [.int .i64 0]:=by simp [symL,sv]
    have HlS:=lhd hlS
    clear hown hlS
    go_wp2_with (at_builtin;refine wpList_push _ rfl (.tmp 27) (.tmp 28) _ rfl w.heap.size 3 i0 (.int .i64 0) 1 8 Tryz.underlying22 hi0 hz0 hz1 hz2 rfl (by decide) _ m _ rfl Hown.out rfl rfl (by simp [Value.oneCell']) (by unfold maxLen;omega) (by omega) hsz ?_;intro v2 w2 hown2 hg2 hs2 hat2)
    have hb3:=below_grown hb Hown.out hg2 hsz
    obtain ⟨A',c',rfl,hm'⟩:=made_of_own hown2
    go_ret
    exact ⟨A',c',rfl,by rw [HlS.out];exact hm',hb3⟩
theorem CloneInts_any (A:Option Addr) (n c B:Nat) (l:List Nat) (w:World) (hr:Rd w B 1 A n (l.map sv)) (hB:B≤w.heap.size) (hn:n≤1073741824):
 Calls Tryz.prog 116 #[.slice A n c] w fun e w'=>∃A' c',e=.returned (.slice A' n c')∧Made w' w.heap.size 3 1 A' n c' (l.map sv)∧Below w.heap.size w w':=by
 obtain ⟨i0,hi0,hz0,hz1,hz2⟩:=info_parts int_info
 have q22:∀(w:World) (a:Option Addr) (n c:Nat),(binOp .eql 22 (.slice a n c) (.slice none 0 0)).run Tryz.prog w=.ok (.bool a.isNone) w:=fun w a n c=>Lib.run_eql_slice_nil w _ _ a n c _ _ Tryz.underlying22
 rcases A with _ | a
 · have hn0:n=0:=by
    rcases Nat.eq_zero_or_pos n with h | h
    · exact h
    · obtain ⟨_,_,h,_⟩:=hr.2 h
      cases h
   subst hn0
   have hl:l= []:=by
    have:=hr.1
    simp only [List.length_map,Nat.zero_mul] at this
    exact List.eq_nil_of_length_eq_zero this
   subst hl
   go_enter Tryz.func116,Tryz.ntmps116
   go_wp2
   go_ret
   exact ⟨none,0,rfl,⟨World.ownsRow_nil _ _ _ _,Rd.nil _ _ _ _,Nat.le_refl _,Nat.zero_le _⟩,Below.refl _ _⟩
 · have Hr:=lhd hr
   clear hr
   go_enter Tryz.func116,Tryz.ntmps116
   go_wp2_with (at_builtin;refine wpList_append_rd _ rfl (.tmp 5) (.tmp 6) _ rfl w.heap.size 3 i0 (.int .i64 0) 1 8 Tryz.underlying22 hi0 hz0 hz1 hz2 rfl (by decide) (.slice (some ⟨w.heap.size,0,none⟩) 0 0) 0 [] rfl (own_empty w 3 1) w.heap.size (some a) n c _ rfl ((Hr.out.mono hB).alloc (Nat.le_refl _) _) (oneCell_sv _) (by unfold maxLen;omega) (by omega) (by simp) ?_;intro v5 w5 hown5 hg5 hat5)
   have hB5:=below_grown ((Below.refl w.heap.size w).alloc (Nat.le_refl _) _) (own_empty w 3 1) hg5 (by simp)
   rw [Nat.zero_add,List.nil_append] at hown5
   obtain ⟨A',c',rfl,hm⟩:=made_of_own hown5
   go_wp2
   go_ret
   exact ⟨A',c',rfl,hm,hB5⟩
def blkW (gb:Nat) (cs:Array Value):Value→World→Prop:=fun _ w=>Bk w gb 254 cs
theorem blkW_stb (gb:Nat) (cs:Array Value):Stb (blkW gb cs):=fun _ _ _ h hg=>Bk.below h hg (Bk.lt h)
def blk3 (n:Int) (u0 u1:Nat):Array Value:=#[.int .i64 n,.int .u64 (u0:Int),.int .u64 (u1:Int)]
theorem blk3_get (n:Int) (u0 u1 i:Nat) (hi:i < 2):(blk3 n u0 u1)[1+i]?=some (.int .u64 (((if i=0 then u0 else u1):Nat):Int)):=by
 obtain rfl | rfl:i=0∨i=1:=by omega
 · rfl
 · rfl
theorem blk3_set (n:Int) (u0 u1 y i:Nat) (hi:i < 2):(blk3 n u0 u1).setIfInBounds (1+i) (.int .u64 (y:Int))=blk3 n (if i=0 then y else u0) (if i=0 then u1 else y):=by
 obtain rfl | rfl:i=0∨i=1:=by omega
 · rfl
 · rfl
theorem blk3_lift {w:World} {gb:Nat} {n:Int} {u0 u1:Nat} (h:Bk w gb 254 (blk3 n u0 u1)) (m:Int):Bk (w.setCell ⟨gb,0,none⟩ (.int .i64 m)) gb 254 (blk3 m u0 u1):=h.set 0 _
structure InsI (l l':List Bool) (k:Nat) (b:Bool) (i a:Nat) (bb:Bool) (u0 u1:Nat):Prop where
 at0:i=0→k < 64∧a=k∧bb=b∧u0=w0 l∧u1=w1 l
 at1:i=1→a < 64∧u0=w0 l'∧putN u1 a bb=w1 l'∧u1 < 18446744073709551616
 at2:i=2→u0=w0 l'∧u1=w1 l'
 le:i≤2
theorem BlockInsert_any (gb:Nat) (l:List Bool) (k:Nat) (b:Bool) (w:World) (hb:Bk w gb 254 (blkC l)) (hl:l.length≤127) (hk:k≤l.length):
 Calls Tryz.prog 271 #[.pointer (some ⟨gb,0,none⟩),.int .i64 (k:Int),.bool b] w fun e w'=>e=.returned (.int .i64 0)∧Bk w' gb 254 (blkC (insN l k b))∧Keep (fun b=>b=gb) w w':=by
 obtain ⟨n,hn⟩:∃n,l.length=n:=⟨_,rfl⟩
 have hl':(insN l k b).length=n+1:=by rw [insN_len _ _ hk,hn]
 have hb3:Bk w gb 254 (blk3 (n:Int) (w0 l) (w1 l)):=by rw [←hn];exact hb
 have hfin:∀W,Bk W gb 254 (blk3 ((n+1:Nat):Int) (w0 (insN l k b)) (w1 (insN l k b)))→Bk W gb 254 (blkC (insN l k b)):=fun W h=>by
  unfold blkC
  rw [hl']
  exact h
 have h0l:=w0_lt l
 have h1l:=w1_lt l (by omega)
 have hstart:∃i0 a0:Nat,(k:Int)/ 64=(i0:Int)∧(k:Int)% 64=(a0:Int)∧InsI l (insN l k b) k b i0 a0 b (w0 l) (w1 l):=by
  by_cases c:k < 64
  · exact ⟨0,k,by omega,by omega,fun _=>⟨c,rfl,rfl,rfl,rfl⟩,fun e=>by omega,fun e=>by omega,by omega⟩
  · obtain ⟨e0,e1⟩:=put_hi l k b hk (by omega) (by omega)
    exact ⟨1,k - 64,by omega,by omega,fun e=>by omega,fun _=>⟨by omega,e0.symm,e1.symm,h1l⟩,fun e=>by omega,by omega⟩
 have hstep:∀i a bb u0 u1,i < 2→InsI l (insN l k b) k b i a bb u0 u1→a < 64∧(if i=0 then u0 else u1) < 18446744073709551616∧InsI l (insN l k b) k b (i+1) 0 ((if i=0 then u0 else u1).testBit 63) (if i=0 then putN u0 a bb else u0) (if i=0 then u1 else putN u1 a bb):=by
  intro i a bb u0 u1 hi h
  obtain rfl | rfl:i=0∨i=1:=by omega
  · obtain ⟨c1,rfl,rfl,rfl,rfl⟩:=h.at0 rfl
    obtain ⟨e0,e1⟩:=put_lo l a bb hk (by omega) c1
    have hb63:(w0 l).testBit 63=l.getD 63 false:=by rw [e0_bit];simp
    simp only [if_true,hb63]
    exact ⟨c1,h0l,fun e=>by omega,fun _=>⟨by omega,e0.symm,e1.symm,h1l⟩,fun e=>by omega,by omega⟩
  · obtain ⟨c1,c2,c3,c4⟩:=h.at1 rfl
    simp only [show ¬((1:Nat)=0) by omega,if_false]
    exact ⟨c1,c4,fun e=>by omega,fun e=>by omega,fun _=>⟨c2,c3⟩,by omega⟩
 obtain ⟨i0,a0,hi0,ha0,hI0⟩:=hstart
 have hkn:¬((k:Int) > (n:Int)):=by omega
 have hk0:decide ((k:Int) < 0)=false:=by simp
 have hn0:((n:Int)==128)=false:=by rw [beq_eq_false_iff_ne];omega
 have c0:w.cell? ⟨gb,0,none⟩=some (.int .i64 (n:Int)):=(hb3.cell 0).trans rfl
 have hgb:=hb3.lt
 have hn127:n≤127:=by omega
 have Hb3:=lhd hb3
 have Hfin:=lhd hfin
 have Hstep:=lhd hstep
 have HI0:=lhd hI0
 clear hb hb3 hfin h0l h1l hstep hI0 hl' hn hl hk
 go_enter Tryz.func271,Tryz.ntmps271
 go_wp2_with fail
 clear c0 hk0 hkn
 go_loopw [2,7,8] (fun x y z wr=>∃(i a:Nat) (bb:Bool) (u0 u1:Nat),x=.bool bb∧y=.int .i64 (a:Int)∧z=.int .i64 (i:Int)∧InsI l (insN l k b) k b i a bb u0 u1∧Bk wr gb 254 (blk3 (n:Int) u0 u1)∧Keep (fun b=>b=gb) w wr) (fun _ _ z _=>2 -(intOf z).toNat)
 case atStart=>exact ⟨i0,a0,b,_,_,rfl,rfl,rfl,HI0.out,Hb3.out,Keep.refl _ _⟩
 case round=>
  obtain ⟨i,pa,bb,u0,u1,rfl,rfl,rfl,hI,hbk,hkp⟩:=hrel
  by_cases hi2:i < 2
  · obtain ⟨hp64,hx64,hI'⟩:=Hstep.out i pa bb u0 u1 hi2 hI
    have hci:=blk3_get (n:Int) u0 u1 i hi2
    have hset:=fun y=>blk3_set (n:Int) u0 u1 y i hi2
    obtain ⟨x,hx⟩:∃x,(if i=0 then u0 else u1)=x:=⟨_,rfl⟩
    obtain ⟨y,hy⟩:∃y,putN x pa bb=y:=⟨_,rfl⟩
    obtain ⟨cs,hcs⟩:∃cs,blk3 (n:Int) u0 u1=cs:=⟨_,rfl⟩
    have hI2:InsI l (insN l k b) k b (i+1) 0 (x.testBit 63) (if i=0 then y else u0) (if i=0 then u1 else y):=by
        have h1:(if i=0 then putN u0 pa bb else u0)=if i=0 then y else u0:=by
         split
         · rw [←hy,←hx,if_pos (by assumption)]
         · rfl
        have h2:(if i=0 then u1 else putN u1 pa bb)=if i=0 then u1 else y:=by
         split
         · rfl
         · rw [←hy,←hx,if_neg (by assumption)]
        rw [hx,h1,h2] at hI'
        exact hI'
    rw [hx] at hci hx64
    rw [hcs] at hci hset hbk
    have hiI:(i:Int) < 2:=by omega
    have Hci:=lhd hci
    have Hset:=lhd hset
    have Hcs:=lhd hbk
    have Hy:=lhd hy
    have HI2:=lhd hI2
    have Hkp:=lhd hkp
    clear hI hI' hbk hkp hci hset hx hy hcs hI2
    go_wp2_with fail
    refine wp_region_any (by kernel_rfl) ?_
    refine wpAny_keep [38,39,40,41,42,43,44,45,46,47,48,37,49,50,51,52,53,2] (fun b=>b=gb) 17 [7,17] (fun w1=>Bk w1 gb 254 cs) (blkW gb (cs.setIfInBounds (1+i) (.int .u64 (y:Int)))) [is (.pointer (some ⟨gb,0,none⟩)),is (.int .i64 (i:Int)),is (.pointer (some ⟨gb,0,none⟩)),is (.int .i64 (i:Int)),is (.pointer (some ⟨gb,0,none⟩)),is (.pointer (some ⟨gb,1,none⟩)),is (.pointer (some ⟨gb,1+i,none⟩)),is (.int .u64 (x:Int)),is (.int .i64 (pa:Int)),is (.bool bb),is (.tuple #[.int .u64 (y:Int),.bool (x.testBit 63)]),is (.tuple #[.int .u64 (y:Int),.bool (x.testBit 63)]),is (.int .u64 (y:Int)),is (.bool (x.testBit 63)),is (.pointer (some ⟨gb,0,none⟩)),is (.pointer (some ⟨gb,1,none⟩)),is (.pointer (some ⟨gb,1+i,none⟩)),anyV,is (.bool (x.testBit 63))] _ _ rfl (by kernel_rfl) (by kernel_rfl) (Hcs.out) (fun w1 w2 h _ hg=>Bk.below h hg h.lt) (blkW_stb _ _) (by repeat' (first | exact stbk_is _ _ | exact stbk_any _ |(refine List.forall_mem_cons.2 ⟨?_,?_⟩)|(intro p hp;cases hp))) ?_ ?_
    · refine steps_of ?_
      refine steps_cons (step_on3 rfl rfl fun ev _ _ _ _ _ hold _ _ _ _ hK=>?_) ?_
      · have e0:ev (.tmp 0)=.pointer (some ⟨gb,0,none⟩):=hold 0 (by kernel_rfl)
        go_simp
        exact kq hK rfl
      refine steps_cons (step_on3 rfl rfl fun ev _ _ _ _ _ hold _ _ _ _ hK=>?_) ?_
      · have e8:ev (.tmp 8)=.int .i64 (i:Int):=hold 8 (by kernel_rfl)
        go_simp
        exact kq hK rfl
      refine steps_cons (step_on3 rfl rfl fun ev _ _ _ _ _ hold _ _ _ _ hK=>?_) ?_
      · have e0:ev (.tmp 0)=.pointer (some ⟨gb,0,none⟩):=hold 0 (by kernel_rfl)
        go_simp
        exact kq hK rfl
      refine steps_cons (step_on3 rfl rfl fun ev _ _ _ _ _ hold _ _ _ _ hK=>?_) ?_
      · have e8:ev (.tmp 8)=.int .i64 (i:Int):=hold 8 (by kernel_rfl)
        go_simp
        exact kq hK rfl
      refine steps_cons (step_on3 rfl rfl fun _ _ _ _ _ _ _ hval _ _ _ hK=>?_) ?_
      · have e40:_=_:=hval 2 40 (by kernel_rfl) rfl
        go_simp
        exact kq hK rfl
      refine steps_cons (step_on3 rfl rfl fun _ _ _ _ _ _ _ hval _ _ _ hK=>?_) ?_
      · have e42:_=_:=hval 4 42 (by kernel_rfl) rfl
        go_simp
        exact kq hK rfl
      refine steps_cons (step_on3 rfl rfl fun _ _ _ _ _ _ _ hval _ _ _ hK=>?_) ?_
      · have e43:_=_:=hval 5 43 (by kernel_rfl) rfl
        have e41:_=_:=hval 3 41 (by kernel_rfl) rfl
        go_simp
        exact kq hK rfl
      refine steps_cons (step_on3 rfl rfl fun _ w5 _ hU _ _ _ hval _ _ _ hK=>?_) ?_
      · have hpre:=hU rfl
        have e44:_=_:=hval 6 44 (by kernel_rfl) rfl
        have c0:w5.cell? ⟨gb,1+i,none⟩=some (.int .u64 (x:Int)):=(hpre.cell (1+i)).trans Hci.out
        go_simp
        exact kq hK rfl
      refine steps_cons (step_on3 rfl rfl fun ev _ _ _ _ _ hold _ _ _ _ hK=>?_) ?_
      · have e7:ev (.tmp 7)=.int .i64 (pa:Int):=hold 7 (by kernel_rfl)
        go_simp
        exact kq hK rfl
      refine steps_cons (step_on3 rfl rfl fun ev _ _ _ _ _ hold _ _ _ _ hK=>?_) ?_
      · have e2:ev (.tmp 2)=.bool bb:=hold 2 (by kernel_rfl)
        go_simp
        exact kq hK rfl
      refine steps_cons (step_on3 rfl rfl fun _ w5 _ _ _ _ _ hval _ _ _ hK=>?_) ?_
      · have e45:_=_:=hval 7 45 (by kernel_rfl) rfl
        have e46:_=_:=hval 8 46 (by kernel_rfl) rfl
        have e47:_=_:=hval 9 47 (by kernel_rfl) rfl
        go_simp
        refine (BPut_any x pa bb hx64 hp64 w5).mono ?_
        rintro e w8 ⟨rfl,rfl⟩
        rw [Hy.out]
        exact kq hK rfl
      refine steps_cons (step_on3 rfl rfl fun _ _ _ _ _ _ _ hval _ _ _ hK=>?_) ?_
      · have e48:_=_:=hval 10 48 (by kernel_rfl) rfl
        go_simp
        exact kq hK rfl
      refine steps_cons (step_on3 rfl rfl fun _ _ _ _ _ _ _ hval _ _ _ hK=>?_) ?_
      · have e37:_=_:=hval 11 37 (by kernel_rfl) rfl
        go_simp
        exact kq hK rfl
      refine steps_cons (step_on3 rfl rfl fun _ _ _ _ _ _ _ hval _ _ _ hK=>?_) ?_
      · have e37:_=_:=hval 11 37 (by kernel_rfl) rfl
        go_simp
        exact kq hK rfl
      refine steps_cons (step_on3 rfl rfl fun _ _ _ _ _ _ _ hval _ _ _ hK=>?_) ?_
      · have e38:_=_:=hval 0 38 (by kernel_rfl) rfl
        go_simp
        exact kq hK rfl
      refine steps_cons (step_on3 rfl rfl fun _ _ _ _ _ _ _ hval _ _ _ hK=>?_) ?_
      · have e51:_=_:=hval 14 51 (by kernel_rfl) rfl
        go_simp
        exact kq hK rfl
      refine steps_cons (step_on3 rfl rfl fun _ _ _ _ _ _ _ hval _ _ _ hK=>?_) ?_
      · have e52:_=_:=hval 15 52 (by kernel_rfl) rfl
        have e39:_=_:=hval 1 39 (by kernel_rfl) rfl
        go_simp
        exact kq hK rfl
      refine steps_cons (step_on3 rfl rfl fun _ w5 _ hU _ _ _ hval _ _ _ hK=>?_) ?_
      · have hpre:=hU rfl
        have e53:_=_:=hval 16 53 (by kernel_rfl) rfl
        have e49:_=_:=hval 12 49 (by kernel_rfl) rfl
        have c0:w5.cell? ⟨gb,1+i,none⟩=some (.int .u64 (x:Int)):=(hpre.cell (1+i)).trans Hci.out
        have f0:=hpre.frozen (1+i)
        go_simp
        exact hK (.bool true) _ (kstep_keep (Keep.setCell (F:=fun b=>b=gb) (Keep.refl _ _) (p:=⟨gb,1+i,none⟩) (.inl rfl) _)) (hpre.set (1+i) _)
      refine steps_cons (step_on3 rfl rfl fun _ _ _ _ _ _ _ hval _ _ _ hK=>?_) ?_
      · have e50:_=_:=hval 13 50 (by kernel_rfl) rfl
        go_simp
        exact kq hK rfl
      exact steps_nil
    · intro ev w6 hS hval hall
      replace hS:Keep (fun b=>b=gb) wr w6:=⟨hS.os,hS.tape,hS.output,hS.size,hS.block⟩
      have e2:ev (.tmp 2)=.bool (x.testBit 63):=hval 18 2 rfl
      obtain ⟨vJ,pJ⟩:∃vJ0,(blkW gb (cs.setIfInBounds (1+i) (.int .u64 (y:Int)))) vJ0 w6:=hall 17 (by decide)
      simp only [putsOf,List.foldl_cons,List.foldl_nil,Act.put,List.setIfInBounds_toArray,List.set_cons_zero,List.set_cons_succ]
      rw [e2]
      clear hval hall
      have hbk2:Bk w6 gb 254 _:=pJ
      rw [Hset.out] at hbk2
      have hkp2:=Hkp.out.trans hS
      have Hbk2:=lhd hbk2
      have Hkp2:=lhd hkp2
      clear hbk2 hkp2 pJ hS
      go_wp2_with fail
      go_roundw
      case rel=>exact ⟨i+1,0,_,_,_,rfl,rfl,by go_num,HI2.out,Hbk2.out,Hkp2.out⟩
      case measure=>simp [intOf];omega
  · obtain rfl:i=2:=by have:=hI.le;omega
    obtain ⟨rfl,rfl⟩:=hI.at2 rfl
    have c0:wr.cell? ⟨gb,0,none⟩=some (.int .i64 (n:Int)):=(hbk.cell 0).trans rfl
    have f0:=hbk.frozen 0
    have hgw:=hbk.lt
    have Hbk:=lhd hbk
    have Hkp:=lhd hkp
    clear hbk hkp hI
    have e1:IntKind.i64.wrap ((n:Int)+1)=((n+1:Nat):Int):=by rw [IntKind.wrap_i64];omega
    go_wp2_with fail
    go_ret
    exact ⟨rfl,Hfin.out _ (blk3_lift Hbk.out _),Keep.setCell (F:=fun b=>b=gb) Hkp.out (p:=⟨gb,0,none⟩) (.inl rfl) _⟩
theorem BlockDelete_any (gb:Nat) (l:List Bool) (k:Nat) (w:World) (hb:Bk w gb 254 (blkC l)) (hl:l.length≤128) (hk:k < l.length):
 Calls Tryz.prog 277 #[.pointer (some ⟨gb,0,none⟩),.int .i64 (k:Int)] w fun e w'=>e=.returned (.tuple #[.bool (l.getD k false),.int .i64 0])∧Bk w' gb 254 (blkC (delN l k))∧Keep (fun b=>b=gb) w w':=by
 have hhas:=BlockHas_any gb l k w hb hk
 obtain ⟨n,hn⟩:∃n,l.length=n:=⟨_,rfl⟩
 have hl':(delN l k).length+1=n:=by rw [delN_len _ hk,hn]
 have hb3:Bk w gb 254 (blk3 (n:Int) (w0 l) (w1 l)):=by rw [←hn];exact hb
 have hfin:∀W,Bk W gb 254 (blk3 ((n:Int) - 1) (w0 (delN l k)) (w1 (delN l k)))→Bk W gb 254 (blkC (delN l k)):=fun W h=>by
  unfold blkC
  rw [show (((delN l k).length:Nat):Int)=(n:Int) - 1 by omega]
  exact h
 have h0l:=w0_lt l
 have h1l:=w1_lt l hl
 obtain ⟨i0,a0,hi0,ha0,hi2,ha64,hke⟩:∃i0 a0:Nat,(k:Int)/ 64=(i0:Int)∧(k:Int)% 64=(a0:Int)∧i0 < 2∧a0 < 64∧k=64*i0+a0:=⟨k / 64,k % 64,by omega,by omega,by omega,by omega,by omega⟩
 have hlo:i0=0→w0 (delN l k)=cutN (w0 l) a0 ((w1 l).testBit 0)∧w1 (delN l k)=cutN (w1 l) 0 false∧(w0 l).testBit a0=l.getD k false:=fun e=>by
  have e2:k=a0:=by omega
  have h1:=cut_lo l k hk hl (by omega)
  rw [e1_bit,Nat.add_zero,←e2]
  refine ⟨h1.1,h1.2,?_⟩
  rw [e0_bit,decide_eq_true (by omega),Bool.true_and]
 have hhi:i0=1→w0 (delN l k)=w0 l∧w1 (delN l k)=cutN (w1 l) a0 false∧(w1 l).testBit a0=l.getD k false:=fun e=>by
  have e2:k - 64=a0:=by omega
  have h1:=cut_hi l k hk hl (by omega)
  rw [e2] at h1
  refine ⟨h1.1,h1.2,?_⟩
  rw [e1_bit]
  congr 1
  omega
 have hgb:=hb3.lt
 have hn128:n≤128:=by omega
 have hc1:0 < cutN 0 0 true:=by decide
 have Hb3:=lhd hb3
 have Hfin:=lhd hfin
 have Hlo:=lhd hlo
 have Hhi:=lhd hhi
 have H0l:=lhd h0l
 have H1l:=lhd h1l
 clear hb hb3 hfin h0l h1l hlo hhi hl' hn hl hk hc1 hke
 go_enter Tryz.func277,Tryz.ntmps277
 go_wp2_with fail
 refine hhas.mono ?_
 rintro e wz ⟨rfl,hbw⟩
 have hb1:=Hb3.out.below hbw hgb
 have hkp1:Keep (fun b=>b=gb) w wz:=Keep.of_below hbw
 have Hb1:=lhd hb1
 have Hkp1:=lhd hkp1
 clear hhas hbw hb1 hkp1 Hb3
 go_wp2_with fail
 go_loopw [7,8] (fun x z wr=>∃(i u1:Nat) (bb:Bool),x=.bool bb∧z=.int .i64 (i:Int)∧i0≤i∧i < 2∧(i=1→bb=false∧u1=w1 l)∧(i=0→bb=(w1 l).testBit 0∧u1=cutN (w1 l) 0 false)∧Bk wr gb 254 (blk3 (n:Int) (w0 l) u1)∧Keep (fun b=>b=gb) w wr) (fun _ z _=>(intOf z).toNat)
 case atStart=>exact ⟨1,w1 l,false,rfl,rfl,by omega,by omega,fun _=>⟨rfl,rfl⟩,fun e=>by omega,Hb1.out,Hkp1.out⟩
 case round=>
  obtain ⟨i,u1,bb,rfl,rfl,hi0i,hi2',h1,h0,hbk,hkp⟩:=hrel
  by_cases hgt:i0 < i
  · obtain rfl:i=1:=by omega
    obtain ⟨rfl,rfl⟩:=h1 rfl
    obtain rfl:i0=0:=by omega
    obtain ⟨i,hi1⟩:∃i,i=1:=⟨1,rfl⟩
    have hci:=blk3_get (n:Int) (w0 l) (w1 l) i (by omega)
    have hset:=fun y=>blk3_set (n:Int) (w0 l) (w1 l) y i (by omega)
    rw [if_neg (by omega)] at hci
    obtain ⟨x,hx⟩:∃x,w1 l=x:=⟨_,rfl⟩
    obtain ⟨y,hy⟩:∃y,cutN x 0 false=y:=⟨_,rfl⟩
    obtain ⟨cs,hcs⟩:∃cs,blk3 (n:Int) (w0 l) (w1 l)=cs:=⟨_,rfl⟩
    have hx64:=H1l.out
    rw [hcs] at hci hset hbk
    rw [hx] at hci hx64
    have hyy:cutN (w1 l) 0 false=y:=by rw [hx];exact hy
    obtain ⟨tb,htb⟩:∃tb,x.testBit 0=tb:=⟨_,rfl⟩
    have hbit:(w1 l).testBit 0=tb:=by rw [hx];exact htb
    have Htb:=lhd htb
    have hiI3:(i:Int) < 2:=by omega
    have Hci:=lhd hci
    have Hset:=lhd hset
    have Hcs:=lhd hbk
    have Hy:=lhd hy
    have Hyy:=lhd hyy
    have Hbit:=lhd hbit
    have Hkp:=lhd hkp
    have hi2n:i < 2:=by omega
    have hiN:¬i=0:=by omega
    have hiI2:¬(i:Int)≤0:=by omega
    rw [show ((1:Nat):Int)=(i:Int) by omega]
    have Hi1:=lhd hi1
    have hgi:¬(i:Int)≤0:=hiI2
    have hgi2:(i:Int) > 0:=by omega
    clear hbk hkp hci hset hx hy hyy hcs h1 h0 hbit hi1 hgt htb
    go_wp2_with fail
    refine wp_region_any (by kernel_rfl) ?_
    refine wpAny_keep [22,23,24,25,26,27,28,29,30,31,21,32,33,34,35,36,7] (fun b=>b=gb) 16 [7,16] (fun w1=>Bk w1 gb 254 cs) (blkW gb (cs.setIfInBounds (1+i) (.int .u64 (y:Int)))) [is (.pointer (some ⟨gb,0,none⟩)),is (.int .i64 (i:Int)),is (.pointer (some ⟨gb,0,none⟩)),is (.int .i64 (i:Int)),is (.pointer (some ⟨gb,0,none⟩)),is (.pointer (some ⟨gb,1,none⟩)),is (.pointer (some ⟨gb,1+i,none⟩)),is (.int .u64 (x:Int)),is (.bool false),is (.tuple #[.int .u64 (y:Int),.bool tb]),is (.tuple #[.int .u64 (y:Int),.bool tb]),is (.int .u64 (y:Int)),is (.bool tb),is (.pointer (some ⟨gb,0,none⟩)),is (.pointer (some ⟨gb,1,none⟩)),is (.pointer (some ⟨gb,1+i,none⟩)),anyV,is (.bool tb)] _ _ rfl (by kernel_rfl) (by kernel_rfl) (Hcs.out) (fun w1 w2 h _ hg=>Bk.below h hg h.lt) (blkW_stb _ _) (by repeat' (first | exact stbk_is _ _ | exact stbk_any _ |(refine List.forall_mem_cons.2 ⟨?_,?_⟩)|(intro p hp;cases hp))) ?_ ?_
    · refine steps_of ?_
      refine steps_cons (step_on3 rfl rfl fun ev _ _ _ _ _ hold _ _ _ _ hK=>?_) ?_
      · have e0:ev (.tmp 0)=.pointer (some ⟨gb,0,none⟩):=hold 0 (by kernel_rfl)
        go_simp
        exact kq hK rfl
      refine steps_cons (step_on3 rfl rfl fun ev _ _ _ _ _ hold _ _ _ _ hK=>?_) ?_
      · have e8:ev (.tmp 8)=.int .i64 (i:Int):=hold 8 (by kernel_rfl)
        go_simp
        exact kq hK rfl
      refine steps_cons (step_on3 rfl rfl fun ev _ _ _ _ _ hold _ _ _ _ hK=>?_) ?_
      · have e0:ev (.tmp 0)=.pointer (some ⟨gb,0,none⟩):=hold 0 (by kernel_rfl)
        go_simp
        exact kq hK rfl
      refine steps_cons (step_on3 rfl rfl fun ev _ _ _ _ _ hold _ _ _ _ hK=>?_) ?_
      · have e8:ev (.tmp 8)=.int .i64 (i:Int):=hold 8 (by kernel_rfl)
        go_simp
        exact kq hK rfl
      refine steps_cons (step_on3 rfl rfl fun _ _ _ _ _ _ _ hval _ _ _ hK=>?_) ?_
      · have e24:_=_:=hval 2 24 (by kernel_rfl) rfl
        go_simp
        exact kq hK rfl
      refine steps_cons (step_on3 rfl rfl fun _ _ _ _ _ _ _ hval _ _ _ hK=>?_) ?_
      · have e26:_=_:=hval 4 26 (by kernel_rfl) rfl
        go_simp
        exact kq hK rfl
      refine steps_cons (step_on3 rfl rfl fun _ _ _ _ _ _ _ hval _ _ _ hK=>?_) ?_
      · have e27:_=_:=hval 5 27 (by kernel_rfl) rfl
        have e25:_=_:=hval 3 25 (by kernel_rfl) rfl
        go_simp
        exact kq hK rfl
      refine steps_cons (step_on3 rfl rfl fun _ w5 _ hU _ _ _ hval _ _ _ hK=>?_) ?_
      · have hpre:=hU rfl
        have e28:_=_:=hval 6 28 (by kernel_rfl) rfl
        have c0:w5.cell? ⟨gb,1+i,none⟩=some (.int .u64 (x:Int)):=(hpre.cell (1+i)).trans Hci.out
        go_simp
        exact kq hK rfl
      refine steps_cons (step_on3 rfl rfl fun ev _ _ _ _ _ hold _ _ _ _ hK=>?_) ?_
      · have e7:ev (.tmp 7)=.bool false:=hold 7 (by kernel_rfl)
        go_simp
        exact kq hK rfl
      refine steps_cons (step_on3 rfl rfl fun _ w5 _ _ _ _ _ hval _ _ _ hK=>?_) ?_
      · have e29:_=_:=hval 7 29 (by kernel_rfl) rfl
        have e30:_=_:=hval 8 30 (by kernel_rfl) rfl
        go_simp
        refine (BCut_any x 0 false hx64 (by omega) w5).mono ?_
        rintro e w8 ⟨rfl,rfl⟩
        rw [Hy.out,Htb.out]
        exact kq hK rfl
      refine steps_cons (step_on3 rfl rfl fun _ _ _ _ _ _ _ hval _ _ _ hK=>?_) ?_
      · have e31:_=_:=hval 9 31 (by kernel_rfl) rfl
        go_simp
        exact kq hK rfl
      refine steps_cons (step_on3 rfl rfl fun _ _ _ _ _ _ _ hval _ _ _ hK=>?_) ?_
      · have e21:_=_:=hval 10 21 (by kernel_rfl) rfl
        go_simp
        exact kq hK rfl
      refine steps_cons (step_on3 rfl rfl fun _ _ _ _ _ _ _ hval _ _ _ hK=>?_) ?_
      · have e21:_=_:=hval 10 21 (by kernel_rfl) rfl
        go_simp
        exact kq hK rfl
      refine steps_cons (step_on3 rfl rfl fun _ _ _ _ _ _ _ hval _ _ _ hK=>?_) ?_
      · have e22:_=_:=hval 0 22 (by kernel_rfl) rfl
        go_simp
        exact kq hK rfl
      refine steps_cons (step_on3 rfl rfl fun _ _ _ _ _ _ _ hval _ _ _ hK=>?_) ?_
      · have e34:_=_:=hval 13 34 (by kernel_rfl) rfl
        go_simp
        exact kq hK rfl
      refine steps_cons (step_on3 rfl rfl fun _ _ _ _ _ _ _ hval _ _ _ hK=>?_) ?_
      · have e35:_=_:=hval 14 35 (by kernel_rfl) rfl
        have e23:_=_:=hval 1 23 (by kernel_rfl) rfl
        go_simp
        exact kq hK rfl
      refine steps_cons (step_on3 rfl rfl fun _ w5 _ hU _ _ _ hval _ _ _ hK=>?_) ?_
      · have hpre:=hU rfl
        have e36:_=_:=hval 15 36 (by kernel_rfl) rfl
        have e32:_=_:=hval 11 32 (by kernel_rfl) rfl
        have c0:w5.cell? ⟨gb,1+i,none⟩=some (.int .u64 (x:Int)):=(hpre.cell (1+i)).trans Hci.out
        have f0:=hpre.frozen (1+i)
        go_simp
        exact hK (.bool true) _ (kstep_keep (Keep.setCell (F:=fun b=>b=gb) (Keep.refl _ _) (p:=⟨gb,1+i,none⟩) (.inl rfl) _)) (hpre.set (1+i) _)
      refine steps_cons (step_on3 rfl rfl fun _ _ _ _ _ _ _ hval _ _ _ hK=>?_) ?_
      · have e33:_=_:=hval 12 33 (by kernel_rfl) rfl
        go_simp
        exact kq hK rfl
      exact steps_nil
    · intro ev w6 hS hval hall
      replace hS:Keep (fun b=>b=gb) wr w6:=⟨hS.os,hS.tape,hS.output,hS.size,hS.block⟩
      have e7:ev (.tmp 7)=.bool tb:=hval 17 7 rfl
      obtain ⟨vJ,pJ⟩:∃vJ0,(blkW gb (cs.setIfInBounds (1+i) (.int .u64 (y:Int)))) vJ0 w6:=hall 16 (by decide)
      simp only [putsOf,List.foldl_cons,List.foldl_nil,Act.put,List.setIfInBounds_toArray,List.set_cons_zero,List.set_cons_succ]
      rw [e7]
      clear hval hall
      have hbk2:Bk w6 gb 254 _:=pJ
      rw [Hset.out,if_neg hiN,if_neg hiN] at hbk2
      have hkp2:=Hkp.out.trans hS
      have Hbk2:=lhd hbk2
      have Hkp2:=lhd hkp2
      have e1:IntKind.i64.wrap ((i:Int) - 1)=((0:Nat):Int):=by have:=Hi1.out;rw [IntKind.wrap_i64];omega
      clear hbk2 hkp2 pJ hS
      go_wp2_with fail
      go_roundw
      case rel=>exact ⟨0,_,_,rfl,rfl,by omega,by omega,fun e=>by omega,fun _=>⟨Hbit.out.symm,Hyy.out.symm⟩,Hbk2.out,Hkp2.out⟩
      case measure=>have:=Hi1.out;simp [intOf];omega
  · obtain rfl:i=i0:=by omega
    have hfin2:∃x:Nat,(blk3 (n:Int) (w0 l) u1)[1+i]?=some (.int .u64 (x:Int))∧x < 18446744073709551616∧(blk3 (n:Int) (w0 l) u1).setIfInBounds (1+i) (.int .u64 ((cutN x a0 bb:Nat):Int))=blk3 (n:Int) (w0 (delN l k)) (w1 (delN l k))∧x.testBit a0=l.getD k false:=by
        have hci:=blk3_get (n:Int) (w0 l) u1 i hi2'
        have hset:=fun y=>blk3_set (n:Int) (w0 l) u1 y i hi2'
        obtain hz | hz:i=0∨i=1:=by omega
        · obtain ⟨e1,e2⟩:=h0 hz
          obtain ⟨e3,e4,e5⟩:=Hlo.out hz
          rw [if_pos hz] at hci
          refine ⟨w0 l,hci,H0l.out,?_,e5⟩
          rw [hset,if_pos hz,if_pos hz,e3,e4,e1,e2]
        · obtain ⟨e1,e2⟩:=h1 hz
          obtain ⟨e3,e4,e5⟩:=Hhi.out hz
          have hz0:¬i=0:=by omega
          rw [if_neg hz0] at hci
          refine ⟨u1,hci,by rw [e2];exact H1l.out,?_,by rw [e2];exact e5⟩
          rw [hset,if_neg hz0,if_neg hz0,e3,e4,e1,e2]
    obtain ⟨x,hci,hx64,hset,hbit⟩:=hfin2
    obtain ⟨pa,hpa⟩:∃pa,a0=pa:=⟨_,rfl⟩
    subst hpa
    have hp64:=ha64
    obtain ⟨y,hy⟩:∃y,cutN x a0 bb=y:=⟨_,rfl⟩
    obtain ⟨cs,hcs⟩:∃cs,blk3 (n:Int) (w0 l) u1=cs:=⟨_,rfl⟩
    rw [hy] at hset
    rw [hcs] at hci hset hbk
    have Hci:=lhd hci
    have Hset:=lhd hset
    have Hcs:=lhd hbk
    have Hy:=lhd hy
    have Hbit:=lhd hbit
    have Hkp:=lhd hkp
    have hgtI:¬(i:Int) > (i:Int):=by omega
    have hiI3:(i:Int) < 2:=by omega
    have hwi:IntKind.i64.wrap (i:Int)=(i:Int):=by rw [IntKind.wrap_i64];omega
    have htm:((k:Int)).tmod 64=(a0:Int):=by rw [Int.tmod_eq_emod_of_nonneg (by omega)];exact ha0
    clear hbk hkp hci hset hy hcs h1 h0 hbit hgt
    go_wp2_with fail
    refine wp_region_any (by kernel_rfl) ?_
    refine wpAny_keep [38,39,40,41,42,43,44,45,46,47,48,49,50,51,37,52,53,54,55,56,7] (fun b=>b=gb) 20 [9,20] (fun w1=>Bk w1 gb 254 cs) (blkW gb (cs.setIfInBounds (1+i) (.int .u64 (y:Int)))) [is (.pointer (some ⟨gb,0,none⟩)),is (.int .i64 (k:Int)),is (.int .i64 (i:Int)),is (.pointer (some ⟨gb,0,none⟩)),is (.int .i64 (k:Int)),is (.int .i64 (i:Int)),is (.pointer (some ⟨gb,0,none⟩)),is (.pointer (some ⟨gb,1,none⟩)),is (.pointer (some ⟨gb,1+i,none⟩)),is (.int .u64 (x:Int)),is (.int .i64 (k:Int)),is (.int .i64 (a0:Int)),is (.bool bb),is (.tuple #[.int .u64 (y:Int),.bool (x.testBit a0)]),is (.tuple #[.int .u64 (y:Int),.bool (x.testBit a0)]),is (.int .u64 (y:Int)),is (.bool (x.testBit a0)),is (.pointer (some ⟨gb,0,none⟩)),is (.pointer (some ⟨gb,1,none⟩)),is (.pointer (some ⟨gb,1+i,none⟩)),anyV,is (.bool (x.testBit a0))] _ _ rfl (by kernel_rfl) (by kernel_rfl) (Hcs.out) (fun w1 w2 h _ hg=>Bk.below h hg h.lt) (blkW_stb _ _) (by repeat' (first | exact stbk_is _ _ | exact stbk_any _ |(refine List.forall_mem_cons.2 ⟨?_,?_⟩)|(intro p hp;cases hp))) ?_ ?_
    · refine steps_of ?_
      refine steps_cons (step_on3 rfl rfl fun ev _ _ _ _ _ hold _ _ _ _ hK=>?_) ?_
      · have e0:ev (.tmp 0)=.pointer (some ⟨gb,0,none⟩):=hold 0 (by kernel_rfl)
        go_simp
        exact kq hK rfl
      refine steps_cons (step_on3 rfl rfl fun ev _ _ _ _ _ hold _ _ _ _ hK=>?_) ?_
      · have e1:ev (.tmp 1)=.int .i64 (k:Int):=hold 1 (by kernel_rfl)
        go_simp
        exact kq hK rfl
      refine steps_cons (step_on3 rfl rfl fun _ _ _ _ _ _ _ hval _ _ _ hK=>?_) ?_
      · have e39:_=_:=hval 1 39 (by kernel_rfl) rfl
        go_simp
        exact kq hK rfl
      refine steps_cons (step_on3 rfl rfl fun ev _ _ _ _ _ hold _ _ _ _ hK=>?_) ?_
      · have e0:ev (.tmp 0)=.pointer (some ⟨gb,0,none⟩):=hold 0 (by kernel_rfl)
        go_simp
        exact kq hK rfl
      refine steps_cons (step_on3 rfl rfl fun ev _ _ _ _ _ hold _ _ _ _ hK=>?_) ?_
      · have e1:ev (.tmp 1)=.int .i64 (k:Int):=hold 1 (by kernel_rfl)
        go_simp
        exact kq hK rfl
      refine steps_cons (step_on3 rfl rfl fun _ _ _ _ _ _ _ hval _ _ _ hK=>?_) ?_
      · have e42:_=_:=hval 4 42 (by kernel_rfl) rfl
        go_simp
        exact kq hK rfl
      refine steps_cons (step_on3 rfl rfl fun _ _ _ _ _ _ _ hval _ _ _ hK=>?_) ?_
      · have e41:_=_:=hval 3 41 (by kernel_rfl) rfl
        go_simp
        exact kq hK rfl
      refine steps_cons (step_on3 rfl rfl fun _ _ _ _ _ _ _ hval _ _ _ hK=>?_) ?_
      · have e44:_=_:=hval 6 44 (by kernel_rfl) rfl
        go_simp
        exact kq hK rfl
      refine steps_cons (step_on3 rfl rfl fun _ _ _ _ _ _ _ hval _ _ _ hK=>?_) ?_
      · have e45:_=_:=hval 7 45 (by kernel_rfl) rfl
        have e43:_=_:=hval 5 43 (by kernel_rfl) rfl
        go_simp
        exact kq hK rfl
      refine steps_cons (step_on3 rfl rfl fun _ w5 _ hU _ _ _ hval _ _ _ hK=>?_) ?_
      · have hpre:=hU rfl
        have e46:_=_:=hval 8 46 (by kernel_rfl) rfl
        have c0:w5.cell? ⟨gb,1+i,none⟩=some (.int .u64 (x:Int)):=(hpre.cell (1+i)).trans Hci.out
        go_simp
        exact kq hK rfl
      refine steps_cons (step_on3 rfl rfl fun ev _ _ _ _ _ hold _ _ _ _ hK=>?_) ?_
      · have e1:ev (.tmp 1)=.int .i64 (k:Int):=hold 1 (by kernel_rfl)
        go_simp
        exact kq hK rfl
      refine steps_cons (step_on3 rfl rfl fun _ _ _ _ _ _ _ hval _ _ _ hK=>?_) ?_
      · have e48:_=_:=hval 10 48 (by kernel_rfl) rfl
        go_simp
        exact kq hK rfl
      refine steps_cons (step_on3 rfl rfl fun ev _ _ _ _ _ hold _ _ _ _ hK=>?_) ?_
      · have e7:ev (.tmp 7)=.bool bb:=hold 7 (by kernel_rfl)
        go_simp
        exact kq hK rfl
      refine steps_cons (step_on3 rfl rfl fun _ w5 _ _ _ _ _ hval _ _ _ hK=>?_) ?_
      · have e47:_=_:=hval 9 47 (by kernel_rfl) rfl
        have e49:_=_:=hval 11 49 (by kernel_rfl) rfl
        have e50:_=_:=hval 12 50 (by kernel_rfl) rfl
        go_simp
        refine (BCut_any x a0 bb hx64 hp64 w5).mono ?_
        rintro e w8 ⟨rfl,rfl⟩
        rw [Hy.out]
        exact kq hK rfl
      refine steps_cons (step_on3 rfl rfl fun _ _ _ _ _ _ _ hval _ _ _ hK=>?_) ?_
      · have e51:_=_:=hval 13 51 (by kernel_rfl) rfl
        go_simp
        exact kq hK rfl
      refine steps_cons (step_on3 rfl rfl fun _ _ _ _ _ _ _ hval _ _ _ hK=>?_) ?_
      · have e37:_=_:=hval 14 37 (by kernel_rfl) rfl
        go_simp
        exact kq hK rfl
      refine steps_cons (step_on3 rfl rfl fun _ _ _ _ _ _ _ hval _ _ _ hK=>?_) ?_
      · have e37:_=_:=hval 14 37 (by kernel_rfl) rfl
        go_simp
        exact kq hK rfl
      refine steps_cons (step_on3 rfl rfl fun _ _ _ _ _ _ _ hval _ _ _ hK=>?_) ?_
      · have e38:_=_:=hval 0 38 (by kernel_rfl) rfl
        go_simp
        exact kq hK rfl
      refine steps_cons (step_on3 rfl rfl fun _ _ _ _ _ _ _ hval _ _ _ hK=>?_) ?_
      · have e54:_=_:=hval 17 54 (by kernel_rfl) rfl
        go_simp
        exact kq hK rfl
      refine steps_cons (step_on3 rfl rfl fun _ _ _ _ _ _ _ hval _ _ _ hK=>?_) ?_
      · have e55:_=_:=hval 18 55 (by kernel_rfl) rfl
        have e40:_=_:=hval 2 40 (by kernel_rfl) rfl
        go_simp
        exact kq hK rfl
      refine steps_cons (step_on3 rfl rfl fun _ w5 _ hU _ _ _ hval _ _ _ hK=>?_) ?_
      · have hpre:=hU rfl
        have e56:_=_:=hval 19 56 (by kernel_rfl) rfl
        have e52:_=_:=hval 15 52 (by kernel_rfl) rfl
        have c0:w5.cell? ⟨gb,1+i,none⟩=some (.int .u64 (x:Int)):=(hpre.cell (1+i)).trans Hci.out
        have f0:=hpre.frozen (1+i)
        go_simp
        exact hK (.bool true) _ (kstep_keep (Keep.setCell (F:=fun b=>b=gb) (Keep.refl _ _) (p:=⟨gb,1+i,none⟩) (.inl rfl) _)) (hpre.set (1+i) _)
      refine steps_cons (step_on3 rfl rfl fun _ _ _ _ _ _ _ hval _ _ _ hK=>?_) ?_
      · have e53:_=_:=hval 16 53 (by kernel_rfl) rfl
        go_simp
        exact kq hK rfl
      exact steps_nil
    · intro ev w6 hS hval hall
      replace hS:Keep (fun b=>b=gb) wr w6:=⟨hS.os,hS.tape,hS.output,hS.size,hS.block⟩
      have e7:ev (.tmp 7)=.bool (x.testBit a0):=hval 21 7 rfl
      obtain ⟨vJ,pJ⟩:∃vJ0,(blkW gb (cs.setIfInBounds (1+i) (.int .u64 (y:Int)))) vJ0 w6:=hall 20 (by decide)
      simp only [putsOf,List.foldl_cons,List.foldl_nil,Act.put,List.setIfInBounds_toArray,List.set_cons_zero,List.set_cons_succ]
      rw [e7]
      clear hval hall
      have hbk2:Bk w6 gb 254 _:=pJ
      rw [Hset.out] at hbk2
      have hkp2:=Hkp.out.trans hS
      have c0:w6.cell? ⟨gb,0,none⟩=some (.int .i64 (n:Int)):=(hbk2.cell 0).trans rfl
      have f0:=hbk2.frozen 0
      have hgw:=hbk2.lt
      have Hbk2:=lhd hbk2
      have Hkp2:=lhd hkp2
      have e1:IntKind.i64.wrap ((n:Int) - 1)=(n:Int) - 1:=by rw [IntKind.wrap_i64];omega
      rw [Hbit.out]
      clear hbk2 hkp2 pJ hS
      go_wp2_with fail
      go_ret2
      exact ⟨rfl,Hfin.out _ (blk3_lift Hbk2.out _),Keep.setCell (F:=fun b=>b=gb) Hkp2.out (p:=⟨gb,0,none⟩) (.inl rfl) _⟩
end Go.Proofs.YtipaccakmndkgaaGreatDoor
