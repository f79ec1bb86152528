/- The walks of the tally's Of, Below, Add (of one) and New. Conditions: symbols below 257, at most 1000. The walk of the reference's Same of two lists (scrimshawref6). Conditions: none. -/
import Derived.Test.YtipaccakmndkgaaGreatPwa9
import Derived.Test.YtipaccakmndkgaaGreatPwa3
import Derived.BigQuiet
namespace Go.Proofs.YtipaccakmndkgaaGreat
open Go.RowKit
set_option linter.unusedVariables false
set_option linter.unusedSimpArgs false
@[irreducible] def tcells (L:List Nat):Array Value:=Array.ofFn (n:=258) fun i=>.int .i64 (((if i.val < 257 then L.count i.val else L.length):Nat):Int)
theorem tcells_of (L:List Nat) {s:Nat} (h:s < 257):(tcells L)[s]?=some (.int .i64 ((L.count s:Nat):Int)):=by
 unfold tcells
 rw [Array.getElem?_ofFn,dif_pos (by omega),if_pos h]
theorem tcells_all (L:List Nat):(tcells L)[257]?=some (.int .i64 ((L.length:Nat):Int)):=by
 unfold tcells
 rw [Array.getElem?_ofFn,dif_pos (by omega)]
 rfl
theorem tcells_size (L:List Nat):(tcells L).size=258:=by unfold tcells;simp
theorem tcells_ext (cs:Array Value) (L:List Nat) (h0:cs.size=258) (h1:∀s,s < 257→cs[s]?=some (.int .i64 ((L.count s:Nat):Int))) (h2:cs[257]?=some (.int .i64 ((L.length:Nat):Int))):cs=tcells L:=by
 apply Array.ext_getElem?
 intro i
 rcases Nat.lt_or_ge i 257 with h | h
 · rw [h1 i h,tcells_of L h]
 · rcases Nat.eq_or_lt_of_le h with h | h
   · rw [←h,h2,tcells_all]
   · rw [Array.getElem?_eq_none (by omega),Array.getElem?_eq_none (by rw [tcells_size];omega)]
theorem tcells_add (L:List Nat) (s:Nat) (hs:s < 257):((tcells L).setIfInBounds s (.int .i64 (((L.count s+1:Nat)):Int))).setIfInBounds 257 (.int .i64 ((L.length+1:Nat):Int))=tcells (L++ [s]):=by
 apply tcells_ext
 · simp [tcells_size]
 · intro i hi
   rw [Array.getElem?_setIfInBounds_ne (by omega)]
   by_cases e:s=i
   · subst e
     rw [Array.getElem?_setIfInBounds_self_of_lt (by rw [tcells_size];omega)]
     simp
   · rw [Array.getElem?_setIfInBounds_ne e,tcells_of L hi]
     have: [s].count i=0:=by simp [e]
     rw [List.count_append,this]
     rfl
 · rw [Array.getElem?_setIfInBounds_self_of_lt (by simp [tcells_size])]
   simp
set_option maxRecDepth 100000 in
theorem TallyOf_any (gt:Nat) (L:List Nat) (s:Nat) (w:World) (h:Bk w gt 124 (tcells L)) (hs:s < 257):
 Calls Tryz.prog 145 #[.pointer (some ⟨gt,0,none⟩),.int .i64 (s:Int)] w fun e w'=>e=.returned (.int .i64 ((L.count s:Nat):Int))∧Below w.heap.size w w':=by
 have H:=Lib.hid h
 clear h
 go_enter Tryz.func145,Tryz.ntmps145
 go_wp2_with fail
 refine (SymIs_any s _ hs).mono ?_
 rintro e w1 ⟨rfl,hb⟩
 have c0:w1.cell? ⟨gt,s,none⟩=some (.int .i64 ((L.count s:Nat):Int)):=((H.out.below hb H.out.lt).cell s).trans (tcells_of L hs)
 have h0:¬((s:Int) < 0):=by omega
 have h1:((s:Int) < 257):=by omega
 clear H
 go_wp2_with fail
 go_ret
 exact ⟨rfl,hb⟩
theorem countP_step (L:List Nat) (k:Nat):L.countP (fun x=>decide (x < k+1))=L.countP (fun x=>decide (x < k))+L.count k:=by
 induction L with
 | nil=>rfl
 | cons x l ih=>
   rw [List.countP_cons,List.countP_cons,List.count_cons,ih]
   by_cases h1:x < k
   · have h2:x < k+1:=by omega
     have h3:x≠k:=by omega
     simp [h1,h2,h3]
     omega
   · by_cases h2:x=k
     · subst h2
       simp
       omega
     · have h3:¬x < k+1:=by omega
       simp [h1,h2,h3]
set_option maxRecDepth 100000 in
theorem TallyBelow_any (gt:Nat) (L:List Nat) (s:Nat) (w:World) (h:Bk w gt 124 (tcells L)) (hs:s < 257) (hl:L.length≤1000):
 Calls Tryz.prog 125 #[.pointer (some ⟨gt,0,none⟩),.int .i64 (s:Int)] w fun e w'=>e=.returned (.int .i64 ((L.countP (fun x=>decide (x < s)):Nat):Int))∧Below w.heap.size w w':=by
 have H:=Lib.hid h
 clear h
 have m1:max (s:Int) 0=(s:Int):=by omega
 have m2:min (s:Int) 257=(s:Int):=by omega
 go_enter Tryz.func125,Tryz.ntmps125
 go_wp2_with fail
 go_loopw [5,10] (fun v i wr=>∃k:Nat,k≤s∧i=.int .i64 k∧v=.int .i64 ((L.countP (fun x=>decide (x < k)):Nat):Int)∧Below w.heap.size w wr) (fun _ i _=>s -(intOf i).toNat)
 case atStart=>exact ⟨0,by omega,rfl,by simp,Below.refl _ _⟩
 case round=>
  obtain ⟨k,hk,rfl,rfl,hb⟩:=hrel
  have hsz:=hb.size
  by_cases hlt:k < s
  · go_wp2_with fail
    refine (TallyOf_any gt L k wr (H.out.below hb H.out.lt) (by omega)).mono ?_
    rintro e w1 ⟨rfl,hb1⟩
    have hb2:=hb.trans (hb1.mono hsz)
    have hst:=countP_step L k
    have hbd:L.countP (fun x=>decide (x < k+1))≤1000:=Nat.le_trans List.countP_le_length hl
    obtain ⟨p,hp⟩:∃p,L.countP (fun x=>decide (x < k))=p:=⟨_,rfl⟩
    obtain ⟨q,hq⟩:∃q,L.count k=q:=⟨_,rfl⟩
    rw [hst] at hbd
    rw [hp,hq] at hst hbd
    rw [hq]
    try rw [hp]
    have HS:=Lib.hid hst
    clear hst hp hq
    go_wp2_with fail
    go_roundw
    case rel=>exact ⟨k+1,by omega,by go_num,by rw [HS.out];exact i64_eq (by omega),hb2⟩
    case measure=>simp [intOf];omega
  · have hks:k=s:=by omega
    subst hks
    go_wp2_with fail
    go_ret
    exact ⟨rfl,hb⟩
set_option maxRecDepth 100000 in
set_option maxHeartbeats 1000000 in
theorem TallyAdd_any (gt:Nat) (L:List Nat) (s:Nat) (w:World) (h:Bk w gt 124 (tcells L)) (hs:s < 257) (hl:L.length≤1000):
 Calls Tryz.prog 60 #[.pointer (some ⟨gt,0,none⟩),.int .i64 (s:Int),.int .i64 1] w fun e w'=>e=.returned (.int .i64 0)∧Bk w' gt 124 (tcells (L++ [s]))∧Keep (fun b=>b=gt) w w':=by
 have H:=Lib.hid h
 clear h
 have h0:¬((s:Int) < 0):=by omega
 have h1:((s:Int) < 257):=by omega
 obtain ⟨q,hq⟩:∃q,L.count s=q:=⟨_,rfl⟩
 obtain ⟨n,hn⟩:∃n,L.length=n:=⟨_,rfl⟩
 have hql:q≤1000:=by rw [←hq];exact Nat.le_trans List.count_le_length hl
 rw [hn] at hl
 have hadd:=tcells_add L s hs
 rw [hq,hn] at hadd
 have HA:=Lib.hid hadd
 have HQ:=Lib.hid hq
 have HN:=Lib.hid hn
 clear hadd hq hn
 go_enter Tryz.func60,Tryz.ntmps60
 go_wp2_with fail
 refine (SymIs_any s _ hs).mono ?_
 rintro e w1 ⟨rfl,hb⟩
 have hbk:=H.out.below hb H.out.lt
 have c0:w1.cell? ⟨gt,s,none⟩=some (.int .i64 (q:Int)):=by rw [←HQ.out];exact (hbk.cell s).trans (tcells_of L hs)
 have c1:w1.cell? ⟨gt,257,none⟩=some (.int .i64 (n:Int)):=by rw [←HN.out];exact (hbk.cell 257).trans (tcells_all L)
 have n1:¬((1:Int) < -(q:Int)):=by omega
 have n2:¬((1:Int) > 2147483648 -(n:Int)):=by omega
 have HB:=Lib.hid hb
 have Hbk:=Lib.hid hbk
 clear hb hbk H
 go_wp2_with fail
 refine wp_region_any (by kernel_rfl) ?_
 refine wpAny_keep [33,34,35,36,37,38,39,40,41,42,43] (fun b=>b=gt) 11 [5,11] (fun w2=>Bk w2 gt 124 (tcells L)) (fun _ w2=>Bk w2 gt 124 ((tcells L).setIfInBounds s (.int .i64 ((q+1:Nat):Int)))) [is (.pointer (some ⟨gt,0,none⟩)),is (.int .i64 (s:Int)),is (.pointer (some ⟨gt,0,none⟩)),is (.pointer (some ⟨gt,0,none⟩)),is (.pointer (some ⟨gt,s,none⟩)),is (.int .i64 (q:Int)),is (.int .i64 1),is (.int .i64 ((q+1:Nat):Int)),is (.pointer (some ⟨gt,0,none⟩)),is (.pointer (some ⟨gt,0,none⟩)),is (.pointer (some ⟨gt,s,none⟩)),anyV] _ _ rfl (by kernel_rfl) (by kernel_rfl) (Hbk.out) (fun w2 w3 h _ hg=>Bk.below h hg h.lt) (fun _ _ _ h k=>Bk.below h k h.lt) (by repeat' (first | exact stbk_is _ _ | exact stbk_any _ |(refine List.forall_mem_cons.2 ⟨?_,?_⟩)|(intro p hp;cases hp))) ?_ ?_
 · refine steps_of ?_
   refine steps_cons (step_on3 rfl rfl fun ev _ _ _ _ _ hold _ _ _ _ hK=>?_) ?_
   · have e0:ev (.tmp 0)=.pointer (some ⟨gt,0,none⟩):=hold 0 (by kernel_rfl)
     go_simp
     exact hK _ _ (kstep_grow (Below.refl _ _)) rfl
   refine steps_cons (step_on3 rfl rfl fun ev _ _ _ _ _ hold _ _ _ _ hK=>?_) ?_
   · have e1:ev (.tmp 1)=.int .i64 (s:Int):=hold 1 (by kernel_rfl)
     go_simp
     exact hK _ _ (kstep_grow (Below.refl _ _)) rfl
   refine steps_cons (step_on3 rfl rfl fun _ _ _ _ _ _ _ hval _ _ _ hK=>?_) ?_
   · have e33:_=_:=hval 0 33 (by kernel_rfl) rfl
     go_simp
     exact hK _ _ (kstep_grow (Below.refl _ _)) rfl
   refine steps_cons (step_on3 rfl rfl fun _ _ _ _ _ _ _ hval _ _ _ hK=>?_) ?_
   · have e35:_=_:=hval 2 35 (by kernel_rfl) rfl
     go_simp
     exact hK _ _ (kstep_grow (Below.refl _ _)) rfl
   refine steps_cons (step_on3 rfl rfl fun _ _ _ _ _ _ _ hval _ _ _ hK=>?_) ?_
   · have e36:_=_:=hval 3 36 (by kernel_rfl) rfl
     have e34:_=_:=hval 1 34 (by kernel_rfl) rfl
     go_simp
     exact hK _ _ (kstep_grow (Below.refl _ _)) rfl
   refine steps_cons (step_on3 rfl rfl fun _ w5 _ hU _ _ _ hval _ _ _ hK=>?_) ?_
   · have hpre:=hU rfl
     have e37:_=_:=hval 4 37 (by kernel_rfl) rfl
     have c38:w5.cell? ⟨gt,s,none⟩=some (.int .i64 (q:Int)):=by rw [←HQ.out];exact (hpre.cell s).trans (tcells_of L hs)
     go_simp
     exact hK _ _ (kstep_grow (Below.refl _ _)) rfl
   refine steps_cons (step_on3 rfl rfl fun ev _ _ _ _ _ hold _ _ _ _ hK=>?_) ?_
   · have e2:ev (.tmp 2)=.int .i64 1:=hold 2 (by kernel_rfl)
     go_simp
     exact hK _ _ (kstep_grow (Below.refl _ _)) rfl
   refine steps_cons (step_on3 rfl rfl fun _ _ _ _ _ _ _ hval _ _ _ hK=>?_) ?_
   · have e38:_=_:=hval 5 38 (by kernel_rfl) rfl
     have e39:_=_:=hval 6 39 (by kernel_rfl) rfl
     go_simp
     exact hK _ _ (kstep_grow (Below.refl _ _)) (i64_eq (by rw [IntKind.wrap_i64];omega))
   refine steps_cons (step_on3 rfl rfl fun _ _ _ _ _ _ _ hval _ _ _ hK=>?_) ?_
   · have e33:_=_:=hval 0 33 (by kernel_rfl) rfl
     go_simp
     exact hK _ _ (kstep_grow (Below.refl _ _)) rfl
   refine steps_cons (step_on3 rfl rfl fun _ _ _ _ _ _ _ hval _ _ _ hK=>?_) ?_
   · have e41:_=_:=hval 8 41 (by kernel_rfl) rfl
     go_simp
     exact hK _ _ (kstep_grow (Below.refl _ _)) rfl
   refine steps_cons (step_on3 rfl rfl fun _ _ _ _ _ _ _ hval _ _ _ hK=>?_) ?_
   · have e42:_=_:=hval 9 42 (by kernel_rfl) rfl
     have e34:_=_:=hval 1 34 (by kernel_rfl) rfl
     go_simp
     exact hK _ _ (kstep_grow (Below.refl _ _)) rfl
   refine steps_cons (step_on3 rfl rfl fun _ w5 _ hU _ _ _ hval _ _ _ hK=>?_) ?_
   · have hpre:=hU rfl
     have e43:_=_:=hval 10 43 (by kernel_rfl) rfl
     have e40:_=_:=hval 7 40 (by kernel_rfl) rfl
     have c43:w5.cell? ⟨gt,s,none⟩=some (.int .i64 (q:Int)):=by rw [←HQ.out];exact (hpre.cell s).trans (tcells_of L hs)
     have f43:=hpre.frozen s
     go_simp
     exact hK (.bool true) _ (kstep_keep (Keep.setCell (F:=fun b=>b=gt) (Keep.refl _ _) (p:=⟨gt,s,none⟩) (.inl rfl) _)) (hpre.set s _)
   exact steps_nil
 · intro ev w6 hS hval hall
   replace hS:Keep (fun b=>b=gt) w1 w6:=⟨hS.os,hS.tape,hS.output,hS.size,hS.block⟩
   obtain ⟨vJ,pJ⟩:∃vJ0,(fun _ w2=>Bk w2 gt 124 ((tcells L).setIfInBounds s (.int .i64 ((q+1:Nat):Int)))) vJ0 w6:=hall 11 (by decide)
   simp only [putsOf,List.foldl_cons,List.foldl_nil,Act.put,List.setIfInBounds_toArray,List.set_cons_zero,List.set_cons_succ]
   clear hval hall
   have c257:w6.cell? ⟨gt,257,none⟩=some (.int .i64 (n:Int)):=by
    refine (pJ.cell 257).trans ?_
    rw [Array.getElem?_setIfInBounds_ne (by omega),←HN.out]
    exact tcells_all L
   have f257:=pJ.frozen 257
   have PJ:=Lib.hid pJ
   have HS:=Lib.hid hS
   have hglt:=pJ.lt
   clear pJ hS
   go_wp2_with fail
   go_ret
   refine ⟨rfl,?_,?_⟩
   · rw [←HA.out]
     exact PJ.out.set 257 _
   · exact ((Keep.of_below HB.out).trans HS.out).setCell (.inl rfl) _
theorem tcells_nil:tcells []=Tryz.zeroCells124:=by kernel_rfl
set_option maxRecDepth 100000 in
set_option maxHeartbeats 1000000 in
theorem TallyNew_any (A:Option Addr) (m c B:Nat) (L:List Nat) (w:World) (hr:Rd w B 1 A m (L.map sv)) (hB:B≤w.heap.size) (hm:m≤1000) (hL:∀s∈L,s < 257):
 Calls Tryz.prog 74 #[.slice A m c] w fun e w'=>∃gt,e=.returned (.tuple #[.pointer (some ⟨gt,0,none⟩),.int .i64 0])∧w.heap.size≤gt∧Bk w' gt 124 (tcells L)∧Below w.heap.size w w':=by
 have hll:L.length=m:=by simpa using hr.1
 have Hr:=Lib.hid hr
 have HL:=Lib.hid hL
 have Hll:=Lib.hid hll
 have HB:=Lib.hid hB
 clear hr hL hll
 go_enter Tryz.func74,Tryz.ntmps74
 go_wp2_with fail
 obtain ⟨gt,hgt⟩:∃gt,w.heap.size=gt:=⟨_,rfl⟩
 have hbk0:Bk (w.alloc (.cells Tryz.zeroCells124 124)) gt 124 (tcells (L.take 0)):=by
  rw [List.take_zero,tcells_nil,←hgt]
  exact Bk.new _ _ _
 have hb0:=(Below.refl w.heap.size w).alloc (Nat.le_refl _) (.cells Tryz.zeroCells124 124)
 try rw [hgt]
 go_loopw [12] (fun i wr=>∃k:Nat,k≤m∧i=.int .i64 k∧Bk wr gt 124 (tcells (L.take k))∧Below w.heap.size w wr) (fun i _=>m -(intOf i).toNat)
 case atStart=>exact ⟨0,by omega,rfl,hbk0,hb0⟩
 case round=>
  obtain ⟨k,hk,rfl,hbk,hb⟩:=hrel
  have hsz:=hb.size
  by_cases hlt:k < m
  · have hkl:k < L.length:=by rw [Hll.out];exact hlt
    obtain ⟨s,hs⟩:∃s,L[k]?=some s:=⟨L[k],List.getElem?_eq_getElem hkl⟩
    obtain ⟨b,off,u,rfl,hbl,hu,hc⟩:=((Hr.out.mono HB.out).below hb).get hlt
    rw [List.getElem?_map,hs] at hu
    simp at hu
    subst hu
    have hs257:s < 257:=HL.out s (List.mem_of_getElem? hs)
    have htk:L.take (k+1)=L.take k++ [s]:=by rw [List.take_add_one,hs];rfl
    have htl:(L.take k).length≤1000:=by rw [List.length_take];omega
    unfold sv at hc
    have HTK:=Lib.hid htk
    have Hbk:=Lib.hid hbk
    clear htk hbk hs
    go_wp2_with fail
    refine (TallyAdd_any gt (L.take k) s _ Hbk.out hs257 htl).mono ?_
    rintro e w1 ⟨rfl,hb1,hk1⟩
    have hb2:Below w.heap.size w w1:=hb.trans (hk1.to_below hsz (fun b hb e=>by omega))
    rw [←HTK.out] at hb1
    have Hb1:=Lib.hid hb1
    clear hb1 hk1
    go_wp2_with fail
    go_roundw
    case rel=>exact ⟨k+1,by omega,by go_num,Hb1.out,hb2⟩
    case measure=>simp [intOf];omega
  · have hkm:k=m:=by omega
    subst hkm
    rw [List.take_of_length_le (by rw [Hll.out];omega)] at hbk
    have Hbk:=Lib.hid hbk
    clear hbk
    go_wp2_with fail
    go_ret2
    exact ⟨gt,rfl,by omega,Hbk.out,hb⟩
end Go.Proofs.YtipaccakmndkgaaGreat
namespace Go.Proofs.YtipaccakmndkgaaGreat
open Go.RowKit
set_option linter.unusedVariables false
set_option linter.unusedSimpArgs false
theorem nv_inj {a b:Nat} (h:a≠b):((a:Int)==(b:Int))=false:=by rw [beq_eq_false_iff_ne];omega
theorem take_ext {L1 L2:List Nat} {k n:Nat} (h1:L1.length=n) (h2:L2.length=n) (h:L1.take k=L2.take k) (hk:n≤k):L1=L2:=by
 rw [List.take_of_length_le (by omega),List.take_of_length_le (by omega)] at h
 exact h
set_option maxRecDepth 100000 in
set_option maxHeartbeats 1000000 in
theorem refSame_any (A1 A2:Option Addr) (n1 c1 n2 c2 B1 B2:Nat) (L1 L2:List Nat) (w:World) (h1:Rd w B1 1 A1 n1 (L1.map sv)) (h2:Rd w B2 1 A2 n2 (L2.map sv)) (hn:n1≤1099511627776) (hn2:n2≤1099511627776):
 Calls Tryz.prog 9 #[.slice A1 n1 c1,.slice A2 n2 c2] w fun e w'=>e=.returned (.bool (decide (L1=L2)))∧Below w.heap.size w w':=by
 have l1:L1.length=n1:=by simpa using h1.1
 have l2:L2.length=n2:=by simpa using h2.1
 have H1:=Lib.hid h1
 have H2:=Lib.hid h2
 have HL1:=Lib.hid l1
 have HL2:=Lib.hid l2
 clear h1 h2 l1 l2
 by_cases hne:n1=n2
 · subst hne
   go_enter Tryz.func9,Tryz.ntmps9
   go_wp2
   go_loopw [5] (fun i wr=>∃k:Nat,k≤n1∧i=.int .i64 k∧L1.take k=L2.take k∧∃m,wr=w.drewN m) (fun i _=>n1 -(intOf i).toNat)
   case atStart=>exact ⟨0,Nat.zero_le _,rfl,rfl,0,rfl⟩
   case round=>
    obtain ⟨k,hk,rfl,hpre,mm,rfl⟩:=hrel
    by_cases hlt:k < n1
    · obtain ⟨x,hx⟩:∃x,L1[k]?=some x:=⟨L1[k]'(by have:=HL1.out;omega),List.getElem?_eq_getElem (by have:=HL1.out;omega)⟩
      obtain ⟨y,hy⟩:∃y,L2[k]?=some y:=⟨L2[k]'(by have:=HL2.out;omega),List.getElem?_eq_getElem (by have:=HL2.out;omega)⟩
      obtain ⟨b1,o1,u1,rfl,hb1,hu1,d1⟩:=H1.out.get hlt
      obtain ⟨b2,o2,u2,rfl,hb2,hu2,d2⟩:=H2.out.get hlt
      rw [List.getElem?_map,hx] at hu1
      rw [List.getElem?_map,hy] at hu2
      simp only [Option.map_some,Option.some.injEq] at hu1 hu2
      subst hu1
      subst hu2
      unfold sv at d1 d2
      have Hpre:=Lib.hid hpre
      have Hx:=Lib.hid hx
      have Hy:=Lib.hid hy
      clear hpre hx hy
      by_cases hxy:x=y
      · subst hxy
        go_wp2
        go_quiet (fail)
        go_wp2
        go_roundw
        case rel=>
         refine ⟨k+1,by omega,by go_num,?_,_,rfl⟩
         rw [List.take_add_one,List.take_add_one,Hpre.out,Hx.out,Hy.out]
        case measure=>simp [intOf];omega
      · have t:=nv_inj hxy
        have hfin:L1≠L2:=fun h=>hxy (by
         have a:=Hx.out
         rw [h,Hy.out] at a
         injection a with a
         exact a.symm)
        have Hfin:=Lib.hid hfin
        clear hfin
        go_wp2
        go_quiet (fail)
        go_wp2
        go_ret
        exact ⟨ret_bool (by rw [decide_eq_false Hfin.out]),below_drewN (below_drewN (Below.refl _ _) _) _⟩
    · have hge:n1≤k:=by omega
      have hfin:=Lib.hid (take_ext HL1.out HL2.out hpre hge)
      clear hpre
      go_wp2
      go_ret
      exact ⟨ret_bool (by rw [decide_eq_true hfin.out]),below_drewN (Below.refl _ _) _⟩
 · have hfin:L1≠L2:=fun h=>hne (by rw [←HL1.out,←HL2.out,h])
   have Hfin:=Lib.hid hfin
   have t:=nv_inj hne
   clear hfin
   go_enter Tryz.func9,Tryz.ntmps9
   go_wp2
   go_ret
   exact ⟨ret_bool (by rw [decide_eq_false Hfin.out]),Below.refl _ _⟩
end Go.Proofs.YtipaccakmndkgaaGreat
