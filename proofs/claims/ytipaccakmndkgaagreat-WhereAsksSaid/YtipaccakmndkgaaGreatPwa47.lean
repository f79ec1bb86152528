/- The walk of WhereAsks: where a pattern stands, behind inserts too. Conditions: the lists' lengths are lengths. -/
import Derived.Test.YtipaccakmndkgaaGreatPwa41
import Derived.Test.YtipaccakmndkgaaGreatPwa46
import Derived.Test.YtipaccakmndkgaaGreatPwa40
import Derived.BigQuiet
namespace Go.Proofs.YtipaccakmndkgaaGreat
open Go.RowKit
set_option linter.unusedVariables false
set_option linter.unusedSimpArgs false
def txV (m:Nat):Value→World→Prop:=fun v w=>∃(t:List UInt8) (A:Option Addr) (n c:Nat),v=.slice A n c∧Rd w w.heap.size 1 A n (t.map bv)∧t.length=n∧n≤m
def stV (m:Nat):Value→World→Prop:=fun v _=>∃t:List UInt8,v=.string ⟨t.toArray⟩∧t.length≤m
theorem stb_tx (m:Nat):Stb (txV m):=fun _ _ _ ⟨t,A,n,c,h1,h2,h3,h4⟩ hb=>⟨t,A,n,c,h1,(h2.below hb).mono (Below.size hb),h3,h4⟩
theorem stb_st (m:Nat):Stb (stV m):=fun _ _ _ h _=>h
set_option maxRecDepth 100000 in
set_option maxHeartbeats 8000000 in
theorem WhereAsks_walk (A:Option Addr) (n c:Nat) (l:List Int) (few:Bool) (rate:Int) (Ap:Option Addr) (np cp:Nat) (lp:List Int) (Aq:Option Addr) (mq cq:Nat) (lq:List Int) (w:World) (hr:Rd w w.heap.size 1 A n (l.map iv)) (hn:n≤maxLen) (hrp:Rd w w.heap.size 1 Ap np (lp.map iv)) (hnp:np≤maxLen) (hrq:Rd w w.heap.size 1 Aq mq (lq.map iv)) (hnq:mq≤maxLen):
 Calls Tryz.prog 3 #[.slice A n c,.bool few,.int .i64 rate,.slice Ap np cp,.slice Aq mq cq] w fun e w'=>e=.returned (.bool true)∧Below w.heap.size w w':=by
 have Hr:=Lib.hid hr
 have Hrp:=Lib.hid hrp
 have Hrq:=Lib.hid hrq
 obtain ⟨x,hx1,hx2⟩:=umod_ex rate 64 (by omega)
 have hx64:x < 64:=by omega
 have Hx1:=Lib.hid hx1
 clear hr hrp hrq hx2 hx1
 go_enter Tryz.func3,Tryz.ntmps3
 go_wp2_with fail
 refine wp_region_any (by kernel_rfl) ?_
 refine wpAny_loose2 [19,20,21,22,23,24,25,11,12] Grow (Vs [is (.slice A n c),is (.bool few),txV 80,stV 80,is (.slice Ap np cp),is (.bool few),txV 4,stV 80,txV 4]) _ _ rfl (by kernel_rfl) (Below.refl _ _) (fun _ _=>Grow.trans) (stb_all (by repeat' (first | exact stb_is _ | exact stb_tx _ | exact stb_st _ |(refine List.forall_mem_cons.2 ⟨?_,?_⟩)|(intro p hp;cases hp)))) ?_ ?_
 · refine steps_of ?_
   refine steps_cons (step_on rfl rfl fun ev _ _ _ _ hold _ _ _ _ hK=>?_) ?_
   · have e0:ev (.tmp 0)=.slice A n c:=hold 0 (by kernel_rfl)
     go_simp
     exact hK _ _ (Below.refl _ _) rfl
   refine steps_cons (step_on rfl rfl fun ev _ _ _ _ hold _ _ _ _ hK=>?_) ?_
   · have e1:ev (.tmp 1)=.bool few:=hold 1 (by kernel_rfl)
     go_simp
     exact hK _ _ (Below.refl _ _) rfl
   refine steps_cons (step_on rfl rfl fun _ w5 hS _ _ _ hval _ _ _ hK=>?_) ?_
   · have e19:_=_:=hval 0 19 (by kernel_rfl) rfl
     have e20:_=_:=hval 1 20 (by kernel_rfl) rfl
     replace hS:Below w.heap.size w w5:=⟨hS.os,hS.tape,hS.output,hS.size,hS.block⟩
     go_simp
     refine (Text_any A n c w5.heap.size l 80 few w5 ((Hr.out.below hS).mono hS.size) (Nat.le_refl _) hn (by omega)).mono ?_
     rintro e w8 ⟨t,A1,c1,ht,_,rfl,hm1,hb1⟩
     exact hK _ _ hb1 ⟨t,A1,_,c1,rfl,hm1.rd,rfl,ht⟩
   refine steps_cons (step_on rfl rfl fun ev w5 _ _ _ _ hval _ _ _ hK=>?_) ?_
   · obtain ⟨t,A1,n1,c1,e21,h21,hl21,hm21⟩:txV 80 (ev (.tmp 21)) w5:=hval 2 21 (by kernel_rfl) rfl
     have s1:=strOfT h21 c1
     go_simp
     exact hK _ _ (Below.refl _ _) ⟨t,rfl,by omega⟩
   refine steps_cons (step_on rfl rfl fun ev _ _ _ _ hold _ _ _ _ hK=>?_) ?_
   · have e3:ev (.tmp 3)=.slice Ap np cp:=hold 3 (by kernel_rfl)
     go_simp
     exact hK _ _ (Below.refl _ _) rfl
   refine steps_cons (step_on rfl rfl fun ev _ _ _ _ hold _ _ _ _ hK=>?_) ?_
   · have e1:ev (.tmp 1)=.bool few:=hold 1 (by kernel_rfl)
     go_simp
     exact hK _ _ (Below.refl _ _) rfl
   refine steps_cons (step_on rfl rfl fun _ w5 hS _ _ _ hval _ _ _ hK=>?_) ?_
   · have e23:_=_:=hval 4 23 (by kernel_rfl) rfl
     have e24:_=_:=hval 5 24 (by kernel_rfl) rfl
     replace hS:Below w.heap.size w w5:=⟨hS.os,hS.tape,hS.output,hS.size,hS.block⟩
     go_simp
     refine (Text_any Ap np cp w5.heap.size lp 4 few w5 ((Hrp.out.below hS).mono hS.size) (Nat.le_refl _) hnp (by omega)).mono ?_
     rintro e w8 ⟨t,A1,c1,ht,_,rfl,hm1,hb1⟩
     exact hK _ _ hb1 ⟨t,A1,_,c1,rfl,hm1.rd,rfl,ht⟩
   refine steps_cons (step_on rfl rfl fun ev w5 _ _ _ _ hval _ _ _ hK=>?_) ?_
   · obtain ⟨t,e22,h22⟩:stV 80 (ev (.tmp 22)) w5:=hval 3 22 (by kernel_rfl) rfl
     go_simp
     exact hK _ _ (Below.refl _ _) ⟨t,rfl,h22⟩
   refine steps_cons (step_on rfl rfl fun ev w5 _ _ _ _ hval _ _ _ hK=>?_) ?_
   · obtain ⟨t,A1,n1,c1,e25,h25,hl25,hm25⟩:txV 4 (ev (.tmp 25)) w5:=hval 6 25 (by kernel_rfl) rfl
     go_simp
     exact hK _ _ (Below.refl _ _) ⟨t,A1,n1,c1,rfl,h25,hl25,hm25⟩
   exact steps_nil
 · intro ev w1 hS hval
   obtain ⟨t,e11,ht80⟩:stV 80 (ev (.tmp 11)) w1:=hval 7 11 rfl
   obtain ⟨q,A2,n2,c2,e12,h12,hq2,hn4⟩:txV 4 (ev (.tmp 12)) w1:=hval 8 12 rfl
   replace hS:Below w.heap.size w w1:=⟨hS.os,hS.tape,hS.output,hS.size,hS.block⟩
   simp only [putsOf,List.foldl_cons,List.foldl_nil,Act.put,List.setIfInBounds_toArray,List.set_cons_zero,List.set_cons_succ]
   rw [e11,e12]
   clear hval e11 e12
   have hx1:=Hx1.out
   obtain ⟨A0,cap,W1,kb,hrd,hbw⟩:=ts_conv w1 t _ rfl
   have hb01:=hS.trans (hbw.mono hS.size)
   obtain ⟨N,hN⟩:∃N,t.length=N:=⟨_,rfl⟩
   rw [hN] at kb hrd ht80
   have hbA:Below W1.heap.size W1 (W1.alloc (.cells #[.slice A0 N cap] 23)):=(Below.refl _ _).alloc (Nat.le_refl _) _
   have hnew:=LiveNewE_any (1+x) _ 1 1 _ [⟨A0,N,cap,t⟩] t N (by simp [catS]) hN _ (Rd.made W1 23 1 1 #[.slice A0 N cap] rfl) (fun s hs=>by simp at hs;subst hs;exact (hrd.below hbA).mono hbA.size) (Nat.le_refl _) (by omega) (by omega) (by omega) (by omega)
   have e2:(((1+x:Nat)):Int)=1+(x:Int):=by omega
   rw [e2] at hnew
   have hb0A:=hb01.trans (hbA.mono hb01.size)
   have Hb0A:=Lib.hid hb0A
   have Hq:=Lib.hid ((((h12.below hbw).mono hbw.size).below hbA).mono hbA.size)
   have HqA:=Lib.hid ((Hrq.out.below hb0A).mono hb0A.size)
   have HN:=Lib.hid hN
   have Hq2:=Lib.hid hq2
   have Hnew:=Lib.hid hnew
   clear hS hrd hbw hb01 hb0A hnew hbA hN e2 h12 hq2 Hr Hrp Hrq Hx1
   go_wp2_with fail
   obtain ⟨WA,hWA⟩:∃WA,W1.alloc (.cells #[.slice A0 N cap] 23)=WA:=⟨_,rfl⟩
   rw [hWA] at Hnew Hb0A Hq HqA⊢
   refine Hnew.out.mono ?_
   rintro e w2 ⟨gl,own0,rfl,hgl,hle,hb2⟩
   have Hle:=Lib.hid hle
   have Hb2:=Lib.hid hb2
   clear hle hb2 Hnew kb hgl hWA hx1
   obtain ⟨r,hrr⟩:∃r,1+x=r:=⟨_,rfl⟩
   rw [hrr] at Hle
   have hr1:1≤r:=by omega
   have hr2:r≤64:=by omega
   have Hr1:=Lib.hid hr1
   have Hr2:=Lib.hid hr2
   obtain ⟨B1,hB1⟩:∃B1,WA.heap.size=B1:=⟨_,rfl⟩
   rw [hB1] at Hle Hb2 Hq HqA
   have HB1:=Lib.hid hB1
   clear hr1 hr2 hrr hx64 hB1
   go_wp2_with fail
   go_loopw [15,11,16] (fun i s k wr=>∃(j:Nat) (tt:List UInt8) (own:Nat→Nat),j≤mq∧j≤10∧i=.int .i64 (j:Int)∧s=.string ⟨tt.toArray⟩∧tt.length=N+j∧LiveE wr B1 own gl tt r∧Below B1 WA wr) (fun i _ _ _=>10 -(intOf i).toNat)
   case atStart=>exact ⟨0,t,own0,Nat.zero_le _,by omega,rfl,rfl,HN.out,Hle.out,Hb2.out⟩
   case round=>
    obtain ⟨j,tt,own,hj,hj10,rfl,rfl,htt,hle,hbr⟩:=hrel
    obtain ⟨M,hM⟩:∃M,N+j=M:=⟨_,rfl⟩
    rw [hM] at htt
    have hM90:M≤90:=by omega
    have z1:(⟨tt.toArray⟩:ByteArray).size=M:=(ts_size tt).trans htt
    have hsr:B1≤wr.heap.size:=by have:=hbr.size;have:=HB1.out;omega
    have Hle2:=Lib.hid hle
    have Hbr:=Lib.hid hbr
    have Htt:=Lib.hid htt
    have HM:=Lib.hid hM
    have Hsr:=Lib.hid hsr
    clear hle htt hM hbr hsr
    by_cases hgo:j < mq∧j < 10
    · obtain ⟨hlt,hlt10⟩:=hgo
      have hqr:=HqA.out.below Hbr.out
      obtain ⟨z,hz⟩:∃z,lq[j]?=some z:=⟨_,List.getElem?_eq_getElem (by have:=hqr.1;rw [List.length_map] at this;omega)⟩
      obtain ⟨bq,oq,rfl,hbq2,hcq⟩:=hqr.2 (by omega)
      have d1:wr.cell? ⟨bq,oq+j,none⟩=some (.int .i64 z):=hcq j _ (by rw [List.getElem?_map,hz];rfl)
      obtain ⟨k,hk1,hk2⟩:=umod_ex z ((M+1:Nat):Int) (by omega)
      have hkM:k≤M:=by omega
      have e1:IntKind.i64.wrap ((M:Int)+1)=((M+1:Nat):Int):=by rw [IntKind.wrap_i64];omega
      have e2:IntKind.u64.wrap ((M+1:Nat):Int)=((M+1:Nat):Int):=by rw [IntKind.wrap_u64];omega
      have e3:IntKind.i64.wrap (k:Int)=(k:Int):=by rw [IntKind.wrap_i64];omega
      obtain ⟨M1,hM1⟩:∃M1,M+1=M1:=⟨_,rfl⟩
      rw [hM1] at e1 e2 hk1
      have e4:¬M1=0:=by omega
      have e5:¬(M1:Int)=0:=by omega
      have hins:=LInsert_any wr B1 own gl tt r k 97 Hle2.out (by rw [Htt.out];omega) (by rw [Htt.out];exact hkM) Hr1.out Hr2.out
      unfold InsE at hins
      have e97:(((97:UInt8).toNat:Nat):Int)=97:=rfl
      rw [e97] at hins
      have Hins:=Lib.hid hins
      have hktt:k≤tt.length:=by rw [Htt.out];exact hkM
      have Hktt:=Lib.hid hktt
      clear hk2 hcq hz hqr hins hM1 hktt hbq2 e97
      go_wp2_with fail
      refine Hins.out.mono ?_
      rintro e w4 ⟨rfl,own4,hle4,hlf4⟩
      have hb4:=hlf4.belowW Hsr.out
      have Hle4:=Lib.hid hle4
      have Hb4:=Lib.hid (Hbr.out.trans hb4)
      clear hle4 hlf4 hb4 d1 Hins Hle2 Hbr hk1 e1 e2 e3 e4 e5 Hsr
      go_wp2_with fail
      refine wp_region_any (by kernel_rfl) ?_
      have hktt:=Hktt.out
      have htl:tt.length=M:=Htt.out
      have hcl1:(tt.take k).length≤90:=by rw [List.length_take,Htt.out];omega
      have hcl2:(tt.drop k).length≤90:=by rw [List.length_drop,Htt.out];omega
      refine wpAny_loose2 [69,70,71,72,73,74,75,76,11] Grow (Vs [is (.string ⟨tt.toArray⟩),is (.int .i64 (k:Int)),is (.string ⟨(tt.take k).toArray⟩),is (.string ⟨(tt.take k++ [97]).toArray⟩),is (.string ⟨tt.toArray⟩),is (.int .i64 (k:Int)),is (.string ⟨(tt.drop k).toArray⟩),is (.string ⟨(insN tt k 97).toArray⟩),is (.string ⟨(insN tt k 97).toArray⟩)]) _ _ rfl (by kernel_rfl) (Below.refl _ _) (fun _ _=>Grow.trans) (stb_all (by repeat' (first | exact stb_is _ | exact stb_row _ _ _ |(refine List.forall_mem_cons.2 ⟨?_,?_⟩)|(intro p hp;cases hp)))) ?_ ?_
      · refine steps_of ?_
        refine steps_cons (step_on rfl rfl fun ev _ _ _ _ hold _ _ _ _ hK=>?_) ?_
        · have e11:ev (.tmp 11)=.string ⟨tt.toArray⟩:=hold 11 (by kernel_rfl)
          go_simp
          exact hK _ _ (Below.refl _ _) rfl
        refine steps_cons (step_on rfl rfl fun ev _ _ _ _ hold _ _ _ _ hK=>?_) ?_
        · have e16:ev (.tmp 16)=.int .i64 (k:Int):=hold 16 (by kernel_rfl)
          go_simp
          exact hK _ _ (Below.refl _ _) rfl
        refine steps_cons (step_on rfl rfl fun _ w5 _ _ _ _ hval _ _ _ hK=>?_) ?_
        · have e69:_=_:=hval 0 69 (by kernel_rfl) rfl
          have e70:_=_:=hval 1 70 (by kernel_rfl) rfl
          have q1:=ts_sub_hi tt w5 k hktt
          have q2:=ts_at_hi tt w5 k hktt
          go_simp
          exact hK _ _ (Below.refl _ _) rfl
        refine steps_cons (step_on rfl rfl fun _ _ _ _ _ _ hval _ _ _ hK=>?_) ?_
        · have e71:_=_:=hval 2 71 (by kernel_rfl) rfl
          go_simp
          rw [if_neg (by omega)]
          exact hK _ _ (Below.refl _ _) (ts_cat _ [97])
        refine steps_cons (step_on rfl rfl fun ev _ _ _ _ hold _ _ _ _ hK=>?_) ?_
        · have e11:ev (.tmp 11)=.string ⟨tt.toArray⟩:=hold 11 (by kernel_rfl)
          go_simp
          exact hK _ _ (Below.refl _ _) rfl
        refine steps_cons (step_on rfl rfl fun ev _ _ _ _ hold _ _ _ _ hK=>?_) ?_
        · have e16:ev (.tmp 16)=.int .i64 (k:Int):=hold 16 (by kernel_rfl)
          go_simp
          exact hK _ _ (Below.refl _ _) rfl
        refine steps_cons (step_on rfl rfl fun _ w5 _ _ _ _ hval _ _ _ hK=>?_) ?_
        · have e73:_=_:=hval 4 73 (by kernel_rfl) rfl
          have e74:_=_:=hval 5 74 (by kernel_rfl) rfl
          have q1:=ts_sub_lo tt w5 k hktt
          have q2:=ts_at_lo tt w5 k hktt
          go_simp
          exact hK _ _ (Below.refl _ _) rfl
        refine steps_cons (step_on rfl rfl fun _ _ _ _ _ _ hval _ _ _ hK=>?_) ?_
        · have e72:_=_:=hval 3 72 (by kernel_rfl) rfl
          have e75:_=_:=hval 6 75 (by kernel_rfl) rfl
          go_simp
          rw [if_neg (by omega)]
          exact hK _ _ (Below.refl _ _) ((ts_cat _ _).trans (by unfold insN;rw [List.append_assoc];rfl))
        refine steps_cons (step_on rfl rfl fun _ _ _ _ _ _ hval _ _ _ hK=>?_) ?_
        · have e76:_=_:=hval 7 76 (by kernel_rfl) rfl
          go_simp
          exact hK _ _ (Below.refl _ _) rfl
        exact steps_nil
      · intro ev w6 hS hval
        have e11:ev (.tmp 11)=.string ⟨(insN tt k 97).toArray⟩:=hval 8 11 rfl
        simp only [putsOf,List.foldl_cons,List.foldl_nil,Act.put,List.setIfInBounds_toArray,List.set_cons_zero,List.set_cons_succ]
        rw [e11]
        clear hval
        replace hS:Below w4.heap.size w4 w6:=⟨hS.os,hS.tape,hS.output,hS.size,hS.block⟩
        have hb5:=Hb4.out.trans (Below.mono hS (by have:=Hb4.out.size;have:=HB1.out;omega))
        have hl5:=Hle4.out.vis (Vis.of_below hS)
        have Hb5:=Lib.hid hb5
        have Hl5:=Lib.hid hl5
        clear hb5 hl5 hS
        go_wp2_with fail
        go_roundw
        case rel=>exact ⟨j+1,insN tt k 97,own4,by omega,by omega,by go_num,rfl,by rw [insN_len _ _ Hktt.out,Htt.out,←HM.out];omega,Hl5.out,Hb5.out⟩
        case measure=>simp [intOf];omega
    · have hd1:(decide ((j:Int) < (mq:Int))&&decide ((j:Int) < 10))=false:=by
         rw [Bool.and_eq_false_iff]
         by_cases h0:j < mq
         · exact .inr (decide_eq_false fun e=>hgo ⟨h0,by omega⟩)
         · exact .inl (decide_eq_false fun e=>h0 (by omega))
      by_cases h0:j < mq
      · have h10:¬j < 10:=fun e=>hgo ⟨h0,e⟩
        clear hgo hd1
        obtain ⟨W,hW⟩:∃W,W=wr:=⟨_,rfl⟩
        subst hW
        have hqW:=Hq.out.below Hbr.out
        have sq:=strOfT hqW c2
        obtain ⟨L,hL⟩:∃L,findB tt q=L:=⟨_,rfl⟩
        obtain ⟨NL,hNL⟩:∃NL,L.length=NL:=⟨_,rfl⟩
        have hNLb:NL≤100:=by
         have:=findTo_le tt q (tt.length+1 - q.length)
         rw [←hNL,←hL]
         unfold findB
         rw [Htt.out] at*
         omega
        have HL:=Lib.hid hL
        have HNL:=Lib.hid hNL
        clear hqW hL hNL
        go_wp2_with fail
        refine (RefPlaces_any tt q M n2 L NL W Htt.out Hq2.out HL.out HNL.out (by omega) (by omega)).mono ?_
        rintro e W2 ⟨A5,c5,rfl,hm5,hb5⟩
        have Hm5:=Lib.hid hm5
        clear sq hm5
        rcases Nat.eq_zero_or_pos NL with hz0 | hz0
        · subst hz0
          have hLn:L= []:=List.eq_nil_of_length_eq_zero HNL.out
          have hf:firstPl L=-1:=by rw [hLn];rfl
          have Hf:=Lib.hid hf
          clear hLn hf
          go_wp2_with fail
          refine (Told14_any _).mono ?_
          rintro e W3 ⟨rfl,hb6⟩
          have hk6:=hb5.trans (hb6.mono hb5.size)
          have Hle6:=Lib.hid (Hle2.out.vis (Vis.of_below hk6))
          have Hm6:=Lib.hid (Hm5.out.below hb6)
          have hsz6:B1≤W3.heap.size:=by have:=Hsr.out;have:=hk6.size;omega
          have hbW6:=Hbr.out.trans (hk6.mono Hsr.out)
          have Hb6:=Lib.hid hbW6
          have Hq6:=Lib.hid (Hq.out.below hbW6)
          have Hsz6:=Lib.hid hsz6
          clear hb6 hk6 hbW6 hsz6 hb5 Hm5
          go_wp2_with fail
          have hbP:Below W3.heap.size W3 (W3.alloc (.cells #[.slice A2 n2 c2] 23)):=(Below.refl _ _).alloc (Nat.le_refl _) _
          have hqP:=(Hq6.out.below (Below.mono hbP Hsz6.out))
          refine (All_any B1 gl r tt _ 1 1 _ [⟨A2,n2,c2,q⟩] q (by simp [catS]) _ ((Hle6.out.vis (Vis.of_below hbP)).tp (by rw [Htt.out];omega)) (Rd.made W3 23 1 1 #[.slice A2 n2 c2] rfl) (fun s hs=>by simp at hs;subst hs;exact hqP.mono (by have:=hbP.size;have:=Hsz6.out;omega)) (Nat.le_refl _) (by omega) (by rw [Hq2.out];omega)).mono ?_
          rintro e W4 ⟨A8,c8,rfl,hm8,hv8⟩
          rw [placesT_find,HL.out,HNL.out] at hm8⊢
          have hv7:VB B1 W3 W4:=(VisK.of_below hbP).trans hv8
          have Hle7:=Lib.hid (Hle6.out.vis hv7.1)
          have Hb7:=Lib.hid (Hb6.out.trans (VB.to_below hv7 Hsz6.out))
          have Hm7:=Lib.hid (hv7.1.made Hm6.out (by decide) (by decide))
          have Hm8:=Lib.hid hm8
          have Hsz7:=Lib.hid (show B1≤W4.heap.size by have:=hv7.1.size;have:=Hsz6.out;omega)
          clear hv7 hv8 hm8 hbP hqP Hle6 Hb6 Hm6 Hq6 Hsz6
          go_wp2_with fail
          refine (refSame_any _ _ _ _ _ _ _ _ L L _ Hm8.out.rd Hm7.out.rd (by omega) (by omega)).mono ?_
          rintro e W5 ⟨rfl,hb9⟩
          have hd9:decide (L=L)=true:=decide_eq_true rfl
          rw [hd9]
          have Hle9:=Lib.hid (Hle7.out.vis (Vis.of_below hb9))
          have hbW9:=Hb7.out.trans (hb9.mono Hsz7.out)
          have Hb9:=Lib.hid hbW9
          have Hq9:=Lib.hid (Hq.out.below hbW9)
          have Hsz9:=Lib.hid (show B1≤W5.heap.size by have:=hb9.size;have:=Hsz7.out;omega)
          clear hb9 hbW9 Hle7 Hb7 Hm7 Hm8 Hsz7
          go_wp2_with fail
          have hbP:Below W5.heap.size W5 (W5.alloc (.cells #[.slice A2 n2 c2] 23)):=(Below.refl _ _).alloc (Nat.le_refl _) _
          have hqP:=(Hq9.out.below (Below.mono hbP Hsz9.out))
          refine (First_any B1 gl r tt _ 1 1 _ [⟨A2,n2,c2,q⟩] q (by simp [catS]) _ ((Hle9.out.vis (Vis.of_below hbP)).tp (by rw [Htt.out];omega)) (Rd.made W5 23 1 1 #[.slice A2 n2 c2] rfl) (fun s hs=>by simp at hs;subst hs;exact hqP.mono (by have:=hbP.size;have:=Hsz9.out;omega)) (Nat.le_refl _) (by omega) (by rw [Hq2.out];omega)).mono ?_
          rintro e W6 ⟨rfl,hv9⟩
          rw [placesT_find,HL.out,Hf.out]
          have Hb10:=Lib.hid (Hb9.out.trans (VB.to_below ((VisK.of_below hbP).trans hv9) Hsz9.out))
          clear hv9 hbP hqP Hle9 Hb9 Hq9 Hsz9
          go_wp2_with fail
          go_ret
          exact ⟨rfl,Hb0A.out.trans (Below.mono (B':=w.heap.size) (HB1.out ▸ Hb10.out) Hb0A.out.size)⟩
        · obtain ⟨b5,o5,u5,rfl,hbl5,hu5,d5⟩:=Hm5.out.rd.get hz0
          obtain ⟨a5,ha5⟩:∃a5,L[0]?=some a5:=⟨_,List.getElem?_eq_getElem (by rw [HNL.out];exact hz0)⟩
          rw [List.getElem?_map,ha5] at hu5
          simp only [Option.map_some,Option.some.injEq] at hu5
          subst hu5
          unfold sv at d5
          rw [Nat.add_zero] at d5
          have hf:firstPl L=(a5:Int):=by
           cases L with
           | nil=>simp at ha5
           | cons y l=>simp at ha5;subst ha5;rfl
          have Hf:=Lib.hid hf
          have g1:¬((NL:Int)=0):=by omega
          have g2:(0:Int) < (NL:Int):=by omega
          have g3:decide (0 < NL)=true:=decide_eq_true hz0
          clear hf ha5
          go_wp2_with fail
          refine (Told14_any _).mono ?_
          rintro e W3 ⟨rfl,hb6⟩
          have hk6:=hb5.trans (hb6.mono hb5.size)
          have Hle6:=Lib.hid (Hle2.out.vis (Vis.of_below hk6))
          have Hm6:=Lib.hid (Hm5.out.below hb6)
          have hsz6:B1≤W3.heap.size:=by have:=Hsr.out;have:=hk6.size;omega
          have hbW6:=Hbr.out.trans (hk6.mono Hsr.out)
          have Hb6:=Lib.hid hbW6
          have Hq6:=Lib.hid (Hq.out.below hbW6)
          have Hsz6:=Lib.hid hsz6
          clear hb6 hk6 hbW6 hsz6 hb5 Hm5
          go_wp2_with fail
          have hbP:Below W3.heap.size W3 (W3.alloc (.cells #[.slice A2 n2 c2] 23)):=(Below.refl _ _).alloc (Nat.le_refl _) _
          have hqP:=(Hq6.out.below (Below.mono hbP Hsz6.out))
          refine (All_any B1 gl r tt _ 1 1 _ [⟨A2,n2,c2,q⟩] q (by simp [catS]) _ ((Hle6.out.vis (Vis.of_below hbP)).tp (by rw [Htt.out];omega)) (Rd.made W3 23 1 1 #[.slice A2 n2 c2] rfl) (fun s hs=>by simp at hs;subst hs;exact hqP.mono (by have:=hbP.size;have:=Hsz6.out;omega)) (Nat.le_refl _) (by omega) (by rw [Hq2.out];omega)).mono ?_
          rintro e W4 ⟨A8,c8,rfl,hm8,hv8⟩
          rw [placesT_find,HL.out,HNL.out] at hm8⊢
          have hv7:VB B1 W3 W4:=(VisK.of_below hbP).trans hv8
          have Hle7:=Lib.hid (Hle6.out.vis hv7.1)
          have Hb7:=Lib.hid (Hb6.out.trans (VB.to_below hv7 Hsz6.out))
          have Hm7:=Lib.hid (hv7.1.made Hm6.out (by decide) (by decide))
          have Hm8:=Lib.hid hm8
          have Hsz7:=Lib.hid (show B1≤W4.heap.size by have:=hv7.1.size;have:=Hsz6.out;omega)
          clear hv7 hv8 hm8 hbP hqP Hle6 Hb6 Hm6 Hq6 Hsz6
          go_wp2_with fail
          refine (refSame_any _ _ _ _ _ _ _ _ L L _ Hm8.out.rd Hm7.out.rd (by omega) (by omega)).mono ?_
          rintro e W5 ⟨rfl,hb9⟩
          have hd9:decide (L=L)=true:=decide_eq_true rfl
          rw [hd9]
          have Hle9:=Lib.hid (Hle7.out.vis (Vis.of_below hb9))
          have hbW9:=Hb7.out.trans (hb9.mono Hsz7.out)
          have Hb9:=Lib.hid hbW9
          have Hq9:=Lib.hid (Hq.out.below hbW9)
          have Hsz9:=Lib.hid (show B1≤W5.heap.size by have:=hb9.size;have:=Hsz7.out;omega)
          clear hb9 hbW9 Hle7 Hb7 Hm7 Hm8 Hsz7
          go_wp2_with fail
          have hbP:Below W5.heap.size W5 (W5.alloc (.cells #[.slice A2 n2 c2] 23)):=(Below.refl _ _).alloc (Nat.le_refl _) _
          have hqP:=(Hq9.out.below (Below.mono hbP Hsz9.out))
          refine (First_any B1 gl r tt _ 1 1 _ [⟨A2,n2,c2,q⟩] q (by simp [catS]) _ ((Hle9.out.vis (Vis.of_below hbP)).tp (by rw [Htt.out];omega)) (Rd.made W5 23 1 1 #[.slice A2 n2 c2] rfl) (fun s hs=>by simp at hs;subst hs;exact hqP.mono (by have:=hbP.size;have:=Hsz9.out;omega)) (Nat.le_refl _) (by omega) (by rw [Hq2.out];omega)).mono ?_
          rintro e W6 ⟨rfl,hv9⟩
          rw [placesT_find,HL.out,Hf.out]
          have Hb10:=Lib.hid (Hb9.out.trans (VB.to_below ((VisK.of_below hbP).trans hv9) Hsz9.out))
          clear hv9 hbP hqP Hle9 Hb9 Hq9 Hsz9
          go_wp2_with fail
          go_ret
          exact ⟨rfl,Hb0A.out.trans (Below.mono (B':=w.heap.size) (HB1.out ▸ Hb10.out) Hb0A.out.size)⟩
      · have h10:¬j < mq:=h0
        clear hgo hd1
        obtain ⟨W,hW⟩:∃W,W=wr:=⟨_,rfl⟩
        subst hW
        have hqW:=Hq.out.below Hbr.out
        have sq:=strOfT hqW c2
        obtain ⟨L,hL⟩:∃L,findB tt q=L:=⟨_,rfl⟩
        obtain ⟨NL,hNL⟩:∃NL,L.length=NL:=⟨_,rfl⟩
        have hNLb:NL≤100:=by
         have:=findTo_le tt q (tt.length+1 - q.length)
         rw [←hNL,←hL]
         unfold findB
         rw [Htt.out] at*
         omega
        have HL:=Lib.hid hL
        have HNL:=Lib.hid hNL
        clear hqW hL hNL
        go_wp2_with fail
        refine (RefPlaces_any tt q M n2 L NL W Htt.out Hq2.out HL.out HNL.out (by omega) (by omega)).mono ?_
        rintro e W2 ⟨A5,c5,rfl,hm5,hb5⟩
        have Hm5:=Lib.hid hm5
        clear sq hm5
        rcases Nat.eq_zero_or_pos NL with hz0 | hz0
        · subst hz0
          have hLn:L= []:=List.eq_nil_of_length_eq_zero HNL.out
          have hf:firstPl L=-1:=by rw [hLn];rfl
          have Hf:=Lib.hid hf
          clear hLn hf
          go_wp2_with fail
          refine (Told14_any _).mono ?_
          rintro e W3 ⟨rfl,hb6⟩
          have hk6:=hb5.trans (hb6.mono hb5.size)
          have Hle6:=Lib.hid (Hle2.out.vis (Vis.of_below hk6))
          have Hm6:=Lib.hid (Hm5.out.below hb6)
          have hsz6:B1≤W3.heap.size:=by have:=Hsr.out;have:=hk6.size;omega
          have hbW6:=Hbr.out.trans (hk6.mono Hsr.out)
          have Hb6:=Lib.hid hbW6
          have Hq6:=Lib.hid (Hq.out.below hbW6)
          have Hsz6:=Lib.hid hsz6
          clear hb6 hk6 hbW6 hsz6 hb5 Hm5
          go_wp2_with fail
          have hbP:Below W3.heap.size W3 (W3.alloc (.cells #[.slice A2 n2 c2] 23)):=(Below.refl _ _).alloc (Nat.le_refl _) _
          have hqP:=(Hq6.out.below (Below.mono hbP Hsz6.out))
          refine (All_any B1 gl r tt _ 1 1 _ [⟨A2,n2,c2,q⟩] q (by simp [catS]) _ ((Hle6.out.vis (Vis.of_below hbP)).tp (by rw [Htt.out];omega)) (Rd.made W3 23 1 1 #[.slice A2 n2 c2] rfl) (fun s hs=>by simp at hs;subst hs;exact hqP.mono (by have:=hbP.size;have:=Hsz6.out;omega)) (Nat.le_refl _) (by omega) (by rw [Hq2.out];omega)).mono ?_
          rintro e W4 ⟨A8,c8,rfl,hm8,hv8⟩
          rw [placesT_find,HL.out,HNL.out] at hm8⊢
          have hv7:VB B1 W3 W4:=(VisK.of_below hbP).trans hv8
          have Hle7:=Lib.hid (Hle6.out.vis hv7.1)
          have Hb7:=Lib.hid (Hb6.out.trans (VB.to_below hv7 Hsz6.out))
          have Hm7:=Lib.hid (hv7.1.made Hm6.out (by decide) (by decide))
          have Hm8:=Lib.hid hm8
          have Hsz7:=Lib.hid (show B1≤W4.heap.size by have:=hv7.1.size;have:=Hsz6.out;omega)
          clear hv7 hv8 hm8 hbP hqP Hle6 Hb6 Hm6 Hq6 Hsz6
          go_wp2_with fail
          refine (refSame_any _ _ _ _ _ _ _ _ L L _ Hm8.out.rd Hm7.out.rd (by omega) (by omega)).mono ?_
          rintro e W5 ⟨rfl,hb9⟩
          have hd9:decide (L=L)=true:=decide_eq_true rfl
          rw [hd9]
          have Hle9:=Lib.hid (Hle7.out.vis (Vis.of_below hb9))
          have hbW9:=Hb7.out.trans (hb9.mono Hsz7.out)
          have Hb9:=Lib.hid hbW9
          have Hq9:=Lib.hid (Hq.out.below hbW9)
          have Hsz9:=Lib.hid (show B1≤W5.heap.size by have:=hb9.size;have:=Hsz7.out;omega)
          clear hb9 hbW9 Hle7 Hb7 Hm7 Hm8 Hsz7
          go_wp2_with fail
          have hbP:Below W5.heap.size W5 (W5.alloc (.cells #[.slice A2 n2 c2] 23)):=(Below.refl _ _).alloc (Nat.le_refl _) _
          have hqP:=(Hq9.out.below (Below.mono hbP Hsz9.out))
          refine (First_any B1 gl r tt _ 1 1 _ [⟨A2,n2,c2,q⟩] q (by simp [catS]) _ ((Hle9.out.vis (Vis.of_below hbP)).tp (by rw [Htt.out];omega)) (Rd.made W5 23 1 1 #[.slice A2 n2 c2] rfl) (fun s hs=>by simp at hs;subst hs;exact hqP.mono (by have:=hbP.size;have:=Hsz9.out;omega)) (Nat.le_refl _) (by omega) (by rw [Hq2.out];omega)).mono ?_
          rintro e W6 ⟨rfl,hv9⟩
          rw [placesT_find,HL.out,Hf.out]
          have Hb10:=Lib.hid (Hb9.out.trans (VB.to_below ((VisK.of_below hbP).trans hv9) Hsz9.out))
          clear hv9 hbP hqP Hle9 Hb9 Hq9 Hsz9
          go_wp2_with fail
          go_ret
          exact ⟨rfl,Hb0A.out.trans (Below.mono (B':=w.heap.size) (HB1.out ▸ Hb10.out) Hb0A.out.size)⟩
        · obtain ⟨b5,o5,u5,rfl,hbl5,hu5,d5⟩:=Hm5.out.rd.get hz0
          obtain ⟨a5,ha5⟩:∃a5,L[0]?=some a5:=⟨_,List.getElem?_eq_getElem (by rw [HNL.out];exact hz0)⟩
          rw [List.getElem?_map,ha5] at hu5
          simp only [Option.map_some,Option.some.injEq] at hu5
          subst hu5
          unfold sv at d5
          rw [Nat.add_zero] at d5
          have hf:firstPl L=(a5:Int):=by
           cases L with
           | nil=>simp at ha5
           | cons y l=>simp at ha5;subst ha5;rfl
          have Hf:=Lib.hid hf
          have g1:¬((NL:Int)=0):=by omega
          have g2:(0:Int) < (NL:Int):=by omega
          have g3:decide (0 < NL)=true:=decide_eq_true hz0
          clear hf ha5
          go_wp2_with fail
          refine (Told14_any _).mono ?_
          rintro e W3 ⟨rfl,hb6⟩
          have hk6:=hb5.trans (hb6.mono hb5.size)
          have Hle6:=Lib.hid (Hle2.out.vis (Vis.of_below hk6))
          have Hm6:=Lib.hid (Hm5.out.below hb6)
          have hsz6:B1≤W3.heap.size:=by have:=Hsr.out;have:=hk6.size;omega
          have hbW6:=Hbr.out.trans (hk6.mono Hsr.out)
          have Hb6:=Lib.hid hbW6
          have Hq6:=Lib.hid (Hq.out.below hbW6)
          have Hsz6:=Lib.hid hsz6
          clear hb6 hk6 hbW6 hsz6 hb5 Hm5
          go_wp2_with fail
          have hbP:Below W3.heap.size W3 (W3.alloc (.cells #[.slice A2 n2 c2] 23)):=(Below.refl _ _).alloc (Nat.le_refl _) _
          have hqP:=(Hq6.out.below (Below.mono hbP Hsz6.out))
          refine (All_any B1 gl r tt _ 1 1 _ [⟨A2,n2,c2,q⟩] q (by simp [catS]) _ ((Hle6.out.vis (Vis.of_below hbP)).tp (by rw [Htt.out];omega)) (Rd.made W3 23 1 1 #[.slice A2 n2 c2] rfl) (fun s hs=>by simp at hs;subst hs;exact hqP.mono (by have:=hbP.size;have:=Hsz6.out;omega)) (Nat.le_refl _) (by omega) (by rw [Hq2.out];omega)).mono ?_
          rintro e W4 ⟨A8,c8,rfl,hm8,hv8⟩
          rw [placesT_find,HL.out,HNL.out] at hm8⊢
          have hv7:VB B1 W3 W4:=(VisK.of_below hbP).trans hv8
          have Hle7:=Lib.hid (Hle6.out.vis hv7.1)
          have Hb7:=Lib.hid (Hb6.out.trans (VB.to_below hv7 Hsz6.out))
          have Hm7:=Lib.hid (hv7.1.made Hm6.out (by decide) (by decide))
          have Hm8:=Lib.hid hm8
          have Hsz7:=Lib.hid (show B1≤W4.heap.size by have:=hv7.1.size;have:=Hsz6.out;omega)
          clear hv7 hv8 hm8 hbP hqP Hle6 Hb6 Hm6 Hq6 Hsz6
          go_wp2_with fail
          refine (refSame_any _ _ _ _ _ _ _ _ L L _ Hm8.out.rd Hm7.out.rd (by omega) (by omega)).mono ?_
          rintro e W5 ⟨rfl,hb9⟩
          have hd9:decide (L=L)=true:=decide_eq_true rfl
          rw [hd9]
          have Hle9:=Lib.hid (Hle7.out.vis (Vis.of_below hb9))
          have hbW9:=Hb7.out.trans (hb9.mono Hsz7.out)
          have Hb9:=Lib.hid hbW9
          have Hq9:=Lib.hid (Hq.out.below hbW9)
          have Hsz9:=Lib.hid (show B1≤W5.heap.size by have:=hb9.size;have:=Hsz7.out;omega)
          clear hb9 hbW9 Hle7 Hb7 Hm7 Hm8 Hsz7
          go_wp2_with fail
          have hbP:Below W5.heap.size W5 (W5.alloc (.cells #[.slice A2 n2 c2] 23)):=(Below.refl _ _).alloc (Nat.le_refl _) _
          have hqP:=(Hq9.out.below (Below.mono hbP Hsz9.out))
          refine (First_any B1 gl r tt _ 1 1 _ [⟨A2,n2,c2,q⟩] q (by simp [catS]) _ ((Hle9.out.vis (Vis.of_below hbP)).tp (by rw [Htt.out];omega)) (Rd.made W5 23 1 1 #[.slice A2 n2 c2] rfl) (fun s hs=>by simp at hs;subst hs;exact hqP.mono (by have:=hbP.size;have:=Hsz9.out;omega)) (Nat.le_refl _) (by omega) (by rw [Hq2.out];omega)).mono ?_
          rintro e W6 ⟨rfl,hv9⟩
          rw [placesT_find,HL.out,Hf.out]
          have Hb10:=Lib.hid (Hb9.out.trans (VB.to_below ((VisK.of_below hbP).trans hv9) Hsz9.out))
          clear hv9 hbP hqP Hle9 Hb9 Hq9 Hsz9
          go_wp2_with fail
          go_ret
          exact ⟨rfl,Hb0A.out.trans (Below.mono (B':=w.heap.size) (HB1.out ▸ Hb10.out) Hb0A.out.size)⟩
end Go.Proofs.YtipaccakmndkgaaGreat
