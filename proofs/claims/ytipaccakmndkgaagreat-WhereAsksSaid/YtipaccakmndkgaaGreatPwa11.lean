/- The walks of block's Insert and Delete. Conditions: a place that is there; room for one bit more. -/
import Derived.Test.YtipaccakmndkgaaGreatPwa6
import Derived.Test.YtipaccakmndkgaaGreatPwa9
namespace Go.Proofs.YtipaccakmndkgaaGreat
open Go.RowKit
set_option linter.unusedVariables false
set_option linter.unusedSimpArgs false
def blkW (gb:Nat) (cs:Array Value):Value→World→Prop:=fun _ w=>Bk w gb 146 cs
theorem blkW_stb (gb:Nat) (cs:Array Value):Stb (blkW gb cs):=fun _ _ _ h hg=>Bk.below h hg (Bk.lt h)
def blk3 (n:Int) (u0 u1:Nat):Array Value:=#[.int .i64 n,.int .u64 (u0:Int),.int .u64 (u1:Int)]
theorem blk3_get (n:Int) (u0 u1 i:Nat) (hi:i < 2):(blk3 n u0 u1)[1+i]?=some (.int .u64 (((if i=0 then u0 else u1):Nat):Int)):=by
 obtain rfl | rfl:i=0∨i=1:=by omega
 · rfl
 · rfl
theorem blk3_set (n:Int) (u0 u1 y i:Nat) (hi:i < 2):(blk3 n u0 u1).setIfInBounds (1+i) (.int .u64 (y:Int))=blk3 n (if i=0 then y else u0) (if i=0 then u1 else y):=by
 obtain rfl | rfl:i=0∨i=1:=by omega
 · rfl
 · rfl
theorem blk3_lift {w:World} {gb:Nat} {n:Int} {u0 u1:Nat} (h:Bk w gb 146 (blk3 n u0 u1)) (m:Int):Bk (w.setCell ⟨gb,0,none⟩ (.int .i64 m)) gb 146 (blk3 m u0 u1):=h.set 0 _
structure InsI (l l':List Bool) (k:Nat) (b:Bool) (i a:Nat) (bb:Bool) (u0 u1:Nat):Prop where
 at0:i=0→k < 64∧a=k∧bb=b∧u0=w0 l∧u1=w1 l
 at1:i=1→a < 64∧u0=w0 l'∧putN u1 a bb=w1 l'∧u1 < 18446744073709551616
 at2:i=2→u0=w0 l'∧u1=w1 l'
 le:i≤2
set_option maxRecDepth 100000 in
set_option maxHeartbeats 4000000 in
theorem BlockInsert_any (gb:Nat) (l:List Bool) (k:Nat) (b:Bool) (w:World) (hb:Bk w gb 146 (blkC l)) (hl:l.length≤127) (hk:k≤l.length):
 Calls Tryz.prog 152 #[.pointer (some ⟨gb,0,none⟩),.int .i64 (k:Int),.bool b] w fun e w'=>e=.returned (.int .i64 0)∧Bk w' gb 146 (blkC (insN l k b))∧Keep (fun b=>b=gb) w w':=by
 obtain ⟨n,hn⟩:∃n,l.length=n:=⟨_,rfl⟩
 have hl':(insN l k b).length=n+1:=by rw [insN_len _ _ hk,hn]
 have hb3:Bk w gb 146 (blk3 (n:Int) (w0 l) (w1 l)):=by rw [←hn];exact hb
 have hfin:∀W,Bk W gb 146 (blk3 ((n+1:Nat):Int) (w0 (insN l k b)) (w1 (insN l k b)))→Bk W gb 146 (blkC (insN l k b)):=fun W h=>by
  unfold blkC
  rw [hl']
  exact h
 have h0l:=w0_lt l
 have h1l:=w1_lt l (by omega)
 have hstart:∃i0 a0:Nat,(k:Int)/ 64=(i0:Int)∧(k:Int)% 64=(a0:Int)∧InsI l (insN l k b) k b i0 a0 b (w0 l) (w1 l):=by
  by_cases c:k < 64
  · exact ⟨0,k,by omega,by omega,fun _=>⟨c,rfl,rfl,rfl,rfl⟩,fun e=>by omega,fun e=>by omega,by omega⟩
  · obtain ⟨e0,e1⟩:=put_hi l k b hk (by omega) (by omega)
    exact ⟨1,k - 64,by omega,by omega,fun e=>by omega,fun _=>⟨by omega,e0.symm,e1.symm,h1l⟩,fun e=>by omega,by omega⟩
 have hstep:∀i a bb u0 u1,i < 2→InsI l (insN l k b) k b i a bb u0 u1→a < 64∧(if i=0 then u0 else u1) < 18446744073709551616∧InsI l (insN l k b) k b (i+1) 0 ((if i=0 then u0 else u1).testBit 63) (if i=0 then putN u0 a bb else u0) (if i=0 then u1 else putN u1 a bb):=by
  intro i a bb u0 u1 hi h
  obtain rfl | rfl:i=0∨i=1:=by omega
  · obtain ⟨c1,rfl,rfl,rfl,rfl⟩:=h.at0 rfl
    obtain ⟨e0,e1⟩:=put_lo l a bb hk (by omega) c1
    have hb63:(w0 l).testBit 63=l.getD 63 false:=by rw [e0_bit];simp
    simp only [if_true,hb63]
    exact ⟨c1,h0l,fun e=>by omega,fun _=>⟨by omega,e0.symm,e1.symm,h1l⟩,fun e=>by omega,by omega⟩
  · obtain ⟨c1,c2,c3,c4⟩:=h.at1 rfl
    simp only [show ¬((1:Nat)=0) by omega,if_false]
    exact ⟨c1,c4,fun e=>by omega,fun e=>by omega,fun _=>⟨c2,c3⟩,by omega⟩
 obtain ⟨i0,a0,hi0,ha0,hI0⟩:=hstart
 have hkn:¬((k:Int) > (n:Int)):=by omega
 have hk0:decide ((k:Int) < 0)=false:=by simp
 have hn0:((n:Int)==128)=false:=by rw [beq_eq_false_iff_ne];omega
 have c0:w.cell? ⟨gb,0,none⟩=some (.int .i64 (n:Int)):=(hb3.cell 0).trans rfl
 have hgb:=hb3.lt
 have hn127:n≤127:=by omega
 have Hb3:=Lib.hid hb3
 have Hfin:=Lib.hid hfin
 have Hstep:=Lib.hid hstep
 have HI0:=Lib.hid hI0
 clear hb hb3 hfin h0l h1l hstep hI0 hl' hn hl hk
 go_enter Tryz.func152,Tryz.ntmps152
 go_wp2_with fail
 clear c0 hk0 hkn
 go_loopw [2,7,8] (fun x y z wr=>∃(i a:Nat) (bb:Bool) (u0 u1:Nat),x=.bool bb∧y=.int .i64 (a:Int)∧z=.int .i64 (i:Int)∧InsI l (insN l k b) k b i a bb u0 u1∧Bk wr gb 146 (blk3 (n:Int) u0 u1)∧Keep (fun b=>b=gb) w wr) (fun _ _ z _=>2 -(intOf z).toNat)
 case atStart=>exact ⟨i0,a0,b,_,_,rfl,rfl,rfl,HI0.out,Hb3.out,Keep.refl _ _⟩
 case round=>
  obtain ⟨i,pa,bb,u0,u1,rfl,rfl,rfl,hI,hbk,hkp⟩:=hrel
  by_cases hi2:i < 2
  · obtain ⟨hp64,hx64,hI'⟩:=Hstep.out i pa bb u0 u1 hi2 hI
    have hci:=blk3_get (n:Int) u0 u1 i hi2
    have hset:=fun y=>blk3_set (n:Int) u0 u1 y i hi2
    obtain ⟨x,hx⟩:∃x,(if i=0 then u0 else u1)=x:=⟨_,rfl⟩
    obtain ⟨y,hy⟩:∃y,putN x pa bb=y:=⟨_,rfl⟩
    obtain ⟨cs,hcs⟩:∃cs,blk3 (n:Int) u0 u1=cs:=⟨_,rfl⟩
    have hI2:InsI l (insN l k b) k b (i+1) 0 (x.testBit 63) (if i=0 then y else u0) (if i=0 then u1 else y):=by
        have h1:(if i=0 then putN u0 pa bb else u0)=if i=0 then y else u0:=by
         split
         · rw [←hy,←hx,if_pos (by assumption)]
         · rfl
        have h2:(if i=0 then u1 else putN u1 pa bb)=if i=0 then u1 else y:=by
         split
         · rfl
         · rw [←hy,←hx,if_neg (by assumption)]
        rw [hx,h1,h2] at hI'
        exact hI'
    rw [hx] at hci hx64
    rw [hcs] at hci hset hbk
    have hiI:(i:Int) < 2:=by omega
    have Hci:=Lib.hid hci
    have Hset:=Lib.hid hset
    have Hcs:=Lib.hid hbk
    have Hy:=Lib.hid hy
    have HI2:=Lib.hid hI2
    have Hkp:=Lib.hid hkp
    clear hI hI' hbk hkp hci hset hx hy hcs hI2
    go_wp2_with fail
    refine wp_region_any (by kernel_rfl) ?_
    refine wpAny_keep [38,39,40,41,42,43,44,45,46,47,48,37,49,50,51,52,53,2] (fun b=>b=gb) 17 [7,17] (fun w1=>Bk w1 gb 146 cs) (blkW gb (cs.setIfInBounds (1+i) (.int .u64 (y:Int)))) [is (.pointer (some ⟨gb,0,none⟩)),is (.int .i64 (i:Int)),is (.pointer (some ⟨gb,0,none⟩)),is (.int .i64 (i:Int)),is (.pointer (some ⟨gb,0,none⟩)),is (.pointer (some ⟨gb,1,none⟩)),is (.pointer (some ⟨gb,1+i,none⟩)),is (.int .u64 (x:Int)),is (.int .i64 (pa:Int)),is (.bool bb),is (.tuple #[.int .u64 (y:Int),.bool (x.testBit 63)]),is (.tuple #[.int .u64 (y:Int),.bool (x.testBit 63)]),is (.int .u64 (y:Int)),is (.bool (x.testBit 63)),is (.pointer (some ⟨gb,0,none⟩)),is (.pointer (some ⟨gb,1,none⟩)),is (.pointer (some ⟨gb,1+i,none⟩)),anyV,is (.bool (x.testBit 63))] _ _ rfl (by kernel_rfl) (by kernel_rfl) (Hcs.out) (fun w1 w2 h _ hg=>Bk.below h hg h.lt) (blkW_stb _ _) (by repeat' (first | exact stbk_is _ _ | exact stbk_any _ |(refine List.forall_mem_cons.2 ⟨?_,?_⟩)|(intro p hp;cases hp))) ?_ ?_
    · refine steps_of ?_
      refine steps_cons (step_on3 rfl rfl fun ev _ _ _ _ _ hold _ _ _ _ hK=>?_) ?_
      · have e0:ev (.tmp 0)=.pointer (some ⟨gb,0,none⟩):=hold 0 (by kernel_rfl)
        go_simp
        exact hK _ _ (kstep_grow (Below.refl _ _)) rfl
      refine steps_cons (step_on3 rfl rfl fun ev _ _ _ _ _ hold _ _ _ _ hK=>?_) ?_
      · have e8:ev (.tmp 8)=.int .i64 (i:Int):=hold 8 (by kernel_rfl)
        go_simp
        exact hK _ _ (kstep_grow (Below.refl _ _)) rfl
      refine steps_cons (step_on3 rfl rfl fun ev _ _ _ _ _ hold _ _ _ _ hK=>?_) ?_
      · have e0:ev (.tmp 0)=.pointer (some ⟨gb,0,none⟩):=hold 0 (by kernel_rfl)
        go_simp
        exact hK _ _ (kstep_grow (Below.refl _ _)) rfl
      refine steps_cons (step_on3 rfl rfl fun ev _ _ _ _ _ hold _ _ _ _ hK=>?_) ?_
      · have e8:ev (.tmp 8)=.int .i64 (i:Int):=hold 8 (by kernel_rfl)
        go_simp
        exact hK _ _ (kstep_grow (Below.refl _ _)) rfl
      refine steps_cons (step_on3 rfl rfl fun _ _ _ _ _ _ _ hval _ _ _ hK=>?_) ?_
      · have e40:_=_:=hval 2 40 (by kernel_rfl) rfl
        go_simp
        exact hK _ _ (kstep_grow (Below.refl _ _)) rfl
      refine steps_cons (step_on3 rfl rfl fun _ _ _ _ _ _ _ hval _ _ _ hK=>?_) ?_
      · have e42:_=_:=hval 4 42 (by kernel_rfl) rfl
        go_simp
        exact hK _ _ (kstep_grow (Below.refl _ _)) rfl
      refine steps_cons (step_on3 rfl rfl fun _ _ _ _ _ _ _ hval _ _ _ hK=>?_) ?_
      · have e43:_=_:=hval 5 43 (by kernel_rfl) rfl
        have e41:_=_:=hval 3 41 (by kernel_rfl) rfl
        go_simp
        exact hK _ _ (kstep_grow (Below.refl _ _)) rfl
      refine steps_cons (step_on3 rfl rfl fun _ w5 _ hU _ _ _ hval _ _ _ hK=>?_) ?_
      · have hpre:=hU rfl
        have e44:_=_:=hval 6 44 (by kernel_rfl) rfl
        have c0:w5.cell? ⟨gb,1+i,none⟩=some (.int .u64 (x:Int)):=(hpre.cell (1+i)).trans Hci.out
        go_simp
        exact hK _ _ (kstep_grow (Below.refl _ _)) rfl
      refine steps_cons (step_on3 rfl rfl fun ev _ _ _ _ _ hold _ _ _ _ hK=>?_) ?_
      · have e7:ev (.tmp 7)=.int .i64 (pa:Int):=hold 7 (by kernel_rfl)
        go_simp
        exact hK _ _ (kstep_grow (Below.refl _ _)) rfl
      refine steps_cons (step_on3 rfl rfl fun ev _ _ _ _ _ hold _ _ _ _ hK=>?_) ?_
      · have e2:ev (.tmp 2)=.bool bb:=hold 2 (by kernel_rfl)
        go_simp
        exact hK _ _ (kstep_grow (Below.refl _ _)) rfl
      refine steps_cons (step_on3 rfl rfl fun _ w5 _ _ _ _ _ hval _ _ _ hK=>?_) ?_
      · have e45:_=_:=hval 7 45 (by kernel_rfl) rfl
        have e46:_=_:=hval 8 46 (by kernel_rfl) rfl
        have e47:_=_:=hval 9 47 (by kernel_rfl) rfl
        go_simp
        refine (BPut_any x pa bb hx64 hp64 w5).mono ?_
        rintro e w8 ⟨rfl,rfl⟩
        rw [Hy.out]
        exact hK _ _ (kstep_grow (Below.refl _ _)) rfl
      refine steps_cons (step_on3 rfl rfl fun _ _ _ _ _ _ _ hval _ _ _ hK=>?_) ?_
      · have e48:_=_:=hval 10 48 (by kernel_rfl) rfl
        go_simp
        exact hK _ _ (kstep_grow (Below.refl _ _)) rfl
      refine steps_cons (step_on3 rfl rfl fun _ _ _ _ _ _ _ hval _ _ _ hK=>?_) ?_
      · have e37:_=_:=hval 11 37 (by kernel_rfl) rfl
        go_simp
        exact hK _ _ (kstep_grow (Below.refl _ _)) rfl
      refine steps_cons (step_on3 rfl rfl fun _ _ _ _ _ _ _ hval _ _ _ hK=>?_) ?_
      · have e37:_=_:=hval 11 37 (by kernel_rfl) rfl
        go_simp
        exact hK _ _ (kstep_grow (Below.refl _ _)) rfl
      refine steps_cons (step_on3 rfl rfl fun _ _ _ _ _ _ _ hval _ _ _ hK=>?_) ?_
      · have e38:_=_:=hval 0 38 (by kernel_rfl) rfl
        go_simp
        exact hK _ _ (kstep_grow (Below.refl _ _)) rfl
      refine steps_cons (step_on3 rfl rfl fun _ _ _ _ _ _ _ hval _ _ _ hK=>?_) ?_
      · have e51:_=_:=hval 14 51 (by kernel_rfl) rfl
        go_simp
        exact hK _ _ (kstep_grow (Below.refl _ _)) rfl
      refine steps_cons (step_on3 rfl rfl fun _ _ _ _ _ _ _ hval _ _ _ hK=>?_) ?_
      · have e52:_=_:=hval 15 52 (by kernel_rfl) rfl
        have e39:_=_:=hval 1 39 (by kernel_rfl) rfl
        go_simp
        exact hK _ _ (kstep_grow (Below.refl _ _)) rfl
      refine steps_cons (step_on3 rfl rfl fun _ w5 _ hU _ _ _ hval _ _ _ hK=>?_) ?_
      · have hpre:=hU rfl
        have e53:_=_:=hval 16 53 (by kernel_rfl) rfl
        have e49:_=_:=hval 12 49 (by kernel_rfl) rfl
        have c0:w5.cell? ⟨gb,1+i,none⟩=some (.int .u64 (x:Int)):=(hpre.cell (1+i)).trans Hci.out
        have f0:=hpre.frozen (1+i)
        go_simp
        exact hK (.bool true) _ (kstep_keep (Keep.setCell (F:=fun b=>b=gb) (Keep.refl _ _) (p:=⟨gb,1+i,none⟩) (.inl rfl) _)) (hpre.set (1+i) _)
      refine steps_cons (step_on3 rfl rfl fun _ _ _ _ _ _ _ hval _ _ _ hK=>?_) ?_
      · have e50:_=_:=hval 13 50 (by kernel_rfl) rfl
        go_simp
        exact hK _ _ (kstep_grow (Below.refl _ _)) rfl
      exact steps_nil
    · intro ev w6 hS hval hall
      replace hS:Keep (fun b=>b=gb) wr w6:=⟨hS.os,hS.tape,hS.output,hS.size,hS.block⟩
      have e2:ev (.tmp 2)=.bool (x.testBit 63):=hval 18 2 rfl
      obtain ⟨vJ,pJ⟩:∃vJ0,(blkW gb (cs.setIfInBounds (1+i) (.int .u64 (y:Int)))) vJ0 w6:=hall 17 (by decide)
      simp only [putsOf,List.foldl_cons,List.foldl_nil,Act.put,List.setIfInBounds_toArray,List.set_cons_zero,List.set_cons_succ]
      rw [e2]
      clear hval hall
      have hbk2:Bk w6 gb 146 _:=pJ
      rw [Hset.out] at hbk2
      have hkp2:=Hkp.out.trans hS
      have Hbk2:=Lib.hid hbk2
      have Hkp2:=Lib.hid hkp2
      clear hbk2 hkp2 pJ hS
      go_wp2_with fail
      go_roundw
      case rel=>exact ⟨i+1,0,_,_,_,rfl,rfl,by go_num,HI2.out,Hbk2.out,Hkp2.out⟩
      case measure=>simp [intOf];omega
  · obtain rfl:i=2:=by have:=hI.le;omega
    obtain ⟨rfl,rfl⟩:=hI.at2 rfl
    have c0:wr.cell? ⟨gb,0,none⟩=some (.int .i64 (n:Int)):=(hbk.cell 0).trans rfl
    have f0:=hbk.frozen 0
    have hgw:=hbk.lt
    have Hbk:=Lib.hid hbk
    have Hkp:=Lib.hid hkp
    clear hbk hkp hI
    have e1:IntKind.i64.wrap ((n:Int)+1)=((n+1:Nat):Int):=by rw [IntKind.wrap_i64];omega
    go_wp2_with fail
    go_ret
    exact ⟨rfl,Hfin.out _ (blk3_lift Hbk.out _),Keep.setCell (F:=fun b=>b=gb) Hkp.out (p:=⟨gb,0,none⟩) (.inl rfl) _⟩
set_option maxRecDepth 100000 in
set_option maxHeartbeats 4000000 in
theorem BlockDelete_any (gb:Nat) (l:List Bool) (k:Nat) (w:World) (hb:Bk w gb 146 (blkC l)) (hl:l.length≤128) (hk:k < l.length):
 Calls Tryz.prog 160 #[.pointer (some ⟨gb,0,none⟩),.int .i64 (k:Int)] w fun e w'=>e=.returned (.tuple #[.bool (l.getD k false),.int .i64 0])∧Bk w' gb 146 (blkC (delN l k))∧Keep (fun b=>b=gb) w w':=by
 have hhas:=BlockHas_any gb l k w hb hk
 obtain ⟨n,hn⟩:∃n,l.length=n:=⟨_,rfl⟩
 have hl':(delN l k).length+1=n:=by rw [delN_len _ hk,hn]
 have hb3:Bk w gb 146 (blk3 (n:Int) (w0 l) (w1 l)):=by rw [←hn];exact hb
 have hfin:∀W,Bk W gb 146 (blk3 ((n:Int) - 1) (w0 (delN l k)) (w1 (delN l k)))→Bk W gb 146 (blkC (delN l k)):=fun W h=>by
  unfold blkC
  rw [show (((delN l k).length:Nat):Int)=(n:Int) - 1 by omega]
  exact h
 have h0l:=w0_lt l
 have h1l:=w1_lt l hl
 obtain ⟨i0,a0,hi0,ha0,hi2,ha64,hke⟩:∃i0 a0:Nat,(k:Int)/ 64=(i0:Int)∧(k:Int)% 64=(a0:Int)∧i0 < 2∧a0 < 64∧k=64*i0+a0:=⟨k / 64,k % 64,by omega,by omega,by omega,by omega,by omega⟩
 have hlo:i0=0→w0 (delN l k)=cutN (w0 l) a0 ((w1 l).testBit 0)∧w1 (delN l k)=cutN (w1 l) 0 false∧(w0 l).testBit a0=l.getD k false:=fun e=>by
  have e2:k=a0:=by omega
  have h1:=cut_lo l k hk hl (by omega)
  rw [e1_bit,Nat.add_zero,←e2]
  refine ⟨h1.1,h1.2,?_⟩
  rw [e0_bit,decide_eq_true (by omega),Bool.true_and]
 have hhi:i0=1→w0 (delN l k)=w0 l∧w1 (delN l k)=cutN (w1 l) a0 false∧(w1 l).testBit a0=l.getD k false:=fun e=>by
  have e2:k - 64=a0:=by omega
  have h1:=cut_hi l k hk hl (by omega)
  rw [e2] at h1
  refine ⟨h1.1,h1.2,?_⟩
  rw [e1_bit]
  congr 1
  omega
 have hgb:=hb3.lt
 have hn128:n≤128:=by omega
 have hc1:0 < cutN 0 0 true:=by decide
 have Hb3:=Lib.hid hb3
 have Hfin:=Lib.hid hfin
 have Hlo:=Lib.hid hlo
 have Hhi:=Lib.hid hhi
 have H0l:=Lib.hid h0l
 have H1l:=Lib.hid h1l
 clear hb hb3 hfin h0l h1l hlo hhi hl' hn hl hk hc1 hke
 go_enter Tryz.func160,Tryz.ntmps160
 go_wp2_with fail
 refine hhas.mono ?_
 rintro e wz ⟨rfl,hbw⟩
 have hb1:=Hb3.out.below hbw hgb
 have hkp1:Keep (fun b=>b=gb) w wz:=Keep.of_below hbw
 have Hb1:=Lib.hid hb1
 have Hkp1:=Lib.hid hkp1
 clear hhas hbw hb1 hkp1 Hb3
 go_wp2_with fail
 go_loopw [7,8] (fun x z wr=>∃(i u1:Nat) (bb:Bool),x=.bool bb∧z=.int .i64 (i:Int)∧i0≤i∧i < 2∧(i=1→bb=false∧u1=w1 l)∧(i=0→bb=(w1 l).testBit 0∧u1=cutN (w1 l) 0 false)∧Bk wr gb 146 (blk3 (n:Int) (w0 l) u1)∧Keep (fun b=>b=gb) w wr) (fun _ z _=>(intOf z).toNat)
 case atStart=>exact ⟨1,w1 l,false,rfl,rfl,by omega,by omega,fun _=>⟨rfl,rfl⟩,fun e=>by omega,Hb1.out,Hkp1.out⟩
 case round=>
  obtain ⟨i,u1,bb,rfl,rfl,hi0i,hi2',h1,h0,hbk,hkp⟩:=hrel
  by_cases hgt:i0 < i
  · obtain rfl:i=1:=by omega
    obtain ⟨rfl,rfl⟩:=h1 rfl
    obtain rfl:i0=0:=by omega
    obtain ⟨i,hi1⟩:∃i,i=1:=⟨1,rfl⟩
    have hci:=blk3_get (n:Int) (w0 l) (w1 l) i (by omega)
    have hset:=fun y=>blk3_set (n:Int) (w0 l) (w1 l) y i (by omega)
    rw [if_neg (by omega)] at hci
    obtain ⟨x,hx⟩:∃x,w1 l=x:=⟨_,rfl⟩
    obtain ⟨y,hy⟩:∃y,cutN x 0 false=y:=⟨_,rfl⟩
    obtain ⟨cs,hcs⟩:∃cs,blk3 (n:Int) (w0 l) (w1 l)=cs:=⟨_,rfl⟩
    have hx64:=H1l.out
    rw [hcs] at hci hset hbk
    rw [hx] at hci hx64
    have hyy:cutN (w1 l) 0 false=y:=by rw [hx];exact hy
    obtain ⟨tb,htb⟩:∃tb,x.testBit 0=tb:=⟨_,rfl⟩
    have hbit:(w1 l).testBit 0=tb:=by rw [hx];exact htb
    have Htb:=Lib.hid htb
    have hiI3:(i:Int) < 2:=by omega
    have Hci:=Lib.hid hci
    have Hset:=Lib.hid hset
    have Hcs:=Lib.hid hbk
    have Hy:=Lib.hid hy
    have Hyy:=Lib.hid hyy
    have Hbit:=Lib.hid hbit
    have Hkp:=Lib.hid hkp
    have hi2n:i < 2:=by omega
    have hiN:¬i=0:=by omega
    have hiI2:¬(i:Int)≤0:=by omega
    rw [show ((1:Nat):Int)=(i:Int) by omega]
    have Hi1:=Lib.hid hi1
    have hgi:¬(i:Int)≤0:=hiI2
    have hgi2:(i:Int) > 0:=by omega
    clear hbk hkp hci hset hx hy hyy hcs h1 h0 hbit hi1 hgt htb
    go_wp2_with fail
    refine wp_region_any (by kernel_rfl) ?_
    refine wpAny_keep [22,23,24,25,26,27,28,29,30,31,21,32,33,34,35,36,7] (fun b=>b=gb) 16 [7,16] (fun w1=>Bk w1 gb 146 cs) (blkW gb (cs.setIfInBounds (1+i) (.int .u64 (y:Int)))) [is (.pointer (some ⟨gb,0,none⟩)),is (.int .i64 (i:Int)),is (.pointer (some ⟨gb,0,none⟩)),is (.int .i64 (i:Int)),is (.pointer (some ⟨gb,0,none⟩)),is (.pointer (some ⟨gb,1,none⟩)),is (.pointer (some ⟨gb,1+i,none⟩)),is (.int .u64 (x:Int)),is (.bool false),is (.tuple #[.int .u64 (y:Int),.bool tb]),is (.tuple #[.int .u64 (y:Int),.bool tb]),is (.int .u64 (y:Int)),is (.bool tb),is (.pointer (some ⟨gb,0,none⟩)),is (.pointer (some ⟨gb,1,none⟩)),is (.pointer (some ⟨gb,1+i,none⟩)),anyV,is (.bool tb)] _ _ rfl (by kernel_rfl) (by kernel_rfl) (Hcs.out) (fun w1 w2 h _ hg=>Bk.below h hg h.lt) (blkW_stb _ _) (by repeat' (first | exact stbk_is _ _ | exact stbk_any _ |(refine List.forall_mem_cons.2 ⟨?_,?_⟩)|(intro p hp;cases hp))) ?_ ?_
    · refine steps_of ?_
      refine steps_cons (step_on3 rfl rfl fun ev _ _ _ _ _ hold _ _ _ _ hK=>?_) ?_
      · have e0:ev (.tmp 0)=.pointer (some ⟨gb,0,none⟩):=hold 0 (by kernel_rfl)
        go_simp
        exact hK _ _ (kstep_grow (Below.refl _ _)) rfl
      refine steps_cons (step_on3 rfl rfl fun ev _ _ _ _ _ hold _ _ _ _ hK=>?_) ?_
      · have e8:ev (.tmp 8)=.int .i64 (i:Int):=hold 8 (by kernel_rfl)
        go_simp
        exact hK _ _ (kstep_grow (Below.refl _ _)) rfl
      refine steps_cons (step_on3 rfl rfl fun ev _ _ _ _ _ hold _ _ _ _ hK=>?_) ?_
      · have e0:ev (.tmp 0)=.pointer (some ⟨gb,0,none⟩):=hold 0 (by kernel_rfl)
        go_simp
        exact hK _ _ (kstep_grow (Below.refl _ _)) rfl
      refine steps_cons (step_on3 rfl rfl fun ev _ _ _ _ _ hold _ _ _ _ hK=>?_) ?_
      · have e8:ev (.tmp 8)=.int .i64 (i:Int):=hold 8 (by kernel_rfl)
        go_simp
        exact hK _ _ (kstep_grow (Below.refl _ _)) rfl
      refine steps_cons (step_on3 rfl rfl fun _ _ _ _ _ _ _ hval _ _ _ hK=>?_) ?_
      · have e24:_=_:=hval 2 24 (by kernel_rfl) rfl
        go_simp
        exact hK _ _ (kstep_grow (Below.refl _ _)) rfl
      refine steps_cons (step_on3 rfl rfl fun _ _ _ _ _ _ _ hval _ _ _ hK=>?_) ?_
      · have e26:_=_:=hval 4 26 (by kernel_rfl) rfl
        go_simp
        exact hK _ _ (kstep_grow (Below.refl _ _)) rfl
      refine steps_cons (step_on3 rfl rfl fun _ _ _ _ _ _ _ hval _ _ _ hK=>?_) ?_
      · have e27:_=_:=hval 5 27 (by kernel_rfl) rfl
        have e25:_=_:=hval 3 25 (by kernel_rfl) rfl
        go_simp
        exact hK _ _ (kstep_grow (Below.refl _ _)) rfl
      refine steps_cons (step_on3 rfl rfl fun _ w5 _ hU _ _ _ hval _ _ _ hK=>?_) ?_
      · have hpre:=hU rfl
        have e28:_=_:=hval 6 28 (by kernel_rfl) rfl
        have c0:w5.cell? ⟨gb,1+i,none⟩=some (.int .u64 (x:Int)):=(hpre.cell (1+i)).trans Hci.out
        go_simp
        exact hK _ _ (kstep_grow (Below.refl _ _)) rfl
      refine steps_cons (step_on3 rfl rfl fun ev _ _ _ _ _ hold _ _ _ _ hK=>?_) ?_
      · have e7:ev (.tmp 7)=.bool false:=hold 7 (by kernel_rfl)
        go_simp
        exact hK _ _ (kstep_grow (Below.refl _ _)) rfl
      refine steps_cons (step_on3 rfl rfl fun _ w5 _ _ _ _ _ hval _ _ _ hK=>?_) ?_
      · have e29:_=_:=hval 7 29 (by kernel_rfl) rfl
        have e30:_=_:=hval 8 30 (by kernel_rfl) rfl
        go_simp
        refine (BCut_any x 0 false hx64 (by omega) w5).mono ?_
        rintro e w8 ⟨rfl,rfl⟩
        rw [Hy.out,Htb.out]
        exact hK _ _ (kstep_grow (Below.refl _ _)) rfl
      refine steps_cons (step_on3 rfl rfl fun _ _ _ _ _ _ _ hval _ _ _ hK=>?_) ?_
      · have e31:_=_:=hval 9 31 (by kernel_rfl) rfl
        go_simp
        exact hK _ _ (kstep_grow (Below.refl _ _)) rfl
      refine steps_cons (step_on3 rfl rfl fun _ _ _ _ _ _ _ hval _ _ _ hK=>?_) ?_
      · have e21:_=_:=hval 10 21 (by kernel_rfl) rfl
        go_simp
        exact hK _ _ (kstep_grow (Below.refl _ _)) rfl
      refine steps_cons (step_on3 rfl rfl fun _ _ _ _ _ _ _ hval _ _ _ hK=>?_) ?_
      · have e21:_=_:=hval 10 21 (by kernel_rfl) rfl
        go_simp
        exact hK _ _ (kstep_grow (Below.refl _ _)) rfl
      refine steps_cons (step_on3 rfl rfl fun _ _ _ _ _ _ _ hval _ _ _ hK=>?_) ?_
      · have e22:_=_:=hval 0 22 (by kernel_rfl) rfl
        go_simp
        exact hK _ _ (kstep_grow (Below.refl _ _)) rfl
      refine steps_cons (step_on3 rfl rfl fun _ _ _ _ _ _ _ hval _ _ _ hK=>?_) ?_
      · have e34:_=_:=hval 13 34 (by kernel_rfl) rfl
        go_simp
        exact hK _ _ (kstep_grow (Below.refl _ _)) rfl
      refine steps_cons (step_on3 rfl rfl fun _ _ _ _ _ _ _ hval _ _ _ hK=>?_) ?_
      · have e35:_=_:=hval 14 35 (by kernel_rfl) rfl
        have e23:_=_:=hval 1 23 (by kernel_rfl) rfl
        go_simp
        exact hK _ _ (kstep_grow (Below.refl _ _)) rfl
      refine steps_cons (step_on3 rfl rfl fun _ w5 _ hU _ _ _ hval _ _ _ hK=>?_) ?_
      · have hpre:=hU rfl
        have e36:_=_:=hval 15 36 (by kernel_rfl) rfl
        have e32:_=_:=hval 11 32 (by kernel_rfl) rfl
        have c0:w5.cell? ⟨gb,1+i,none⟩=some (.int .u64 (x:Int)):=(hpre.cell (1+i)).trans Hci.out
        have f0:=hpre.frozen (1+i)
        go_simp
        exact hK (.bool true) _ (kstep_keep (Keep.setCell (F:=fun b=>b=gb) (Keep.refl _ _) (p:=⟨gb,1+i,none⟩) (.inl rfl) _)) (hpre.set (1+i) _)
      refine steps_cons (step_on3 rfl rfl fun _ _ _ _ _ _ _ hval _ _ _ hK=>?_) ?_
      · have e33:_=_:=hval 12 33 (by kernel_rfl) rfl
        go_simp
        exact hK _ _ (kstep_grow (Below.refl _ _)) rfl
      exact steps_nil
    · intro ev w6 hS hval hall
      replace hS:Keep (fun b=>b=gb) wr w6:=⟨hS.os,hS.tape,hS.output,hS.size,hS.block⟩
      have e7:ev (.tmp 7)=.bool tb:=hval 17 7 rfl
      obtain ⟨vJ,pJ⟩:∃vJ0,(blkW gb (cs.setIfInBounds (1+i) (.int .u64 (y:Int)))) vJ0 w6:=hall 16 (by decide)
      simp only [putsOf,List.foldl_cons,List.foldl_nil,Act.put,List.setIfInBounds_toArray,List.set_cons_zero,List.set_cons_succ]
      rw [e7]
      clear hval hall
      have hbk2:Bk w6 gb 146 _:=pJ
      rw [Hset.out,if_neg hiN,if_neg hiN] at hbk2
      have hkp2:=Hkp.out.trans hS
      have Hbk2:=Lib.hid hbk2
      have Hkp2:=Lib.hid hkp2
      have e1:IntKind.i64.wrap ((i:Int) - 1)=((0:Nat):Int):=by have:=Hi1.out;rw [IntKind.wrap_i64];omega
      clear hbk2 hkp2 pJ hS
      go_wp2_with fail
      go_roundw
      case rel=>exact ⟨0,_,_,rfl,rfl,by omega,by omega,fun e=>by omega,fun _=>⟨Hbit.out.symm,Hyy.out.symm⟩,Hbk2.out,Hkp2.out⟩
      case measure=>have:=Hi1.out;simp [intOf];omega
  · obtain rfl:i=i0:=by omega
    have hfin2:∃x:Nat,(blk3 (n:Int) (w0 l) u1)[1+i]?=some (.int .u64 (x:Int))∧x < 18446744073709551616∧(blk3 (n:Int) (w0 l) u1).setIfInBounds (1+i) (.int .u64 ((cutN x a0 bb:Nat):Int))=blk3 (n:Int) (w0 (delN l k)) (w1 (delN l k))∧x.testBit a0=l.getD k false:=by
        have hci:=blk3_get (n:Int) (w0 l) u1 i hi2'
        have hset:=fun y=>blk3_set (n:Int) (w0 l) u1 y i hi2'
        obtain hz | hz:i=0∨i=1:=by omega
        · obtain ⟨e1,e2⟩:=h0 hz
          obtain ⟨e3,e4,e5⟩:=Hlo.out hz
          rw [if_pos hz] at hci
          refine ⟨w0 l,hci,H0l.out,?_,e5⟩
          rw [hset,if_pos hz,if_pos hz,e3,e4,e1,e2]
        · obtain ⟨e1,e2⟩:=h1 hz
          obtain ⟨e3,e4,e5⟩:=Hhi.out hz
          have hz0:¬i=0:=by omega
          rw [if_neg hz0] at hci
          refine ⟨u1,hci,by rw [e2];exact H1l.out,?_,by rw [e2];exact e5⟩
          rw [hset,if_neg hz0,if_neg hz0,e3,e4,e1,e2]
    obtain ⟨x,hci,hx64,hset,hbit⟩:=hfin2
    obtain ⟨pa,hpa⟩:∃pa,a0=pa:=⟨_,rfl⟩
    subst hpa
    have hp64:=ha64
    obtain ⟨y,hy⟩:∃y,cutN x a0 bb=y:=⟨_,rfl⟩
    obtain ⟨cs,hcs⟩:∃cs,blk3 (n:Int) (w0 l) u1=cs:=⟨_,rfl⟩
    rw [hy] at hset
    rw [hcs] at hci hset hbk
    have Hci:=Lib.hid hci
    have Hset:=Lib.hid hset
    have Hcs:=Lib.hid hbk
    have Hy:=Lib.hid hy
    have Hbit:=Lib.hid hbit
    have Hkp:=Lib.hid hkp
    have hgtI:¬(i:Int) > (i:Int):=by omega
    have hiI3:(i:Int) < 2:=by omega
    have hwi:IntKind.i64.wrap (i:Int)=(i:Int):=by rw [IntKind.wrap_i64];omega
    have htm:((k:Int)).tmod 64=(a0:Int):=by rw [Int.tmod_eq_emod_of_nonneg (by omega)];exact ha0
    clear hbk hkp hci hset hy hcs h1 h0 hbit hgt
    go_wp2_with fail
    refine wp_region_any (by kernel_rfl) ?_
    refine wpAny_keep [38,39,40,41,42,43,44,45,46,47,48,49,50,51,37,52,53,54,55,56,7] (fun b=>b=gb) 20 [9,20] (fun w1=>Bk w1 gb 146 cs) (blkW gb (cs.setIfInBounds (1+i) (.int .u64 (y:Int)))) [is (.pointer (some ⟨gb,0,none⟩)),is (.int .i64 (k:Int)),is (.int .i64 (i:Int)),is (.pointer (some ⟨gb,0,none⟩)),is (.int .i64 (k:Int)),is (.int .i64 (i:Int)),is (.pointer (some ⟨gb,0,none⟩)),is (.pointer (some ⟨gb,1,none⟩)),is (.pointer (some ⟨gb,1+i,none⟩)),is (.int .u64 (x:Int)),is (.int .i64 (k:Int)),is (.int .i64 (a0:Int)),is (.bool bb),is (.tuple #[.int .u64 (y:Int),.bool (x.testBit a0)]),is (.tuple #[.int .u64 (y:Int),.bool (x.testBit a0)]),is (.int .u64 (y:Int)),is (.bool (x.testBit a0)),is (.pointer (some ⟨gb,0,none⟩)),is (.pointer (some ⟨gb,1,none⟩)),is (.pointer (some ⟨gb,1+i,none⟩)),anyV,is (.bool (x.testBit a0))] _ _ rfl (by kernel_rfl) (by kernel_rfl) (Hcs.out) (fun w1 w2 h _ hg=>Bk.below h hg h.lt) (blkW_stb _ _) (by repeat' (first | exact stbk_is _ _ | exact stbk_any _ |(refine List.forall_mem_cons.2 ⟨?_,?_⟩)|(intro p hp;cases hp))) ?_ ?_
    · refine steps_of ?_
      refine steps_cons (step_on3 rfl rfl fun ev _ _ _ _ _ hold _ _ _ _ hK=>?_) ?_
      · have e0:ev (.tmp 0)=.pointer (some ⟨gb,0,none⟩):=hold 0 (by kernel_rfl)
        go_simp
        exact hK _ _ (kstep_grow (Below.refl _ _)) rfl
      refine steps_cons (step_on3 rfl rfl fun ev _ _ _ _ _ hold _ _ _ _ hK=>?_) ?_
      · have e1:ev (.tmp 1)=.int .i64 (k:Int):=hold 1 (by kernel_rfl)
        go_simp
        exact hK _ _ (kstep_grow (Below.refl _ _)) rfl
      refine steps_cons (step_on3 rfl rfl fun _ _ _ _ _ _ _ hval _ _ _ hK=>?_) ?_
      · have e39:_=_:=hval 1 39 (by kernel_rfl) rfl
        go_simp
        exact hK _ _ (kstep_grow (Below.refl _ _)) rfl
      refine steps_cons (step_on3 rfl rfl fun ev _ _ _ _ _ hold _ _ _ _ hK=>?_) ?_
      · have e0:ev (.tmp 0)=.pointer (some ⟨gb,0,none⟩):=hold 0 (by kernel_rfl)
        go_simp
        exact hK _ _ (kstep_grow (Below.refl _ _)) rfl
      refine steps_cons (step_on3 rfl rfl fun ev _ _ _ _ _ hold _ _ _ _ hK=>?_) ?_
      · have e1:ev (.tmp 1)=.int .i64 (k:Int):=hold 1 (by kernel_rfl)
        go_simp
        exact hK _ _ (kstep_grow (Below.refl _ _)) rfl
      refine steps_cons (step_on3 rfl rfl fun _ _ _ _ _ _ _ hval _ _ _ hK=>?_) ?_
      · have e42:_=_:=hval 4 42 (by kernel_rfl) rfl
        go_simp
        exact hK _ _ (kstep_grow (Below.refl _ _)) rfl
      refine steps_cons (step_on3 rfl rfl fun _ _ _ _ _ _ _ hval _ _ _ hK=>?_) ?_
      · have e41:_=_:=hval 3 41 (by kernel_rfl) rfl
        go_simp
        exact hK _ _ (kstep_grow (Below.refl _ _)) rfl
      refine steps_cons (step_on3 rfl rfl fun _ _ _ _ _ _ _ hval _ _ _ hK=>?_) ?_
      · have e44:_=_:=hval 6 44 (by kernel_rfl) rfl
        go_simp
        exact hK _ _ (kstep_grow (Below.refl _ _)) rfl
      refine steps_cons (step_on3 rfl rfl fun _ _ _ _ _ _ _ hval _ _ _ hK=>?_) ?_
      · have e45:_=_:=hval 7 45 (by kernel_rfl) rfl
        have e43:_=_:=hval 5 43 (by kernel_rfl) rfl
        go_simp
        exact hK _ _ (kstep_grow (Below.refl _ _)) rfl
      refine steps_cons (step_on3 rfl rfl fun _ w5 _ hU _ _ _ hval _ _ _ hK=>?_) ?_
      · have hpre:=hU rfl
        have e46:_=_:=hval 8 46 (by kernel_rfl) rfl
        have c0:w5.cell? ⟨gb,1+i,none⟩=some (.int .u64 (x:Int)):=(hpre.cell (1+i)).trans Hci.out
        go_simp
        exact hK _ _ (kstep_grow (Below.refl _ _)) rfl
      refine steps_cons (step_on3 rfl rfl fun ev _ _ _ _ _ hold _ _ _ _ hK=>?_) ?_
      · have e1:ev (.tmp 1)=.int .i64 (k:Int):=hold 1 (by kernel_rfl)
        go_simp
        exact hK _ _ (kstep_grow (Below.refl _ _)) rfl
      refine steps_cons (step_on3 rfl rfl fun _ _ _ _ _ _ _ hval _ _ _ hK=>?_) ?_
      · have e48:_=_:=hval 10 48 (by kernel_rfl) rfl
        go_simp
        exact hK _ _ (kstep_grow (Below.refl _ _)) rfl
      refine steps_cons (step_on3 rfl rfl fun ev _ _ _ _ _ hold _ _ _ _ hK=>?_) ?_
      · have e7:ev (.tmp 7)=.bool bb:=hold 7 (by kernel_rfl)
        go_simp
        exact hK _ _ (kstep_grow (Below.refl _ _)) rfl
      refine steps_cons (step_on3 rfl rfl fun _ w5 _ _ _ _ _ hval _ _ _ hK=>?_) ?_
      · have e47:_=_:=hval 9 47 (by kernel_rfl) rfl
        have e49:_=_:=hval 11 49 (by kernel_rfl) rfl
        have e50:_=_:=hval 12 50 (by kernel_rfl) rfl
        go_simp
        refine (BCut_any x a0 bb hx64 hp64 w5).mono ?_
        rintro e w8 ⟨rfl,rfl⟩
        rw [Hy.out]
        exact hK _ _ (kstep_grow (Below.refl _ _)) rfl
      refine steps_cons (step_on3 rfl rfl fun _ _ _ _ _ _ _ hval _ _ _ hK=>?_) ?_
      · have e51:_=_:=hval 13 51 (by kernel_rfl) rfl
        go_simp
        exact hK _ _ (kstep_grow (Below.refl _ _)) rfl
      refine steps_cons (step_on3 rfl rfl fun _ _ _ _ _ _ _ hval _ _ _ hK=>?_) ?_
      · have e37:_=_:=hval 14 37 (by kernel_rfl) rfl
        go_simp
        exact hK _ _ (kstep_grow (Below.refl _ _)) rfl
      refine steps_cons (step_on3 rfl rfl fun _ _ _ _ _ _ _ hval _ _ _ hK=>?_) ?_
      · have e37:_=_:=hval 14 37 (by kernel_rfl) rfl
        go_simp
        exact hK _ _ (kstep_grow (Below.refl _ _)) rfl
      refine steps_cons (step_on3 rfl rfl fun _ _ _ _ _ _ _ hval _ _ _ hK=>?_) ?_
      · have e38:_=_:=hval 0 38 (by kernel_rfl) rfl
        go_simp
        exact hK _ _ (kstep_grow (Below.refl _ _)) rfl
      refine steps_cons (step_on3 rfl rfl fun _ _ _ _ _ _ _ hval _ _ _ hK=>?_) ?_
      · have e54:_=_:=hval 17 54 (by kernel_rfl) rfl
        go_simp
        exact hK _ _ (kstep_grow (Below.refl _ _)) rfl
      refine steps_cons (step_on3 rfl rfl fun _ _ _ _ _ _ _ hval _ _ _ hK=>?_) ?_
      · have e55:_=_:=hval 18 55 (by kernel_rfl) rfl
        have e40:_=_:=hval 2 40 (by kernel_rfl) rfl
        go_simp
        exact hK _ _ (kstep_grow (Below.refl _ _)) rfl
      refine steps_cons (step_on3 rfl rfl fun _ w5 _ hU _ _ _ hval _ _ _ hK=>?_) ?_
      · have hpre:=hU rfl
        have e56:_=_:=hval 19 56 (by kernel_rfl) rfl
        have e52:_=_:=hval 15 52 (by kernel_rfl) rfl
        have c0:w5.cell? ⟨gb,1+i,none⟩=some (.int .u64 (x:Int)):=(hpre.cell (1+i)).trans Hci.out
        have f0:=hpre.frozen (1+i)
        go_simp
        exact hK (.bool true) _ (kstep_keep (Keep.setCell (F:=fun b=>b=gb) (Keep.refl _ _) (p:=⟨gb,1+i,none⟩) (.inl rfl) _)) (hpre.set (1+i) _)
      refine steps_cons (step_on3 rfl rfl fun _ _ _ _ _ _ _ hval _ _ _ hK=>?_) ?_
      · have e53:_=_:=hval 16 53 (by kernel_rfl) rfl
        go_simp
        exact hK _ _ (kstep_grow (Below.refl _ _)) rfl
      exact steps_nil
    · intro ev w6 hS hval hall
      replace hS:Keep (fun b=>b=gb) wr w6:=⟨hS.os,hS.tape,hS.output,hS.size,hS.block⟩
      have e7:ev (.tmp 7)=.bool (x.testBit a0):=hval 21 7 rfl
      obtain ⟨vJ,pJ⟩:∃vJ0,(blkW gb (cs.setIfInBounds (1+i) (.int .u64 (y:Int)))) vJ0 w6:=hall 20 (by decide)
      simp only [putsOf,List.foldl_cons,List.foldl_nil,Act.put,List.setIfInBounds_toArray,List.set_cons_zero,List.set_cons_succ]
      rw [e7]
      clear hval hall
      have hbk2:Bk w6 gb 146 _:=pJ
      rw [Hset.out] at hbk2
      have hkp2:=Hkp.out.trans hS
      have c0:w6.cell? ⟨gb,0,none⟩=some (.int .i64 (n:Int)):=(hbk2.cell 0).trans rfl
      have f0:=hbk2.frozen 0
      have hgw:=hbk2.lt
      have Hbk2:=Lib.hid hbk2
      have Hkp2:=Lib.hid hkp2
      have e1:IntKind.i64.wrap ((n:Int) - 1)=(n:Int) - 1:=by rw [IntKind.wrap_i64];omega
      rw [Hbit.out]
      clear hbk2 hkp2 pJ hS
      go_wp2_with fail
      go_ret2
      exact ⟨rfl,Hfin.out _ (blk3_lift Hbk2.out _),Keep.setCell (F:=fun b=>b=gb) Hkp2.out (p:=⟨gb,0,none⟩) (.inl rfl) _⟩
end Go.Proofs.YtipaccakmndkgaaGreat
