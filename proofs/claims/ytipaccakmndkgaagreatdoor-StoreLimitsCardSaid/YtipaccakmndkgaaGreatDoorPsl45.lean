/- The walk of store's Save. Conditions: a text of at most 127 bytes. The walk of store.New. No conditions but the bounds. The walk of store's Load at the snapshot of a text. Conditions: a text of at most 127 bytes. -/
import Derived.Test.YtipaccakmndkgaaGreatDoorPsl43
set_option linter.unusedVariables false
set_option linter.unusedSimpArgs false
set_option maxRecDepth 100000
set_option maxHeartbeats 1000000
namespace Go.Proofs.YtipaccakmndkgaaGreatDoor
open Go.RowKit
theorem StAt.save {w:World} {Bw gs gl most rate:Nat} {own:Nat→Nat} {t:List UInt8} {rs:List Nat} (h:StAt w Bw own gs gl most rate t) (hs:IsSuf (symL t) rs):
 Calls Tryz.prog 20 #[.pointer (some ⟨gl,0,none⟩),.int .i64 (most:Int)] w (SavePost w Bw (snapB (lastL (symL t) rs) rs most rate t.length)):=by
 obtain ⟨rs',gk,gp,pr,hs',hl,hrt,hz0,hn127⟩:=h.tp
 obtain rfl:=hs'.unique hs
 exact SnapSave_any Bw gl gk gp rate most t rs' pr w hl hrt hs' hn127 h.r1 h.r2 h.len h.max
theorem StSave_any (Bw:Nat) (own:Nat→Nat) (gs gl most rate:Nat) (t:List UInt8) (rs:List Nat) (w:World) (h:StAt w Bw own gs gl most rate t) (hs:IsSuf (symL t) rs):
 Calls Tryz.prog 34 #[.pointer (some ⟨gs,0,none⟩)] w (SavePost w Bw (snapB (lastL (symL t) rs) rs most rate t.length)):=by
 have hsave:∀w1,VB Bw w w1→Calls Tryz.prog 20 #[.pointer (some ⟨gl,0,none⟩),.int .i64 (most:Int)] w1 (SavePost w1 Bw (snapB (lastL (symL t) rs) rs most rate t.length)):=fun w1 k=>(h.vb k.1).save hs
 obtain ⟨bs,hbs⟩:∃bs,snapB (lastL (symL t) rs) rs most rate t.length=bs:=⟨_,rfl⟩
 rw [hbs] at hsave⊢
 obtain ⟨nb,hK⟩:∃nb,bs.length=nb:=⟨_,rfl⟩
 have Hsave:=lhd hsave
 have HK:=lhd hK
 have Hblk:=lhd h.blk
 clear hsave h hs hbs hK
 unfold SavePost
 rw [HK.out]
 go_enter Tryz.func34,Tryz.ntmps34
 go_wp2_with fail
 refine wp_region_any (by kernel_rfl) ?_
 refine wpAny_loose2 [6,7,8,9,10,11,12,13,14,15,16,2,3] (VB Bw) (Vs [is (.pointer (some ⟨gs,0,none⟩)),is (.pointer (some ⟨gs,0,none⟩)),is (.pointer (some ⟨gs,0,none⟩)),is (.pointer (some ⟨gl,0,none⟩)),is (.pointer (some ⟨gs,0,none⟩)),is (.pointer (some ⟨gs,0,none⟩)),is (.pointer (some ⟨gs,1,none⟩)),is (.int .i64 (most:Int)),fun v w2=>∃A' c',v=.tuple #[.slice A' nb c',.int .i64 0]∧Made w2 w.heap.size 5 1 A' nb c' (bs.map bv),fun v w2=>∃A' c',v=.slice A' nb c'∧Made w2 w.heap.size 5 1 A' nb c' (bs.map bv),is (.int .i64 0),fun v w2=>∃A' c',v=.slice A' nb c'∧Made w2 w.heap.size 5 1 A' nb c' (bs.map bv),is (.int .i64 0)]) _ _ rfl (by kernel_rfl) (VisK.refl _ _) (fun _ _=>VisK.trans) (stbs_all (by repeat' (first | exact stbs_is _ _ | exact stbs_any _ | exact fun _ _ _ ⟨A,c,h1,h2⟩ k=>⟨A,c,h1,k.1.made h2 (by decide) (by decide)⟩|(refine List.forall_mem_cons.2 ⟨?_,?_⟩)|(intro p hp;cases hp)))) ?_ ?_
 · refine steps_of ?_
   refine steps_cons (step_on rfl rfl fun ev _ _ _ _ hold _ _ _ _ hK=>?_) ?_
   · have e0:ev (.tmp 0)=.pointer (some ⟨gs,0,none⟩):=hold 0 (by kernel_rfl)
     go_simp
     exact hK _ _ ((VisK.refl _ _)) rfl
   refine steps_cons (step_on rfl rfl fun _ _ _ _ _ _ hval _ _ _ hK=>?_) ?_
   · have e6:_=_:=hval 0 6 (by kernel_rfl) rfl
     go_simp
     exact hK _ _ ((VisK.refl _ _)) rfl
   refine steps_cons (step_on rfl rfl fun _ _ _ _ _ _ hval _ _ _ hK=>?_) ?_
   · have e7:_=_:=hval 1 7 (by kernel_rfl) rfl
     go_simp
     exact hK _ _ ((VisK.refl _ _)) rfl
   refine steps_cons (step_on rfl rfl fun _ w5 hS _ _ _ hval _ _ _ hK=>?_) ?_
   · have e8:_=_:=hval 2 8 (by kernel_rfl) rfl
     replace hS:(VB Bw) w w5:=⟨⟨hS.1.os,hS.1.tape,hS.1.output,hS.1.size,hS.1.block⟩,⟨hS.2.os,hS.2.tape,hS.2.output,hS.2.size,hS.2.block⟩⟩
     have hb5:=hS.1.bk Hblk.out (by decide) (by decide)
     have c9:=hb5.cell 0
     go_simp
     exact hK _ _ ((VisK.refl _ _)) rfl
   refine steps_cons (step_on rfl rfl fun ev _ _ _ _ hold _ _ _ _ hK=>?_) ?_
   · have e0:ev (.tmp 0)=.pointer (some ⟨gs,0,none⟩):=hold 0 (by kernel_rfl)
     go_simp
     exact hK _ _ ((VisK.refl _ _)) rfl
   refine steps_cons (step_on rfl rfl fun _ _ _ _ _ _ hval _ _ _ hK=>?_) ?_
   · have e10:_=_:=hval 4 10 (by kernel_rfl) rfl
     go_simp
     exact hK _ _ ((VisK.refl _ _)) rfl
   refine steps_cons (step_on rfl rfl fun _ _ _ _ _ _ hval _ _ _ hK=>?_) ?_
   · have e11:_=_:=hval 5 11 (by kernel_rfl) rfl
     go_simp
     exact hK _ _ ((VisK.refl _ _)) rfl
   refine steps_cons (step_on rfl rfl fun _ w5 hS _ _ _ hval _ _ _ hK=>?_) ?_
   · have e12:_=_:=hval 6 12 (by kernel_rfl) rfl
     replace hS:(VB Bw) w w5:=⟨⟨hS.1.os,hS.1.tape,hS.1.output,hS.1.size,hS.1.block⟩,⟨hS.2.os,hS.2.tape,hS.2.output,hS.2.size,hS.2.block⟩⟩
     have hb5:=hS.1.bk Hblk.out (by decide) (by decide)
     have c9:=hb5.cell 1
     go_simp
     exact hK _ _ ((VisK.refl _ _)) rfl
   refine steps_cons (step_on rfl rfl fun _ w5 hS _ _ _ hval _ _ _ hK=>?_) ?_
   · have e9:_=_:=hval 3 9 (by kernel_rfl) rfl
     have e13:_=_:=hval 7 13 (by kernel_rfl) rfl
     replace hS:(VB Bw) w w5:=⟨⟨hS.1.os,hS.1.tape,hS.1.output,hS.1.size,hS.1.block⟩,⟨hS.2.os,hS.2.tape,hS.2.output,hS.2.size,hS.2.block⟩⟩
     go_simp
     have hsv:=Hsave.out w5 hS
     unfold SavePost at hsv
     rw [HK.out] at hsv
     refine hsv.mono ?_
     rintro e w8 ⟨A',c',rfl,hm9,hv9⟩
     exact hK _ _ hv9 ⟨A',c',rfl,hm9.mono hS.1.size⟩
   refine steps_cons (step_on rfl rfl fun ev w5 _ _ _ _ hval _ _ _ hK=>?_) ?_
   · have p14:(fun v w2=>∃A' c',v=.tuple #[.slice A' nb c',.int .i64 0]∧Made w2 w.heap.size 5 1 A' nb c' (bs.map bv)) (ev (.tmp 14)) w5:=hval 8 14 (by kernel_rfl) rfl
     obtain ⟨A',c',e14,hm9⟩:=p14
     go_simp
     exact hK _ _ (VisK.refl _ _) ⟨A',c',rfl,hm9⟩
   refine steps_cons (step_on rfl rfl fun ev w5 _ _ _ _ hval _ _ _ hK=>?_) ?_
   · have p14:(fun v w2=>∃A' c',v=.tuple #[.slice A' nb c',.int .i64 0]∧Made w2 w.heap.size 5 1 A' nb c' (bs.map bv)) (ev (.tmp 14)) w5:=hval 8 14 (by kernel_rfl) rfl
     obtain ⟨A',c',e14,hm9⟩:=p14
     go_simp
     exact hK _ _ (VisK.refl _ _) rfl
   refine steps_cons (step_on rfl rfl fun ev w5 _ _ _ _ hval _ _ _ hK=>?_) ?_
   · have p15:(fun v w2=>∃A' c',v=.slice A' nb c'∧Made w2 w.heap.size 5 1 A' nb c' (bs.map bv)) (ev (.tmp 15)) w5:=hval 9 15 (by kernel_rfl) rfl
     obtain ⟨A',c',e15,hm9⟩:=p15
     go_simp
     exact hK _ _ (VisK.refl _ _) ⟨A',c',rfl,hm9⟩
   refine steps_cons (step_on rfl rfl fun _ _ _ _ _ _ hval _ _ _ hK=>?_) ?_
   · have e16:_=_:=hval 10 16 (by kernel_rfl) rfl
     go_simp
     exact hK _ _ ((VisK.refl _ _)) rfl
   exact steps_nil
 · intro ev w6 hS hval
   replace hS:(VB Bw) w w6:=⟨⟨hS.1.os,hS.1.tape,hS.1.output,hS.1.size,hS.1.block⟩,⟨hS.2.os,hS.2.tape,hS.2.output,hS.2.size,hS.2.block⟩⟩
   have p2:(fun v w2=>∃A' c',v=.slice A' nb c'∧Made w2 w.heap.size 5 1 A' nb c' (bs.map bv)) (ev (.tmp 2)) w6:=hval 11 2 rfl
   have e3:ev (.tmp 3)=.int .i64 0:=hval 12 3 rfl
   simp only [putsOf,List.foldl_cons,List.foldl_nil,Act.put,List.setIfInBounds_toArray,List.set_cons_zero,List.set_cons_succ]
   rw [e3]
   clear hval
   obtain ⟨A',c',e2,hm⟩:=p2
   rw [e2]
   have Hm:=lhd hm
   have HS:=lhd hS
   clear hm hS
   go_wp2_with fail
   go_ret2
   exact ⟨A',c',rfl,Hm.out,HS.out⟩
theorem StNew_any (most rate:Nat) (w:World) (hm:most≤2147483648) (h1:1≤rate) (h2:rate≤64):
 Calls Tryz.prog 29 #[.int .i64 (most:Int),.int .i64 (rate:Int)] w fun e w'=>∃gs gl own,e=.returned (.tuple #[.pointer (some ⟨gs,0,none⟩),.int .i64 0])∧StAt w' w.heap.size own gs gl most rate []∧Below w.heap.size w w':=by
 have hnew:=LiveNewE_any rate none 0 0 w.heap.size [] [] 0 rfl rfl w (Rd.nil _ _ _ _) (fun s hs=>by cases hs) (Nat.le_refl _) (by omega) (by omega) h1 h2
 have n1:¬((most:Int) < 0):=by omega
 have n2:¬((most:Int) > 2147483648):=by omega
 have n3:decide ((most:Int) > 2147483648)=false:=decide_eq_false n2
 have Hnew:=lhd hnew
 clear hnew
 go_enter Tryz.func29,Tryz.ntmps29
 go_wp2_with fail
 refine Hnew.out.mono ?_
 rintro e w1 ⟨gl,own,rfl,hgl,hle,hb⟩
 have hal:Below w1.heap.size w1 (w1.alloc (.cells #[.pointer (some ⟨gl,0,none⟩),.int .i64 (most:Int)] 137)):=(Below.refl _ _).alloc (Nat.le_refl _) _
 have hst:StAt (w1.alloc (.cells #[.pointer (some ⟨gl,0,none⟩),.int .i64 (most:Int)] 137)) w.heap.size own w1.heap.size gl most rate []:=
  ⟨Bk.new _ _ _,hb.size,Nat.eq_zero_of_not_pos fun f=>by have:=(hle.bnd w1.heap.size (by omega)).2;omega,hle.vis (Vis.of_below hal),by simp,by simp,hm,h1,h2⟩
 have Hst:=lhd hst
 have Hb:=lhd (hb.trans (hal.mono hb.size))
 clear hst hal hb hle Hnew
 go_wp2_with fail
 go_ret2
 exact ⟨_,gl,own,rfl,Hst.out,Hb.out⟩
theorem StNewMost_any (most:Int) (rate:Int) (w:World) (hm:most < 0∨most > 2147483648):
 Calls Tryz.prog 29 #[.int .i64 most,.int .i64 rate] w fun e w'=>e=.returned (.tuple #[.pointer none,.int .i64 1])∧w=w':=by
 by_cases c:most < 0
 · have n1:decide (most < 0)=true:=decide_eq_true c
   go_enter Tryz.func29,Tryz.ntmps29
   go_wp2_with fail
   go_ret2
   exact ⟨rfl,rfl⟩
 · have n1:decide (most < 0)=false:=decide_eq_false c
   have n2:decide (most > 2147483648)=true:=decide_eq_true (by omega)
   go_enter Tryz.func29,Tryz.ntmps29
   go_wp2_with fail
   go_ret2
   exact ⟨rfl,rfl⟩
theorem LNewBad_any (rate:Int) (A:Option Addr) (n c:Nat) (w:World) (hr:rate < 1∨rate > 64):
 Calls Tryz.prog 15 #[.int .i64 rate,.slice A n c] w fun e w'=>e=.returned (.tuple #[.pointer none,.int .i64 1])∧w=w':=by
 by_cases c1:rate < 1
 · have n1:decide (rate < 1)=true:=decide_eq_true c1
   go_enter Tryz.func15,Tryz.ntmps15
   go_wp2_with fail
   go_ret2
   exact ⟨rfl,rfl⟩
 · have n1:decide (rate < 1)=false:=decide_eq_false c1
   have n2:decide (rate > 64)=true:=decide_eq_true (by omega)
   go_enter Tryz.func15,Tryz.ntmps15
   go_wp2_with fail
   go_ret2
   exact ⟨rfl,rfl⟩
theorem StNewRate_any (most:Nat) (rate:Int) (w:World) (hm:most≤2147483648) (hr:rate < 1∨rate > 64):
 Calls Tryz.prog 29 #[.int .i64 (most:Int),.int .i64 rate] w fun e w'=>e=.returned (.tuple #[.pointer none,.int .i64 1])∧w=w':=by
 have hnew:=LNewBad_any rate none 0 0 w hr
 have n1:¬((most:Int) < 0):=by omega
 have n2:¬((most:Int) > 2147483648):=by omega
 have n3:decide ((most:Int) > 2147483648)=false:=decide_eq_false n2
 have Hnew:=lhd hnew
 clear hnew hr
 go_enter Tryz.func29,Tryz.ntmps29
 go_wp2_with fail
 refine Hnew.out.mono ?_
 rintro e w1 ⟨rfl,rfl⟩
 go_wp2_with fail
 go_ret2
 exact ⟨rfl,rfl⟩
section
open Go
theorem wpAny_keep_tail3 {P:Program} {ops:Array Oper} {Q:Exit→Act→World→Prop} {md:Region.Mode} (n:Nat) (ds:List Nat) (F:Nat→Prop) (J:Nat) (rd:List Nat) (pre:World→Prop) (pJ:Value→World→Prop) (l:List (Value→World→Prop)) (a0:Act) (W0:World)
 (hds:(ops.toList.take n).filterMap (·.dst)=ds) (hn:n≤ops.size) (hlaid:laidB md ops a0.tmps.size=true) (htail:((List.range ops.size).all fun k=>decide (k < n)||(List.range n).all fun i=>upB md ops ops.size k i)=true)
 (hrd:(rd.all fun i=>i==J||upB md ops ops.size J i)=true)
 (hp0:pre W0) (hp:∀w w',pre w→Keep F W0 w→Grow w w'→pre w') (hJ:Stb pJ) (hst:∀p∈l,StbK F p)
 (hstep:∀j o,j < n→ops[j]?=some o→StepOk3 P ops Q md (Keep F W0) (KStep F J) (fun i w=>rd.contains i=true→pre w) (VsJ J pJ l) a0 j o)
 (hend:∀(ev:Operand→Value) w f,Keep F W0 w→(∀i d,i < n→((ops[i]?).bind (·.dst))=some d→VsJ J pJ l i (ev (.tmp d)) w)→(∀i,i < n→∃v,VsJ J pJ l i v w)→wpAny P md ops Q (ops.size - n+f) (firstN n ops.size) (putsOf ev ds a0) w):
 wpAny P md ops Q ops.size (Array.replicate ops.size false) a0 W0:=by
 refine wpAny_tail3 n ds (Keep F W0) (KStep F J) (fun i w=>rd.contains i=true→pre w) (VsJ J pJ l) a0 W0 hds hn hlaid htail (Keep.refl _ _) (fun _ _=>hp0) (fun j w w' _ h k=>h.trans (kstep_any k)) (fun i j w w' _ hij hup hi hC k hir=>?_) (fun i j v w w' _ hij _ hv _ k=>?_) hstep hend
 · by_cases hj:j=J
   · exfalso
     subst hj
     have h2:=List.all_eq_true.1 hrd i (by simpa using hir)
     simp only [hup,Bool.or_false,beq_iff_eq] at h2
     exact hij h2
   · exact hp w w' (hi hir) hC (k.2 hj)
 · unfold VsJ at hv⊢
   by_cases hi:i=J
   · rw [if_pos hi] at hv⊢
     exact hJ v w w' hv (k.2 fun e=>hij (hi.trans e.symm))
   · rw [if_neg hi] at hv⊢
     exact stbk_all hst i v w w' hv (kstep_any k)
end
def StLoaded (w:World) (B:Nat) (own:Nat→Nat) (gs most rate:Nat) (t:List UInt8) (e:Ending) (w':World):Prop:=
 e=.returned (.int .i64 0)∧∃own' gl',StAt w' B own' gs gl' most rate t∧LFS B gs w w' own own'
theorem StLoad_any (B:Nat) (own:Nat→Nat) (gs gl most0 rate0 most rate:Nat) (A:Option Addr) (n c:Nat) (t0 t:List UInt8) (rs:List Nat) (w:World) (h:StAt w B own gs gl most0 rate0 t0) (hs:IsSuf (symL t) rs) (hn:t.length≤127)
 (hr1:1≤rate) (hr2:rate≤64) (hm1:t.length≤most) (hm2:most≤2147483648) (hnn:(snapB (lastL (symL t) rs) rs most rate t.length).length=n) (hr:Rd w w.heap.size 1 A n ((snapB (lastL (symL t) rs) rs most rate t.length).map bv)) (hcl:n≤c) (hcm:c≤maxLen):
 Calls Tryz.prog 40 #[.pointer (some ⟨gs,0,none⟩),.slice A n c] w (StLoaded w B own gs most rate t):=by
 have hld:=SnapLoad_any A c w.heap.size most rate t rs w hs hn hr1 hr2 hm1 hm2 (by rw [hnn];exact hr) (Nat.le_refl _) (by rw [hnn];exact hcl) hcm
 rw [hnn] at hld
 unfold LoadPost at hld
 have Hld:=lhd hld
 have H:=lhd h
 clear hld hr h
 go_enter Tryz.func40,Tryz.ntmps40
 go_wp2_with fail
 refine Hld.out.mono ?_
 rintro e w1 ⟨gl',rfl,⟨own1,ht1⟩,hv1⟩
 have hws:=hv1.1.size
 have Hv1:=lhd hv1
 have hb1:=hv1.1.bk H.out.blk (by decide) (by decide)
 have hgs:=H.out.blk.lt
 obtain ⟨gh,hgh⟩:∃g,w1.heap.size=g:=⟨_,rfl⟩
 have hal:Below w1.heap.size w1 (w1.alloc (.cells #[.int .i64 (most:Int),.int .i64 (rate:Int),.int .i64 (t.length:Int)] 43)):=(Below.refl _ _).alloc (Nat.le_refl _) _
 have hh1:Bk (w1.alloc (.cells #[.int .i64 (most:Int),.int .i64 (rate:Int),.int .i64 (t.length:Int)] 43)) gh 43 #[.int .i64 (most:Int),.int .i64 (rate:Int),.int .i64 (t.length:Int)]:=hgh ▸ Bk.new _ _ _
 have hb1':=hb1.below hal hb1.lt
 have Ht1:=lhd (ht1.vis (Vis.of_below hal))
 have Hal:=lhd hal
 have Hb1:=lhd hb1'
 have Hh1:=lhd hh1
 have Hne:=lhd (show ¬gh=gs by omega)
 clear ht1 hv1 Hld hal hh1 hb1 hb1'
 unfold headC
 go_wp2_with fail
 generalize hW1:w1.alloc (.cells #[.int .i64 (most:Int),.int .i64 (rate:Int),.int .i64 (t.length:Int)] 43)=W1 at Ht1 Hal Hb1 Hh1⊢
 clear hW1
 refine wp_region_any (by kernel_rfl) ?_
 refine wpAny_keep_tail3 10 [18,19,20,21,22,23,24,25,26] (fun b=>b=gs) 7 [7] (fun w2=>Bk w2 gs 137 #[.pointer (some ⟨gl,0,none⟩),.int .i64 (most0:Int)]) (fun _ w2=>Bk w2 gs 137 #[.pointer (some ⟨gl',0,none⟩),.int .i64 (most0:Int)]) [is (.pointer (some ⟨gs,0,none⟩)),is (.pointer (some ⟨gs,0,none⟩)),is (.pointer (some ⟨gl',0,none⟩)),is (.pointer (some ⟨gh,0,none⟩)),is (.int .i64 (most:Int)),is (.pointer (some ⟨gs,0,none⟩)),is (.pointer (some ⟨gs,0,none⟩)),anyV,is (.pointer (some ⟨gs,0,none⟩)),is (.pointer (some ⟨gs,1,none⟩))] _ _ rfl (by decide) (by kernel_rfl) (by kernel_rfl) (by kernel_rfl) (Hb1.out) (fun w1 w2 h _ hg=>Bk.below h hg h.lt) (fun _ _ _ h k=>Bk.below h k h.lt) (by repeat' (first | exact stbk_is _ _ | exact stbk_any _ |(refine List.forall_mem_cons.2 ⟨?_,?_⟩)|(intro p hp;cases hp))) ?_ ?_
 · refine steps_of_n ?_
   refine steps_cons (step_on3 rfl rfl fun ev _ _ _ _ _ hold _ _ _ _ hK=>?_) ?_
   · have e0:ev (.tmp 0)=.pointer (some ⟨gs,0,none⟩):=hold 0 (by kernel_rfl)
     go_simp
     exact kq hK rfl
   refine steps_cons (step_on3 rfl rfl fun ev _ _ _ _ _ hold _ _ _ _ hK=>?_) ?_
   · have e0:ev (.tmp 0)=.pointer (some ⟨gs,0,none⟩):=hold 0 (by kernel_rfl)
     go_simp
     exact kq hK rfl
   refine steps_cons (step_on3 rfl rfl fun ev _ _ _ _ _ hold _ _ _ _ hK=>?_) ?_
   · have e5:ev (.tmp 5)=.pointer (some ⟨gl',0,none⟩):=hold 5 (by kernel_rfl)
     go_simp
     exact kq hK rfl
   refine steps_cons (step_on3 rfl rfl fun ev _ _ _ _ _ hold _ _ _ _ hK=>?_) ?_
   · have e6:ev (.tmp 6)=.pointer (some ⟨gh,0,none⟩):=hold 6 (by kernel_rfl)
     go_simp
     exact kq hK rfl
   refine steps_cons (step_on3 rfl rfl fun _ w5 hS _ _ _ _ hval _ _ _ hK=>?_) ?_
   · replace hS:Keep (fun b=>b=gs) W1 w5:=⟨hS.os,hS.tape,hS.output,hS.size,hS.block⟩
     have e21:_=_:=hval 3 21 (by kernel_rfl) rfl
     have cc:=(Keep.bk hS Hh1.out Hne.out).cell 0
     go_simp
     exact kq hK rfl
   refine steps_cons (step_on3 rfl rfl fun _ _ _ _ _ _ _ hval _ _ _ hK=>?_) ?_
   · have e18:_=_:=hval 0 18 (by kernel_rfl) rfl
     go_simp
     exact kq hK rfl
   refine steps_cons (step_on3 rfl rfl fun _ _ _ _ _ _ _ hval _ _ _ hK=>?_) ?_
   · have e23:_=_:=hval 5 23 (by kernel_rfl) rfl
     go_simp
     exact kq hK rfl
   refine steps_cons (step_on3 rfl rfl fun _ _ _ hU _ _ _ hval _ _ _ hK=>?_) ?_
   · have hpre:=hU rfl
     have e24:_=_:=hval 6 24 (by kernel_rfl) rfl
     have e20:_=_:=hval 2 20 (by kernel_rfl) rfl
     have f7:=hpre.frozen 0
     have c7:=hpre.cell 0
     go_simp
     exact hK (.bool true) _ (kstep_keep (Keep.setCell (F:=fun b=>b=gs) (Keep.refl _ _) (p:=⟨gs,0,none⟩) (.inl rfl) _)) (hpre.set 0 _)
   refine steps_cons (step_on3 rfl rfl fun _ _ _ _ _ _ _ hval _ _ _ hK=>?_) ?_
   · have e19:_=_:=hval 1 19 (by kernel_rfl) rfl
     go_simp
     exact kq hK rfl
   refine steps_cons (step_on3 rfl rfl fun _ _ _ _ _ _ _ hval _ _ _ hK=>?_) ?_
   · have e25:_=_:=hval 8 25 (by kernel_rfl) rfl
     go_simp
     exact kq hK rfl
   exact steps_nil
 · intro ev w6 f hS hval hall
   replace hS:Keep (fun b=>b=gs) W1 w6:=⟨hS.os,hS.tape,hS.output,hS.size,hS.block⟩
   have e22:ev (.tmp 22)=.int .i64 (most:Int):=hval 4 22 (by decide) rfl
   have e26:ev (.tmp 26)=.pointer (some ⟨gs,1,none⟩):=hval 9 26 (by decide) rfl
   simp only [putsOf,List.foldl_cons,List.foldl_nil,Act.put,List.setIfInBounds_toArray,List.set_cons_zero,List.set_cons_succ]
   rw [e22]
   rw [e26]
   clear hval
   obtain ⟨vJ,pJ0⟩:=hall 7 (by decide)
   have pJ:(fun _ w2=>Bk w2 gs 137 #[.pointer (some ⟨gl',0,none⟩),.int .i64 (most0:Int)]) vJ w6:=pJ0
   clear pJ0 hall
   have hb6:=pJ
   have f10:=hb6.frozen 1
   have c10:=hb6.cell 1
   have Hb6:=lhd hb6
   have Hk6:=lhd hS
   clear hb6
   change wpAny Tryz.prog Region.Mode.any _ _ (1+f) (firstN 10 11) _ w6
   rw [Nat.add_comm 1 f]
   refine wpAny_one (f:=f) (i:=10) (by kernel_rfl) ?_
   refine wpOp_run rfl rfl ?_
   generalize hK:wpAny Tryz.prog _ _ _ f _=K5
   go_simp
   subst hK
   refine wpAny_all (by kernel_rfl) ?_
   have hk7:Keep (fun b=>b=gs) W1 (w6.setCell ⟨gs,1,none⟩ (.int .i64 (most:Int))):=Hk6.out.setCell (p:=⟨gs,1,none⟩) (.inl rfl) _
   have hbk7:=Hb6.out.set 1 (.int .i64 (most:Int))
   have Hk7:=lhd hk7
   have Hb7:=lhd hbk7
   have hH:=H.out
   go_wp2_with fail
   go_ret
   have hw1:=Hal.out.size
   have hbw:=hH.size
   have hbnd:=Ht1.out.bnd
   have h0:∀b,b < w.heap.size→own1 b=0:=fun b hb=>Nat.eq_zero_of_not_pos fun f=>by have:=(hbnd b (by omega)).1;omega
   refine ⟨rfl,own1,gl',⟨Hb7.out,hH.low,h0 _ hgs,(Ht1.out.far0 hk7 (fun b f=>by have f':b=gs:=f;subst f';exact h0 _ hgs)).low hbw,hn,hm1,hm2,hr1,hr2⟩,⟨fun b hb f=>absurd (h0 b hb) f,?_,?_⟩⟩
   · exact ((VisF.of_vis Hv1.out.1).trans' (VisF.of_vis (Vis.of_below Hal.out)) (fun b _ f=>f)).trans' (VisF.of_keep hk7) (fun b _ f=>.inr f)
   · have k1:Keep (fun b=>B≤b) w w1:=Hv1.out.2.mono fun b hb f=>by have f':w.heap.size≤b:=f;show B≤b;omega
     exact (k1.trans (Keep.of_below Hal.out)).trans (hk7.mono fun b _ f=>by have f':b=gs:=f;subst f';exact hH.low)
end Go.Proofs.YtipaccakmndkgaaGreatDoor
