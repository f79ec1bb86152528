/- The walks of slices.Backward, find's Rows and Count. Conditions: a text of at most 127 bytes, a pattern of at most 2^20. The walk of the laws' Text: a text of at most so many bytes, of few letters or of all. Conditions: at most 1000 bytes are asked for. -/
import Derived.Test.YtipaccakmndkgaaGreatPwa24
import Derived.RangeFuncFrom
import Derived.Test.YtipaccakmndkgaaGreatPwa25
namespace Go.Proofs.YtipaccakmndkgaaGreat
open Go.RowKit Go.Shelf
set_option linter.unusedVariables false
set_option linter.unusedSimpArgs false
attribute [local go_sem] Oper.semAt_some
set_option maxRecDepth 100000 in
theorem Backward_any (A:Option Addr) (n c:Nat) (w:World):
 Calls Tryz.prog 68 #[.slice A n c] w fun e w'=>e=.returned (.func (.func 102) #[] #[.pointer (some ⟨w.heap.size,0,none⟩)])∧w'=w.alloc (.cells #[.slice A n c] 23):=by
 go_enter Tryz.func68,Tryz.ntmps68
 go_wp2_with fail
 go_ret
 exact ⟨rfl,rfl⟩
def stepN (L:List Nat) (x:Nat×Nat) (c:UInt8):Nat×Nat:=(narL L (c.toNat+1) x.1,narL L (c.toNat+1) x.2)
def rowsN (L:List Nat) (p:List UInt8):Nat×Nat:=p.reverse.foldl (stepN L) (0,L.length)
theorem fold_ok (L:List Nat) (q:List UInt8):∀x:Nat×Nat,x.1≤x.2→x.2≤L.length→(q.foldl (stepN L) x).1≤(q.foldl (stepN L) x).2∧(q.foldl (stepN L) x).2≤L.length:=by
 induction q with
 | nil=>intro x h1 h2;exact ⟨h1,h2⟩
 | cons c q ih=>intro x h1 h2;exact ih _ (narL_mono L _ h1) (narL_le L _ _)
theorem bkL_all (zs:List UInt8):(bkL zs zs.length).map (·.2)=zs.reverse:=by
 apply List.ext_getElem
 · simp [bkL]
 · intro i h1 h2
   have hi:i < zs.length:=by simpa [bkL] using h1
   simp [bkL,List.getElem_reverse,hi,show zs.length - 1 - i < zs.length by omega]
def noDefer (o:Oper):Bool:=match o.op with
 | .defer _=>false
 | _=>true
theorem no_defer {ops:Array Oper} (h:ops.toList.all noDefer=true):∀(i:Nat) (o:Oper),ops[i]?=some o→∀c,o.op≠.defer c:=by
 intro i o ho c he
 have:=List.all_eq_true.1 h o (Array.mem_toList_iff.2 (Array.mem_of_getElem? ho))
 unfold noDefer at this
 rw [he] at this
 cases this
structure FInv (w0:World) (Bw gl gb glo gs b3:Nat) (sl:Value) (L:List Nat) (pre:List (Nat×UInt8)) (W:World):Prop where
 lo:Bk W glo 3 #[.int .i64 ((((pre.map (·.2)).foldl (stepN L) (0,L.length)).1:Nat):Int)]
 hi:Bk W (glo+1) 3 #[.int .i64 ((((pre.map (·.2)).foldl (stepN L) (0,L.length)).2:Nat):Int)]
 lv:LvW W Bw gl L
 box:Bk W gb 25 #[.pointer (some ⟨gl,0,none⟩)]
 bs:Bk W gs 23 #[sl]
 dat:∃t cs,Bk W b3 t cs∧t∈ [5,23]
 vis:VB Bw w0 W
theorem FInv.own {w0:World} {Bw gl gb glo gs b3 B:Nat} {sl:Value} {L:List Nat} (hB:w0.heap.size≤B):OwnFrom B (fun pre W=>FInv w0 Bw gl gb glo gs b3 sl L pre W):=by
 intro s W W' row h hg hr
 have hbk:∀b t cs,Bk W b t cs→Bk W' b t cs:=by
  intro b t cs hb
  refine (hg.block b hb.lt fun e=>?_).trans hb
  obtain ⟨_,o,ho,hc⟩:=hr b e.symm
  unfold Bk at hb
  rw [hb] at ho
  injection ho with ho
  subst ho
  cases hc
 obtain ⟨t,cs,h6,h7⟩:=h.dat
 refine ⟨hbk _ _ _ h.lo,hbk _ _ _ h.hi,h.lv.same hbk,hbk _ _ _ h.box,hbk _ _ _ h.bs,⟨t,cs,hbk _ _ _ h6,h7⟩,⟨hg.os.trans h.vis.1.os,hg.tape.trans h.vis.1.tape,hg.output.trans h.vis.1.output,Nat.le_trans h.vis.1.size hg.size,fun b hb hn=>?_⟩,⟨hg.os.trans h.vis.1.os,hg.tape.trans h.vis.1.tape,hg.output.trans h.vis.1.output,Nat.le_trans h.vis.1.size hg.size,fun b hb hn=>(hg.block b (Nat.lt_of_lt_of_le hb h.vis.1.size) fun e=>?_).trans (h.vis.2.block b hb hn)⟩⟩
 · rcases h.vis.1.block b hb hn with e |⟨cs,v,e,e'⟩|⟨cs,v,e,e'⟩
   · refine .inl ((hg.block b (Nat.lt_of_lt_of_le hb h.vis.1.size) fun e=>?_).trans e)
     have:=(hr b e.symm).1
     omega
   · exact .inr (.inl ⟨cs,v,e,hbk _ _ _ e'⟩)
   · exact .inr (.inr ⟨cs,v,e,hbk _ _ _ e'⟩)
 · have:=(hr b e.symm).1
   omega
theorem keeps_of_visF {F:Nat→Prop} {w w':World} (h:VisF F w w') (hf:∀b o,F b→w.heap[b]?=some o→o.isCells=true):KeepsOthers w w':=by
 refine ⟨h.size,fun b o hb ho=>?_⟩
 by_cases f:F b
 · rw [hf b o f hb] at ho
   cases ho
 · have hlt:b < w.heap.size:=(Array.getElem?_eq_some_iff.1 hb).1
   rcases h.block b hlt f with e |⟨cs,v,e,_⟩|⟨cs,v,e,_⟩
   · exact e.trans hb
   · unfold Bk at e
     rw [hb] at e
     injection e with e
     subst e
     cases ho
   · unfold Bk at e
     rw [hb] at e
     injection e with e
     subst e
     cases ho
set_option maxRecDepth 100000 in
set_option maxHeartbeats 4000000 in
theorem FindRows_any (Bw gl:Nat) (L:List Nat) (n:Nat) (A0:Option Addr) (m0 c0 B:Nat) (ss:List Sl) (p:List UInt8) (N:Nat) (hT:catS ss=p) (hN:p.length=N) (w:World) (h:LvW w Bw gl L) (hn:L.length=n+1) (hl:n≤900) (hL:∀x∈L,x < 257) (hr0:Rd w B 1 A0 m0 (ss.map slV)) (hss:∀s∈ss,Rd w B 1 s.A s.n (s.l.map bv)) (hB:B≤w.heap.size) (hm:m0≤1000000) (hp:N≤1000000):
 Calls Tryz.prog 33 #[.pointer (some ⟨gl,0,none⟩),.slice A0 m0 c0] w fun e w'=>e=.returned (.tuple #[.int .i64 (((rowsN L p).1:Nat):Int),.int .i64 (((rowsN L p).2:Nat):Int)])∧VB Bw w w':=by
 refine (callsIn_wide (n:=6)).1 ?_
 refine callsIn_of_wp_marks Tryz.func33 rfl trivial ?_ rfl
 simp only [Tryz.ntmps33,List.size_toArray,List.length_cons,List.length_nil,Nat.reduceAdd,Nat.reduceSub,Array.replicate_succ,Array.replicate_zero,List.push_toArray,List.append_toArray,List.nil_append,List.cons_append]
 refine wpIn_wide.2 ?_
 have hgl:=h.lt
 have H:=Lib.hid h
 have HL:=Lib.hid hL
 have Hr0:=Lib.hid hr0
 have Hss:=Lib.hid hss
 clear h hL hr0 hss
 go_wp2_with fail
 have hv1:Below w.heap.size w (w.alloc (.cells #[.pointer (some ⟨gl,0,none⟩)] 25)):=(Below.refl _ _).alloc (Nat.le_refl _) _
 refine (LiveLen_any Bw gl L n _ (H.out.vis (Vis.of_below hv1)) hn (by omega)).mono ?_
 rintro e w' ⟨rfl,rfl⟩
 have e1:IntKind.i64.wrap ((n:Int)+1)=((n+1:Nat):Int):=by rw [IntKind.wrap_i64];omega
 obtain ⟨n1,hn1⟩:∃n1,n+1=n1:=⟨_,rfl⟩
 have e2:(n:Int)+1=(n1:Int):=by omega
 have hbb:=Bk.new w 25 #[.pointer (some ⟨gl,0,none⟩)]
 obtain ⟨gb,hgb⟩:∃g,w.heap.size=g:=⟨_,rfl⟩
 rw [hgb] at hbb
 rw [hgb]
 generalize w.alloc (.cells #[.pointer (some ⟨gl,0,none⟩)] 25)=w1 at hv1 hbb⊢
 have Hv1:=Lib.hid hv1
 have Hbb:=Lib.hid hbb
 have Hn1:=Lib.hid hn1
 have Hn:=Lib.hid hn
 clear hv1 hbb hn1 hn hgb
 go_wp2_with fail
 have hlo:=(Bk.new w1 3 #[.int .i64 0]).alloc (.cells #[.int .i64 (n1:Int)] 3)
 have hhi:=Bk.new (w1.alloc (.cells #[.int .i64 0] 3)) 3 #[.int .i64 (n1:Int)]
 rw [World.size_alloc] at hhi
 have hb12:Below w1.heap.size w1 ((w1.alloc (.cells #[.int .i64 0] 3)).alloc (.cells #[.int .i64 (n1:Int)] 3)):=((Below.refl _ _).alloc (Nat.le_refl _) _).alloc (by simp) _
 obtain ⟨glo,hglo⟩:∃g,w1.heap.size=g:=⟨_,rfl⟩
 rw [hglo] at hlo hhi
 rw [hglo]
 generalize (w1.alloc (.cells #[.int .i64 0] 3)).alloc (.cells #[.int .i64 (n1:Int)] 3)=w2 at hlo hhi hb12⊢
 have hv2:=Hv1.out.trans (hb12.mono Hv1.out.size)
 have hbb2:=Hbb.out.below hb12 Hbb.out.lt
 have hgl1:w.heap.size≤glo:=by rw [←hglo];exact Hv1.out.size
 have hgb1:gb < glo:=by rw [←hglo];exact Hbb.out.lt
 have hcat:=Concat_any A0 m0 c0 B ss p N hT hN w2 (Hr0.out.keep fun q hq=>hv2.cell (by omega)) (fun s hs=>(Hss.out s hs).keep fun q hq=>hv2.cell (by omega)) (by have:=hv2.size;omega) (by omega) (by omega)
 have Hlo:=Lib.hid hlo
 have Hhi:=Lib.hid hhi
 have Hv2:=Lib.hid hv2
 have Hbb2:=Lib.hid hbb2
 clear hlo hhi hb12 hv2 hbb2 hglo e1 e2
 refine hcat.mono ?_
 clear hcat
 rintro e w3 ⟨A3,c3,rfl,hm3,hb3⟩
 have Hm3:=Lib.hid hm3
 have Hb3:=Lib.hid hb3
 clear hm3 hb3
 go_wp2_with fail
 refine (Backward_any A3 N c3 w3).mono ?_
 rintro e w4 ⟨rfl,hw4⟩
 have hbs:=Bk.new w3 23 #[.slice A3 N c3]
 rw [←hw4] at hbs
 have hb34:Below w3.heap.size w3 w4:=hw4 ▸(Below.refl _ _).alloc (Nat.le_refl _) _
 have hz34:w4.heap.size=w3.heap.size+1:=by rw [hw4];simp
 obtain ⟨gs,hgs⟩:∃g,w3.heap.size=g:=⟨_,rfl⟩
 rw [hgs] at hbs
 rw [hgs]
 have Hgs:=Lib.hid hgs
 clear hw4 hgs
 have hlo4:=(Hlo.out.below Hb3.out Hlo.out.lt).below hb34 (Nat.lt_of_lt_of_le Hlo.out.lt Hb3.out.size)
 have hhi4:=(Hhi.out.below Hb3.out Hhi.out.lt).below hb34 (Nat.lt_of_lt_of_le Hhi.out.lt Hb3.out.size)
 have hbb4:=(Hbb2.out.below Hb3.out Hbb2.out.lt).below hb34 (Nat.lt_of_lt_of_le Hbb2.out.lt Hb3.out.size)
 have hv4:Below w.heap.size w w4:=(Hv2.out.trans (Hb3.out.mono Hv2.out.size)).trans (hb34.mono (by have:=Hv2.out.size;have:=Hb3.out.size;omega))
 have hm4:=Hm3.out.below hb34
 have Hlo4:=Lib.hid hlo4
 have Hhi4:=Lib.hid hhi4
 have Hbb4:=Lib.hid hbb4
 have Hv4:=Lib.hid hv4
 have Hm4:=Lib.hid hm4
 have Hbs:=Lib.hid hbs
 clear hlo4 hhi4 hbb4 hv4 hm4 hbs hb34 Hlo Hhi Hv2 Hbb2 Hm3
 go_wp2_with fail
 obtain ⟨b3,hb3⟩:∃b3,(∀b off,A3=some ⟨b,off,none⟩→0 < N→b=b3)∧∃t cs,Bk w4 b3 t cs∧t∈ [5,23]:=by
  rcases Hm4.out.own.2 with ⟨e,e0⟩|⟨g,cap,cur,e,_,hg,_⟩
  · exact ⟨gs,fun b off _ h0=>by omega,_,_,Hbs.out,by simp⟩
  · injection e with e
    exact ⟨g,fun b off h _=>by rw [e] at h;injection h with h;injection h with h _;exact h.symm,_,_,hg,by simp⟩
 have hN0:0 < N→A3=some ⟨b3,0,none⟩:=by
  intro h0
  rcases Hm4.out.own.2 with ⟨e,e0⟩|⟨g,cap,cur,e,_,hg,_⟩
  · omega
  · injection e with e
    rw [e,hb3.1 g 0 e h0]
 have hcells:∀j,j < p.length→w4.cell? ⟨b3,0+j,none⟩=some (.int .u8 ((p.getD j 0).toNat:Int)):=by
  intro j hj
  have hr:=Hm4.out.rd
  obtain ⟨b,off,e,_,hc⟩:=hr.2 (by omega)
  rw [hN0 (by omega)] at e
  injection e with e
  injection e with e1 e2
  subst e1 e2
  refine hc j _ ?_
  rw [List.getElem?_map,List.getElem?_eq_getElem hj]
  simp [bv,List.getD_eq_getElem?_getD,List.getElem?_eq_getElem hj]
 have hseq:SeqStopsK Fence.wide (6 - 1) Tryz.prog 102 #[.pointer (some ⟨gs,0,none⟩)] (fun x:Nat×UInt8=>#[.int .i64 (x.1:Int),.int .u8 (x.2.toNat:Int)]) (KpB gs b3) (fun ys=>ys=bkL p p.length) (fun _=>True) N w4:=by
  intro l J Jx W hW hJ hJx hY h0
  have hd:=hb3.2
  obtain ⟨t,cs,hd1,hd2⟩:=hd
  exact Backward1_in Fence.wide (6 - 1) trivial rfl (by omega) l gs b3 0 c3 A3 p (fun h=>hN0 (by omega)) (by omega) J Jx (fun pre x W1 h1 h2=>hY pre x W1 h1 (by omega)) W (by rw [hN];exact (Hbs.out.below hW Hbs.out.lt).cell 0) (fun j hj=>(hW.cell (p:=⟨b3,0+j,none⟩) hd1.lt).trans (hcells j hj)) h0
 have hI0:FInv w Bw gl gb glo gs b3 (.slice A3 N c3) L [] w4:=⟨Hlo4.out,by
  have:=Hhi4.out
  rw [show (([]:List (Nat×UInt8)).map (·.2)).foldl (stepN L) (0,L.length)=(0,L.length) from rfl,Hn.out,Hn1.out]
  exact this,H.out.vis (Vis.of_below Hv4.out),Hbb4.out,Hbs.out,hb3.2,VisK.of_below Hv4.out⟩
 have hgs4:=Hbs.out.lt
 have hb34:=hb3.2
 have HI0:=Lib.hid hI0
 have Hseq:=Lib.hid hseq
 have hglo4:=Hhi4.out.lt
 obtain ⟨t4,cs4,hd4,hd5⟩:=hb34
 have hd4l:=hd4.lt
 clear hseq hI0 hcells hN0 hb3 hd4 hd5 Hlo4 Hhi4 Hbb4 Hm4 Hbs
 refine (wpIn_wide (n:=6)).1 ?_
 refine wpIn_rangeFunc_ownF (F:=Fence.wide) (n:=6) rfl (by omega) (gf:=102) (lb:=#[.pointer (some ⟨gs,0,none⟩)]) rfl trivial (enters_of Tryz.func102 (by kernel_rfl) rfl) Hseq.out (fun h k=>h.trans k)
  (fun W l o o' hl ho _ _ q hq=>World.cell?_of_block (World.putObj_heap_other (fun e=>by rcases hq with hq | hq <;> omega))) (Below.refl _ _) (fun _=>rfl)
  (fun pre W=>FInv w Bw gl gb glo gs b3 (.slice A3 N c3) L pre W) (fun _ _ _=>False) (FInv.own Hv4.out.size) (fun _ _ _ _ _ hs _ _=>hs) HI0.out
  (fun x=> { tmps:=#[.pointer (some ⟨gl,0,none⟩),.slice A0 m0 c0,.pointer (some ⟨gb,0,none⟩),undef,.int .i64 0,.int .i64 0,.pointer (some ⟨glo,0,none⟩),.pointer (some ⟨glo+1,0,none⟩),undef,.int .u8 (x.2.toNat:Int),.pointer (some ⟨gl,0,none⟩),.bool false,.pointer (some ⟨gl,0,none⟩),.int .i64 (n:Int),.int .i64 (n1:Int),.slice A0 m0 c0,.slice A3 N c3,.func (.func 102) #[] #[.pointer (some ⟨gs,0,none⟩)],.int .i64 (x.1:Int),.int .u8 (x.2.toNat:Int),undef,undef,undef,undef,undef,undef,undef,undef,undef,undef,undef,undef,undef,undef],defers:= [] }) ?assign ?body ?done ?stop
 case assign=>
  intro l x W K hK
  gi_wp2
  exact hK
 case body=>
  rintro l pre ⟨ix,c⟩ W hI _
  obtain ⟨gk,r1,r2,r3,hlb,hwk⟩:=hI.lv
  obtain ⟨lo,hlo⟩:∃lo,((pre.map (·.2)).foldl (stepN L) (0,L.length)).1=lo:=⟨_,rfl⟩
  obtain ⟨hi,hhi⟩:∃hi,((pre.map (·.2)).foldl (stepN L) (0,L.length)).2=hi:=⟨_,rfl⟩
  have hfo:=fold_ok L (pre.map (·.2)) (0,L.length) (Nat.zero_le _) (Nat.le_refl _)
  rw [hlo,hhi] at hfo
  obtain ⟨na,ha⟩:∃a,narL L (c.toNat+1) lo=a:=⟨_,rfl⟩
  obtain ⟨nb,hb⟩:∃b,narL L (c.toNat+1) hi=b:=⟨_,rfl⟩
  have hlo':=hI.lo
  have hhi':=hI.hi
  rw [hlo] at hlo'
  rw [hhi] at hhi'
  have Hl:=Lib.hid hlb
  have Hwk:=Lib.hid hwk
  have Hlo:=Lib.hid hlo'
  have Hhi:=Lib.hid hhi'
  have Hbx:=Lib.hid hI.box
  have Hle:=Lib.hid hfo
  have Hab:Hid (narL L (c.toNat+1) lo=na∧narL L (c.toNat+1) hi=nb):=Lib.hid ⟨ha,hb⟩
  have HI:=Lib.hid hI
  have Hlh:Hid (((pre.map (·.2)).foldl (stepN L) (0,L.length))=(lo,hi)):=Lib.hid (by rw [←hlo,←hhi])
  clear hlb hwk hlo' hhi' hfo ha hb hI hlo hhi HI0 Hseq
  gi_wp2
  refine wpIn_region_any (by kernel_rfl) ?_
  refine wpAnyIn_of (fun ⟨_,_,h⟩=>h) (no_defer (by kernel_rfl)) _ _ _ _ ?_
  refine wpAny_vis_tail Bw 13 [21,22,23,24,25,26,27,28,29,20,30,31] (fun b=>b=glo) 12 [0,1,2,3,4,5,6,7,8,9,10,12] (fun w2=>VB Bw W w2) (fun _ w2=>Bk w2 glo 3 #[.int .i64 (na:Int)]) [is (.pointer (some ⟨gl,0,none⟩)),is (.pointer (some ⟨gl,0,none⟩)),is (.pointer (some ⟨gl,0,none⟩)),is (.pointer (some ⟨gk,0,none⟩)),is (.int .i64 (lo:Int)),is (.int .i64 (hi:Int)),is (.int .u8 (c.toNat:Int)),is (.int .i64 ((c.toNat+1:Nat):Int)),is (.tuple #[.int .i64 (na:Int),.int .i64 (nb:Int)]),is (.tuple #[.int .i64 (na:Int),.int .i64 (nb:Int)]),is (.int .i64 (na:Int)),is (.int .i64 (nb:Int)),anyV] _ _ rfl (by decide) (by kernel_rfl) (by kernel_rfl) (by kernel_rfl) (VisK.of_below (Below.refl _ _).drew) (fun _ _ h _ k=>h.trans k) (fun _ _ _ h k=>k.1.bk h (by decide) (by decide)) (by repeat' (first | exact stbs_is _ _ | exact stbs_any _ |(refine List.forall_mem_cons.2 ⟨?_,?_⟩)|(intro p hp;cases hp))) ?_ ?_
  · refine steps_of_n ?_
    refine steps_cons (step_on3 rfl rfl fun ev w5 _ hU _ _ hold _ _ _ _ hK=>?_) ?_
    · have hpre:=hU rfl
      have e2:ev (.tmp 2)=.pointer (some ⟨gb,0,none⟩):=hold 2 (by kernel_rfl)
      replace hpre:VB Bw W w5:=⟨⟨hpre.1.os,hpre.1.tape,hpre.1.output,hpre.1.size,hpre.1.block⟩,⟨hpre.2.os,hpre.2.tape,hpre.2.output,hpre.2.size,hpre.2.block⟩⟩
      have c9:=(hpre.1.bk Hbx.out (by decide) (by decide)).cell 0
      go_simp
      exact hK _ _ (vstep_vis (VisK.refl _ _)) rfl
    refine steps_cons (step_on3 rfl rfl fun _ w5 _ hU _ _ _ hval _ _ _ hK=>?_) ?_
    · have hpre:=hU rfl
      have e21:_=_:=hval 0 21 (by kernel_rfl) rfl
      replace hpre:VB Bw W w5:=⟨⟨hpre.1.os,hpre.1.tape,hpre.1.output,hpre.1.size,hpre.1.block⟩,⟨hpre.2.os,hpre.2.tape,hpre.2.output,hpre.2.size,hpre.2.block⟩⟩
      have c9:=(hpre.1.bk Hl.out (by decide) (by decide)).cell 0
      go_simp
      exact hK _ _ (vstep_vis (VisK.refl _ _)) rfl
    refine steps_cons (step_on3 rfl rfl fun _ w5 _ hU _ _ _ hval _ _ _ hK=>?_) ?_
    · have hpre:=hU rfl
      have e22:_=_:=hval 1 22 (by kernel_rfl) rfl
      replace hpre:VB Bw W w5:=⟨⟨hpre.1.os,hpre.1.tape,hpre.1.output,hpre.1.size,hpre.1.block⟩,⟨hpre.2.os,hpre.2.tape,hpre.2.output,hpre.2.size,hpre.2.block⟩⟩
      have c9:=(hpre.1.bk Hl.out (by decide) (by decide)).cell 0
      go_simp
      exact hK _ _ (vstep_vis (VisK.refl _ _)) rfl
    refine steps_cons (step_on3 rfl rfl fun _ w5 _ hU _ _ _ hval _ _ _ hK=>?_) ?_
    · have hpre:=hU rfl
      have e23:_=_:=hval 2 23 (by kernel_rfl) rfl
      replace hpre:VB Bw W w5:=⟨⟨hpre.1.os,hpre.1.tape,hpre.1.output,hpre.1.size,hpre.1.block⟩,⟨hpre.2.os,hpre.2.tape,hpre.2.output,hpre.2.size,hpre.2.block⟩⟩
      have c9:=(hpre.1.bk Hl.out (by decide) (by decide)).cell 0
      go_simp
      exact hK _ _ (vstep_vis (VisK.refl _ _)) rfl
    refine steps_cons (step_on3 rfl rfl fun ev w5 _ hU _ _ hold _ _ _ _ hK=>?_) ?_
    · have hpre:=hU rfl
      have e6:ev (.tmp 6)=.pointer (some ⟨glo,0,none⟩):=hold 6 (by kernel_rfl)
      replace hpre:VB Bw W w5:=⟨⟨hpre.1.os,hpre.1.tape,hpre.1.output,hpre.1.size,hpre.1.block⟩,⟨hpre.2.os,hpre.2.tape,hpre.2.output,hpre.2.size,hpre.2.block⟩⟩
      have c9:=(hpre.1.bk Hlo.out (by decide) (by decide)).cell 0
      go_simp
      exact hK _ _ (vstep_vis (VisK.refl _ _)) rfl
    refine steps_cons (step_on3 rfl rfl fun ev w5 _ hU _ _ hold _ _ _ _ hK=>?_) ?_
    · have hpre:=hU rfl
      have e7:ev (.tmp 7)=.pointer (some ⟨glo+1,0,none⟩):=hold 7 (by kernel_rfl)
      replace hpre:VB Bw W w5:=⟨⟨hpre.1.os,hpre.1.tape,hpre.1.output,hpre.1.size,hpre.1.block⟩,⟨hpre.2.os,hpre.2.tape,hpre.2.output,hpre.2.size,hpre.2.block⟩⟩
      have c9:=(hpre.1.bk Hhi.out (by decide) (by decide)).cell 0
      go_simp
      exact hK _ _ (vstep_vis (VisK.refl _ _)) rfl
    refine steps_cons (step_on3 rfl rfl fun ev _ _ hU _ _ hold _ _ _ _ hK=>?_) ?_
    · have hpre:=hU rfl
      have e9:ev (.tmp 9)=.int .u8 (c.toNat:Int):=hold 9 (by kernel_rfl)
      go_simp
      exact hK _ _ (vstep_vis (VisK.refl _ _)) rfl
    refine steps_cons (step_on3 rfl rfl fun _ w5 _ hU _ _ _ hval _ _ _ hK=>?_) ?_
    · have hpre:=hU rfl
      have e27:_=_:=hval 6 27 (by kernel_rfl) rfl
      go_simp
      refine (SymOf_any c w5).mono ?_
      rintro e w8 ⟨rfl,hb8⟩
      exact hK _ _ (vstep_vis (VisK.of_below hb8)) rfl
    refine steps_cons (step_on3 rfl rfl fun _ w5 _ hU _ _ _ hval _ _ _ hK=>?_) ?_
    · have hpre:=hU rfl
      have e24:_=_:=hval 3 24 (by kernel_rfl) rfl
      have e25:_=_:=hval 4 25 (by kernel_rfl) rfl
      have e26:_=_:=hval 5 26 (by kernel_rfl) rfl
      have e28:_=_:=hval 7 28 (by kernel_rfl) rfl
      replace hpre:VB Bw W w5:=⟨⟨hpre.1.os,hpre.1.tape,hpre.1.output,hpre.1.size,hpre.1.block⟩,⟨hpre.2.os,hpre.2.tape,hpre.2.output,hpre.2.size,hpre.2.block⟩⟩
      go_simp
      refine (WalkNarrow_any Bw gk L lo hi (c.toNat+1) w5 (Hwk.out.vis hpre.1) (by have:=c.toNat_lt;omega) Hle.out.1 Hle.out.2 HL.out (by rw [Hn.out];omega)).mono ?_
      rintro e w8 ⟨rfl,hv8⟩
      rw [Hab.out.1,Hab.out.2]
      exact hK _ _ (vstep_vis hv8) rfl
    refine steps_cons (step_on3 rfl rfl fun _ _ _ hU _ _ _ hval _ _ _ hK=>?_) ?_
    · have hpre:=hU rfl
      have e29:_=_:=hval 8 29 (by kernel_rfl) rfl
      go_simp
      exact hK _ _ (vstep_vis (VisK.refl _ _)) rfl
    refine steps_cons (step_on3 rfl rfl fun _ _ _ hU _ _ _ hval _ _ _ hK=>?_) ?_
    · have hpre:=hU rfl
      have e20:_=_:=hval 9 20 (by kernel_rfl) rfl
      go_simp
      exact hK _ _ (vstep_vis (VisK.refl _ _)) rfl
    refine steps_cons (step_on3 rfl rfl fun _ _ _ _ _ _ _ hval _ _ _ hK=>?_) ?_
    · have e20:_=_:=hval 9 20 (by kernel_rfl) rfl
      go_simp
      exact hK _ _ (vstep_vis (VisK.refl _ _)) rfl
    refine steps_cons (step_on3 rfl rfl fun ev w5 _ hU _ _ hold hval _ _ _ hK=>?_) ?_
    · have hpre:=hU rfl
      have e6:ev (.tmp 6)=.pointer (some ⟨glo,0,none⟩):=hold 6 (by kernel_rfl)
      have e30:_=_:=hval 10 30 (by kernel_rfl) rfl
      replace hpre:VB Bw W w5:=⟨⟨hpre.1.os,hpre.1.tape,hpre.1.output,hpre.1.size,hpre.1.block⟩,⟨hpre.2.os,hpre.2.tape,hpre.2.output,hpre.2.size,hpre.2.block⟩⟩
      have k9:=hpre.1.bk Hlo.out (by decide) (by decide)
      have c9:=k9.cell 0
      have f9:=k9.frozen 0
      go_simp
      exact hK (.bool true) _ (vstep_at (VFB.put (F:=fun b=>b=glo) (VFB.of_vb (VisK.refl _ _)) (p:=⟨glo,0,none⟩) (.inl rfl) _)) (k9.set 0 _)
    exact steps_nil
  · intro ev w6 f hS hval hall
    replace hS:VFB Bw (fun b=>b=glo) W w6:=⟨⟨hS.1.os,hS.1.tape,hS.1.output,hS.1.size,hS.1.block⟩,⟨hS.2.os,hS.2.tape,hS.2.output,hS.2.size,hS.2.block⟩⟩
    have e31:ev (.tmp 31)=.int .i64 (nb:Int):=hval 11 31 (by decide) rfl
    obtain ⟨vJ,pJ0⟩:=hall 12 (by decide)
    have pJ:(fun _ w2=>Bk w2 glo 3 #[.int .i64 (na:Int)]) vJ w6:=pJ0
    clear pJ0 hall
    simp only [putsOf,List.foldl_cons,List.foldl_nil,Act.put,List.setIfInBounds_toArray,List.set_cons_zero,List.set_cons_succ]
    rw [e31]
    clear hval
    have k13:=hS.1.bk Hhi.out (by decide) (by decide) (fun e=>by omega)
    have c13:=k13.cell 0
    have f13:=k13.frozen 0
    change wpAny Tryz.prog Region.Mode.any _ _ (1+f) (firstN 13 14) _ w6
    rw [Nat.add_comm 1 f]
    refine wpAny_one (f:=f) (i:=13) (by kernel_rfl) ?_
    refine wpOp_run rfl rfl ?_
    generalize hK:wpAny Tryz.prog _ _ _ f _=K5
    go_simp
    subst hK
    refine wpAny_all (by kernel_rfl) ?_
    have hfold:((pre++ [(ix,c)]).map (·.2)).foldl (stepN L) (0,L.length)=(na,nb):=by
        rw [List.map_append,List.foldl_append,Hlh.out]
        show (narL L (c.toNat+1) lo,narL L (c.toNat+1) hi)=_
        rw [Hab.out.1,Hab.out.2]
    have hz:w.heap.size≤glo:=hgl1
    have hne:glo≠glo+1:=by omega
    have hset0:VFB Bw (fun b=>b=glo∨b=glo+1) W (w6.setCell ⟨glo+1,0,none⟩ (.int .i64 (nb:Int))):=by
        exact VFB.put (hS.wider fun b e=>.inl e) (.inl (.inr rfl)) _
    have hset:=hset0.1
    have hI:=HI.out
    obtain ⟨t,cs,hd1,hd2⟩:=hI.dat
    have hdt:t≠116∧t≠81∧t≠3:=by
        simp at hd2
        rcases hd2 with rfl | rfl <;> decide
    have hblk:∀b t cs,Bk W b t cs→t≠116→t≠81→t≠3→Bk (w6.setCell ⟨glo+1,0,none⟩ (.int .i64 (nb:Int))) b t cs:=fun b t cs hb h1 h2 h3=>hset.bk hb h1 h2 (fun f=>by
        rcases f with f | f
        · subst f;exact h3 (bk_inj hb Hlo.out).1
        · subst f;exact h3 (bk_inj hb Hhi.out).1)
    have hlv6:=hI.lv.visI hS.1 Hlo.out pJ
    change KeepsOthers W _∧KpB gs b3 W _∧FInv w Bw gl gb glo gs b3 (.slice A3 N c3) L (pre++ [(ix,c)]) _
    refine ⟨keeps_of_visF hset (fun b o f ho=>?_),?_,?_,?_,?_,hblk _ _ _ hI.box (by decide) (by decide) (by decide),hblk _ _ _ hI.bs (by decide) (by decide) (by decide),⟨t,cs,hblk _ _ _ hd1 hdt.1 hdt.2.1 hdt.2.2,hd2⟩,?_⟩
    · rcases f with f | f
      · subst f
        have:=Hlo.out
        unfold Bk at this
        rw [ho] at this
        injection this with this
        subst this
        rfl
      · subst f
        have:=Hhi.out
        unfold Bk at this
        rw [ho] at this
        injection this with this
        subst this
        rfl
    · intro q hq
      rcases hq with hq | hq
      · have e1:=(hblk _ _ _ hI.bs (by decide) (by decide) (by decide)).trans hI.bs.symm
        rw [←hq] at e1
        exact World.cell?_of_block e1
      · have e1:=(hblk _ _ _ hd1 hdt.1 hdt.2.1 hdt.2.2).trans hd1.symm
        rw [←hq] at e1
        exact World.cell?_of_block e1
    · rw [hfold]
      exact pJ.far (p:=⟨glo+1,0,none⟩) hne _
    · rw [hfold]
      exact k13.set 0 _
    · exact hlv6.sameT fun b t cs ht hb=>hb.far (p:=⟨glo+1,0,none⟩) (fun e=>by subst e;exact ht (bk_inj hb k13).1) _
    · have h1:VFB Bw (fun b=>b=glo∨b=glo+1) w W:=VFB.of_vb hI.vis
      exact (h1.trans hset0).to_vb (fun b hb f=>by rcases f with f | f <;> omega)
 case done=>
  rintro D ys W hD rfl hI hK
  have c1:=hI.lo.cell 0
  have c2:=hI.hi.cell 0
  rw [bkL_all] at c1 c2
  change W.cell? ⟨glo,0,none⟩=some (.int .i64 (((rowsN L p).1:Nat):Int)) at c1
  change W.cell? ⟨glo+1,0,none⟩=some (.int .i64 (((rowsN L p).2:Nat):Int)) at c2
  obtain ⟨r1,hr1⟩:∃r,(rowsN L p).1=r:=⟨_,rfl⟩
  obtain ⟨r2,hr2⟩:∃r,(rowsN L p).2=r:=⟨_,rfl⟩
  rw [hr1] at c1
  rw [hr2] at c2
  have Hv:=Lib.hid hI.vis
  have HK:=Lib.hid hK
  have HR:Hid ((rowsN L p).1=r1∧(rowsN L p).2=r2):=Lib.hid ⟨hr1,hr2⟩
  clear hI HI0 Hseq hr1 hr2 hK
  go_wp2_with fail
  go_quiet (fail)
  go_wp2_with fail
  have HK':(W.drewN nq).heap[D]?=some (.deferred (some [])):=HK.out
  refine ⟨by simp,.inl ⟨_,_,rfl,run_takeDeferred HK',?_⟩⟩
  refine ⟨_,results_tmp2 rfl _ _ _,by rw [HR.out.1,HR.out.2];rfl,?_⟩
  have hv:=Hv.out
  have hbD:∀b,b < w.heap.size→((W.drewN nq).putObj D (.deferred none)).heap[b]?=W.heap[b]?:=fun b hb=>World.putObj_heap_other (by have:=Hv4.out.size;omega)
  have hz:w.heap.size≤((W.drewN nq).putObj D (.deferred none)).heap.size:=by have:=hv.1.size;simpa using this
  refine ⟨⟨hv.1.os,hv.1.tape,hv.1.output,hz,fun b hb hn=>?_⟩,⟨hv.1.os,hv.1.tape,hv.1.output,hz,fun b hb hn=>(hbD b hb).trans (hv.2.block b hb hn)⟩⟩
  rcases hv.1.block b hb hn with e |⟨cs,v,e,e'⟩|⟨cs,v,e,e'⟩
  · exact .inl ((hbD b hb).trans e)
  · exact .inr (.inl ⟨cs,v,e,(hbD b hb).trans e'⟩)
  · exact .inr (.inr ⟨cs,v,e,(hbD b hb).trans e'⟩)
 case stop=>
  intro D c pre W _ _ h _
  exact h.elim
end Go.Proofs.YtipaccakmndkgaaGreat
namespace Go.Proofs.YtipaccakmndkgaaGreat
open Go.RowKit
set_option linter.unusedVariables false
set_option linter.unusedSimpArgs false
theorem byte_ex (v:Int) (h0:0≤v) (h1:v≤255):∃c:UInt8,(c.toNat:Int)=v:=⟨UInt8.ofNat v.toNat,by
 rw [UInt8.toNat_ofNat']
 omega⟩
def fewOk (few:Bool) (T:List UInt8):Prop:=few=true→∀c∈T,97≤c.toNat∧c.toNat≤99
def TextPost (w:World) (most:Nat) (few:Bool) (e:Ending) (w':World):Prop:=∃T A' c',T.length≤most∧fewOk few T∧e=.returned (.slice A' T.length c')∧Made w' w.heap.size 5 1 A' T.length c' (T.map bv)∧Below w.heap.size w w'
set_option maxRecDepth 100000 in
set_option maxHeartbeats 2000000 in
theorem Text_any (A:Option Addr) (n c B:Nat) (l:List Int) (most:Nat) (few:Bool) (w:World) (hr:Rd w B 1 A n (l.map iv)) (hB:B≤w.heap.size) (hn:n≤maxLen) (hm:most≤1000):
 Calls Tryz.prog 4 #[.slice A n c,.int .i64 (most:Int),.bool few] w (TextPost w most few):=by
 obtain ⟨i0,hi0,hz0,hz1,hz2⟩:=info_parts u8_info
 unfold maxLen at hn
 have Hr:=Lib.hid (hr.mono hB)
 have hll:l.length=n:=by simpa using hr.1
 have Hll:=Lib.hid hll
 clear hr hll
 go_enter Tryz.func4,Tryz.ntmps4
 go_wp2_with fail
 go_loopw [7,8] (fun v i wr=>∃(k:Nat) (T:List UInt8),k≤n∧k≤most∧T.length=k∧fewOk few T∧i=.int .i64 k∧wr.ownsRow w.heap.size 5 1 v k (T.map bv)∧Below w.heap.size w wr) (fun _ i _=>n -(intOf i).toNat)
 case atStart=>exact ⟨0, [],by omega,by omega,rfl,fun _ c hc=>(by cases hc),rfl,World.ownsRow_nil _ _ _ _,Below.refl _ _⟩
 case round=>
  obtain ⟨k,T,hk,hkm,hT,hfew,rfl,hown,hb⟩:=hrel
  have hsz:=hb.size
  by_cases hlt:k < n∧k < most
  · obtain ⟨hlt1,hlt2⟩:=hlt
    obtain ⟨b,off,u,rfl,hbl,hu,hc⟩:=(Hr.out.below hb).get hlt1
    rw [List.getElem?_map] at hu
    obtain ⟨z,hz,rfl⟩:=Option.map_eq_some_iff.1 hu
    unfold iv at hc
    have Hown:=Lib.hid hown
    have Hb:=Lib.hid hb
    have Hfew:=Lib.hid hfew
    have HT:=Lib.hid hT
    clear hown hb hfew hT hu hz hbl
    have hkI:(k:Int) < (n:Int):=by omega
    have hmI:(k:Int) < (most:Int):=by omega
    cases few with
    | true=>
      obtain ⟨q,hq,hq3⟩:=umod_ex z 3 (by omega)
      obtain ⟨ch,hch⟩:=byte_ex (97+(q:Int)) (by omega) (by omega)
      have e1:IntKind.u64.wrap (97+(q:Int))=97+(q:Int):=by rw [IntKind.wrap_u64];omega
      have e2:IntKind.u8.wrap (97+(q:Int))=97+(q:Int):=by rw [IntKind.wrap_u8];omega
      have Hch:=Lib.hid hch
      clear hch
      go_wp2_with (at_builtin;refine wpList_push _ rfl (.tmp 21) (.tmp 30) _ rfl w.heap.size 5 i0 (.int .u8 0) 1 1 Tryz.underlying23 hi0 hz0 hz1 hz2 rfl (by decide) _ k _ rfl Hown.out rfl rfl (by simp [Value.oneCell']) (by unfold maxLen;omega) (by omega) hsz ?_;intro v2 w2 hown2 hg2 hs2 hat2)
      have hb3:=below_grown Hb.out Hown.out hg2 hsz
      go_roundw
      case rel=>
       refine ⟨k+1,T++ [ch],by omega,by omega,by simp [HT.out],fun h c hc=>?_,by go_num,?_,hb3⟩
       · rcases List.mem_append.1 hc with hc | hc
         · exact Hfew.out h c hc
         · simp at hc
           subst hc
           have:=Hch.out
           omega
       · rw [List.map_append]
         have e3:bv ch=.int .u8 (97+(q:Int)):=by unfold bv;rw [Hch.out]
         rw [List.map_cons,List.map_nil,e3]
         exact hown2
      case measure=>simp [intOf];omega
    | false=>
      have hwb:0≤IntKind.u8.wrap z∧IntKind.u8.wrap z≤255:=by rw [IntKind.wrap_u8];omega
      obtain ⟨ch,hch⟩:=byte_ex (IntKind.u8.wrap z) hwb.1 hwb.2
      have Hch:=Lib.hid hch
      clear hch hwb
      go_wp2_with (at_builtin;refine wpList_push _ rfl (.tmp 32) (.tmp 38) _ rfl w.heap.size 5 i0 (.int .u8 0) 1 1 Tryz.underlying23 hi0 hz0 hz1 hz2 rfl (by decide) _ k _ rfl Hown.out rfl rfl (by simp [Value.oneCell']) (by unfold maxLen;omega) (by omega) hsz ?_;intro v2 w2 hown2 hg2 hs2 hat2)
      have hb3:=below_grown Hb.out Hown.out hg2 hsz
      go_roundw
      case rel=>
       refine ⟨k+1,T++ [ch],by omega,by omega,by simp [HT.out],fun h c hc=>(by cases h),by go_num,?_,hb3⟩
       rw [List.map_append]
       have e3:bv ch=.int .u8 (IntKind.u8.wrap z):=by unfold bv;rw [Hch.out]
       rw [List.map_cons,List.map_nil,e3]
       exact hown2
      case measure=>simp [intOf];omega
  · subst hT
    obtain ⟨A',c',rfl,h3⟩:=made_of_own hown
    have H3:=Lib.hid h3
    have H4:=Lib.hid hb
    have H2:=Lib.hid hfew
    clear hown hb hfew h3
    by_cases hkn:T.length < n
    · have hkm':¬T.length < most:=fun h=>hlt ⟨hkn,h⟩
      have hmI:¬(T.length:Int) < (most:Int):=by omega
      clear hlt
      go_wp2_with fail
      go_ret
      exact ⟨T,A',c',hkm,H2.out,rfl,H3.out,H4.out⟩
    · clear hlt
      go_wp2_with fail
      go_ret
      exact ⟨T,A',c',hkm,H2.out,rfl,H3.out,H4.out⟩
end Go.Proofs.YtipaccakmndkgaaGreat
