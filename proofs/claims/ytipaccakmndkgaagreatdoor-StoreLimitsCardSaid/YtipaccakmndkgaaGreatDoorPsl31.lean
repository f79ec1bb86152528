/- A text with its pairs (TpAt), live.New; arguments of literals. Conditions: a text of at most 127 bytes. The walk of sorted.Back of a text's own transform. Conditions: at most 127 bytes. A text by any right pairs: the walks of perm's Pos and live's Pos. Conditions: a text of at most 127 bytes. -/
import Derived.Test.YtipaccakmndkgaaGreatDoorPsl30
import Derived.Test.YtipaccakmndkgaaGreatDoorPsl21
import Derived.Lib.SlBytesConst
import Derived.Test.YtipaccakmndkgaaGreatDoorPsl29
import Derived.Test.YtipaccakmndkgaaGreatDoorPsl15
import Derived.Test.YtipaccakmndkgaaGreatDoorPsl19
set_option linter.unusedVariables false
set_option linter.unusedSimpArgs false
set_option maxRecDepth 100000
set_option maxHeartbeats 4000000
namespace Go.Proofs.YtipaccakmndkgaaGreatDoor
open Go.RowKit
def TpAt (w:World) (Bw gl:Nat) (t:List UInt8) (rate:Nat):Prop:=
 ∃rs gk gp pr,IsSuf (symL t) rs∧LiveG w Bw gl gk gp rate (t.length+1) (lastL (symL t) rs) pr∧(∀x∈pr,rs[x.1]?=some x.2)∧(∃x∈pr,x.2=0)∧t.length≤127
theorem TpAt.vis {w w':World} {Bw gl:Nat} {t:List UInt8} {rate:Nat} (h:TpAt w Bw gl t rate) (k:Vis w w'):TpAt w' Bw gl t rate:=by
 obtain ⟨rs,gk,gp,pr,h1,h2,h3⟩:=h
 exact ⟨rs,gk,gp,pr,h1,h2.vis k,h3⟩
theorem VB.grow {Bw:Nat} {w w1 w2:World} (h:VB Bw w w1) (k:Below w.heap.size w1 w2):VB Bw w w2:=
 ⟨⟨k.os.trans h.1.os,k.tape.trans h.1.tape,k.output.trans h.1.output,Nat.le_trans h.1.size k.size,fun b hb hn=>by
   rcases h.1.block b hb hn with e |⟨cs,v,h1,h2⟩|⟨cs,v,h1,h2⟩
   · exact .inl ((k.block b hb).trans e)
   · exact .inr (.inl ⟨cs,v,h1,h2.below k hb⟩)
   · exact .inr (.inr ⟨cs,v,h1,h2.below k hb⟩)⟩,
  ⟨k.os.trans h.2.os,k.tape.trans h.2.tape,k.output.trans h.2.output,Nat.le_trans h.2.size k.size,fun b hb hn=>(k.block b hb).trans (h.2.block b hb hn)⟩⟩
theorem TpAt.mono {w:World} {B B' gl:Nat} {t:List UInt8} {rate:Nat} (h:TpAt w B gl t rate) (hB:B'≤B):TpAt w B' gl t rate:=by
 obtain ⟨rs,gk,gp,pr,h1,h2,h3⟩:=h
 exact ⟨rs,gk,gp,pr,h1,h2.mono hB,h3⟩
theorem rd_mark (w:World) (e:TypeId) (cs:Array Value) (fr:Nat×Nat) (n:Nat) (hs:cs.size=n):Rd (w.alloc (.cells cs e fr)) (w.heap.size+1) 1 (some ⟨w.heap.size,0,none⟩) n cs.toList:=by
 refine ⟨by simp [hs],fun _=>⟨_,0,rfl,by omega,fun j u hu=>?_⟩⟩
 rw [Nat.zero_add,cell_of_row (w.alloc (.cells cs e fr)) w.heap.size j cs e fr (heap_alloc_new w _)]
 simpa using hu
theorem str_const (w:World) (C:Array Value) (n c:Nat):(convert 23 23 (.slice (some ⟨w.heap.size,0,none⟩) n c)).run Tryz.prog (w.alloc (.cells C 5))=.ok (.slice (some ⟨w.heap.size,0,none⟩) n c) (w.alloc (.cells C 5 (C.size,C.size+1))):=
 Lib.run_convert_bytes_const (P:=Tryz.prog) w 23 5 C n c Tryz.underlying23 Tryz.underlying5
theorem str_const1 (w:World) (o:Obj) (C:Array Value) (n c:Nat):(convert 23 23 (.slice (some ⟨w.heap.size+1,0,none⟩) n c)).run Tryz.prog ((w.alloc o).alloc (.cells C 5))=.ok (.slice (some ⟨w.heap.size+1,0,none⟩) n c) ((w.alloc o).alloc (.cells C 5 (C.size,C.size+1))):=by
 have:=str_const (w.alloc o) C n c
 rw [World.size_alloc] at this
 exact this
@[irreducible] def zerC (n:Nat):Array Value:=arrK .i64 n fun _=>0
@[irreducible] def filC (L:List Nat) (k:Nat):Array Value:=arrK .i64 257 fun s=>if s < k then narL L s 0 else 0
@[irreducible] def firC (L:List Nat) (k:Nat):Array Value:=arrK .i64 257 fun s=>narL L s k
@[irreducible] def toC (L:List Nat) (n k:Nat):Array Value:=arrK .i64 n fun i=>if i < k then narL L (L.getD i 0) i else 0
@[irreducible] def seenC (rs:List Nat) (n j:Nat):Array Value:=arrK .i64 n fun i=>if j < rs.getD i 0 then 1 else 0
@[irreducible] def txtC (t:List UInt8) (j:Nat):Array Value:=arrK .u8 t.length fun p=>if p < j then 0 else (t.getD p 0).toNat
theorem zerC_eq (n:Nat):Array.replicate n (Value.int .i64 0)=zerC n:=by unfold zerC;exact arrK_zero _ _
theorem filC_zero (L:List Nat):Array.replicate 257 (Value.int .i64 0)=filC L 0:=by
 unfold filC
 rw [arrK_zero]
 exact arrK_congr fun i hi=>by rw [if_neg (by omega)]
theorem filC_set {L:List Nat} {k:Nat} (h:k < 257):(filC L k).setIfInBounds k (.int .i64 ((L.countP (fun x=>decide (x < k)):Nat):Int))=filC L (k+1):=by
 unfold filC
 rw [arrK_set h]
 refine arrK_congr fun i hi=>?_
 by_cases e:i=k
 · subst e
   rw [if_pos rfl,if_pos (by omega)]
   unfold narL
   simp
 · rw [if_neg e]
   by_cases e2:i < k
   · rw [if_pos e2,if_pos (by omega)]
   · rw [if_neg e2,if_neg (by omega)]
theorem filC_end (L:List Nat):filC L 257=firC L 0:=by
 unfold filC firC
 exact arrK_congr fun i hi=>by rw [if_pos hi]
theorem filC_get {L:List Nat} {k s:Nat} (h:s < 257):∃v,(filC L k)[s]?=some v:=by
 unfold filC
 exact ⟨_,arrK_get h⟩
theorem firC_get {L:List Nat} {k s:Nat} (h:s < 257):(firC L k)[s]?=some (.int .i64 ((narL L s k:Nat):Int)):=by
 unfold firC
 exact arrK_get h
theorem firC_set {L:List Nat} {k x:Nat} (hx:L[k]?=some x) (h:x < 257):(firC L k).setIfInBounds x (.int .i64 ((narL L x k+1:Nat):Int))=firC L (k+1):=by
 unfold firC
 rw [arrK_set h]
 refine arrK_congr fun i hi=>?_
 rw [narL_step hx]
 by_cases e:i=x
 · subst e
   simp
 · rw [if_neg e,if_neg e]
theorem toC_zero (L:List Nat) (n:Nat):zerC n=toC L n 0:=by
 unfold zerC toC
 exact arrK_congr fun i hi=>by rw [if_neg (by omega)]
theorem toC_get {L:List Nat} {n k i:Nat} (h:i < n):(toC L n k)[i]?=some (.int .i64 (((if i < k then narL L (L.getD i 0) i else 0:Nat)):Int)):=by
 unfold toC
 exact arrK_get h
theorem toC_set {L:List Nat} {n k x:Nat} (hx:L[k]?=some x) (h:k < n):(toC L n k).setIfInBounds k (.int .i64 ((narL L x k:Nat):Int))=toC L n (k+1):=by
 unfold toC
 rw [arrK_set h]
 refine arrK_congr fun i hi=>?_
 by_cases e:i=k
 · subst e
   rw [if_pos rfl,if_pos (by omega),List.getD_eq_getElem?_getD,hx]
   rfl
 · rw [if_neg e]
   by_cases e2:i < k
   · rw [if_pos e2,if_pos (by omega)]
   · rw [if_neg e2,if_neg (by omega)]
theorem seenC_zero {rs:List Nat} {n j:Nat} (h:∀p∈rs,p≤j):zerC n=seenC rs n j:=by
 unfold zerC seenC
 refine arrK_congr fun i hi=>?_
 rw [if_neg]
 rw [List.getD_eq_getElem?_getD]
 cases e:rs[i]? with
 | none=>simp
 | some p=>simpa using h p (List.mem_of_getElem? e)
theorem seenC_get {rs:List Nat} {n j i:Nat} (h:i < n) (hi:rs[i]?=some j):(seenC rs n j)[i]?=some (.int .i64 0):=by
 unfold seenC
 rw [arrK_get h,List.getD_eq_getElem?_getD,hi]
 simp
theorem seenC_set {rs:List Nat} {n q i:Nat} {l:List Nat} (hs:IsSuf l rs) (hn:rs.length=n) (h:i < n) (hi:rs[i]?=some (q+1)):(seenC rs n (q+1)).setIfInBounds i (.int .i64 ((1:Nat):Int))=seenC rs n q:=by
 unfold seenC
 rw [arrK_set h]
 refine arrK_congr fun k hk=>?_
 by_cases e:k=i
 · subst e
   rw [if_pos rfl,List.getD_eq_getElem?_getD,hi,if_pos (by simp)]
 · rw [if_neg e]
   obtain ⟨p,hp⟩:∃p,rs[k]?=some p:=⟨_,List.getElem?_eq_getElem (by omega)⟩
   have hne:p≠q+1:=fun e2=>e (row_inj hs (by rw [hp,e2]) hi)
   rw [List.getD_eq_getElem?_getD,hp]
   simp only [Option.getD_some]
   by_cases e3:q+1 < p
   · rw [if_pos e3,if_pos (by omega)]
   · rw [if_neg e3,if_neg (by omega)]
theorem txtC_zero (t:List UInt8):Array.replicate t.length (Value.int .u8 0)=txtC t t.length:=by
 unfold txtC
 rw [arrK_zero]
 exact arrK_congr fun i hi=>by rw [if_pos hi]
theorem txtC_set {t:List UInt8} {q:Nat} {c:UInt8} (hc:t[q]?=some c):(txtC t (q+1)).setIfInBounds q (bv c)=txtC t q:=by
 have hq:=(List.getElem?_eq_some_iff.1 hc).1
 unfold txtC bv
 rw [arrK_set hq]
 refine arrK_congr fun i hi=>?_
 by_cases e:i=q
 · subst e
   rw [if_pos rfl,if_neg (by omega),List.getD_eq_getElem?_getD,hc]
   rfl
 · rw [if_neg e]
   by_cases e2:i < q
   · rw [if_pos e2,if_pos (by omega)]
   · rw [if_neg e2,if_neg (by omega)]
theorem txtC_get {t:List UInt8} {j q:Nat} (h:q < t.length):∃v,(txtC t j)[q]?=some v:=by
 unfold txtC
 exact ⟨_,arrK_get h⟩
theorem txtC_end (t:List UInt8):(txtC t 0).toList=t.map bv:=by
 unfold txtC
 rw [arrK_list]
 apply List.ext_getElem?
 intro i
 rw [List.getElem?_map,List.getElem?_map]
 by_cases h:i < t.length
 · rw [List.getElem?_range h,List.getElem?_eq_getElem h]
   simp [bv,h]
 · rw [List.getElem?_eq_none (by simpa using h),List.getElem?_eq_none (by simpa using h)]
   rfl
theorem txtC_size (t:List UInt8) (j:Nat):(txtC t j).size=t.length:=by unfold txtC;exact arrK_size _ _ _
theorem run_bytes (n:Nat) (hn:n≤1000000) (w:World):(Instr.makeSlice 23 (.int .i64 (n:Int)) (.int .i64 (n:Int))).run Tryz.prog w=.ok (.slice (some ⟨w.heap.size,0,none⟩) n n) (w.alloc (.cells (Array.replicate n (.int .u8 0)) 5)):=by
 obtain ⟨i0,hi0,hz0,hz1,hz2⟩:=info_parts u8_info
 have:=run_make (P:=Tryz.prog) w 23 5 i0 (.int .u8 0) Tryz.underlying23 hi0 hz0 .i64 .i64 n n (by omega) (Int.le_refl _) (by rw [hz2];omega) (by omega)
 rw [this,hz1]
 have e:madeCells #[.int .u8 0] n=Array.replicate n (.int .u8 0):=by
  apply Array.ext'
  rw [toList_madeCells_one]
  simp
 simp only [Value.cells,Int.toNat_natCast,Nat.mul_one]
 rw [e]
theorem SortedBack_any (A:Option Addr) (c B:Nat) (t:List UInt8) (rs:List Nat) (w:World) (hs:IsSuf (symL t) rs) (hr:Rd w B 1 A (t.length+1) ((lastL (symL t) rs).map sv)) (hB:B≤w.heap.size) (hm:t.length≤127):
 Calls Tryz.prog 91 #[.slice A (t.length+1) c] w fun e w'=>∃A' c',e=.returned (.tuple #[.slice A' t.length c',.bool true])∧Made w' w.heap.size 5 1 A' t.length c' (t.map bv)∧Below w.heap.size w w':=by
 obtain ⟨L,hL⟩:∃L,lastL (symL t) rs=L:=⟨_,rfl⟩
 have hlt:=lastL_lt (rs:=rs) (symL_lt t)
 have hc0:=count_zero hs
 have hlen:L.length=t.length+1:=by rw [←hL,lastL_len,hs.len,symL_len]
 rw [hL] at hr hlt hc0
 obtain ⟨N,hN⟩:∃N,t.length=N:=⟨_,rfl⟩
 obtain ⟨n,hn⟩:∃n,N+1=n:=⟨_,rfl⟩
 rw [hN,hn] at hr hlen
 rw [hN] at hm
 have hnew:=TallyNew_any A n c B L w hr hB (by omega) hlt
 obtain ⟨bA,oA,rfl,hbA,hcA⟩:=hr.2 (by omega)
 have hcell:∀wr,Below w.heap.size w wr→∀(k x:Nat),L[k]?=some x→wr.cell? ⟨bA,oA+k,none⟩=some (.int .i64 (x:Int)):=fun wr hb k x hx=>(hb.cell (p:=⟨bA,oA+k,none⟩) (Nat.lt_of_lt_of_le hbA hB)).trans (hcA k _ (by rw [List.getElem?_map,hx];rfl))
 have Hr:=lhd hr
 have Hcell:=lhd hcell
 have Hlt:=lhd hlt
 have Hlen:=lhd hlen
 have HL:=lhd hL
 have HN:=lhd hN
 have Hc0:=lhd hc0
 rw [hN,hn]
 clear hr hcA hcell hlt hlen hL hN hc0
 go_enter Tryz.func91,Tryz.ntmps91
 go_wp2_with fail
 refine hnew.mono ?_
 clear hnew
 rintro e w1 ⟨gt,rfl,hgt,hbt,hb1⟩
 have Hbt:=lhd hbt
 have Hb1:=lhd hb1
 clear hbt hb1
 go_wp2_with fail
 have hof:=TallyOf_any gt L 0 w1 Hbt.out (by omega)
 rw [Hc0.out] at hof
 refine hof.mono ?_
 clear hof
 rintro e W0 ⟨rfl,hb2⟩
 have Hbt0:=lhd (Hbt.out.below hb2 Hbt.out.lt)
 have Hb0:=lhd (Hb1.out.trans (hb2.mono Hb1.out.size))
 clear hb2 Hbt Hb1
 go_wp2_with fail
 have hn128:n≤128:=by omega
 refine wp_region_any (by kernel_rfl) ?_
 refine wpAny_link [29,30,31,32,33,34,6,7] [31,34] 8 (Grow) (Below W0.heap.size W0) [k0 (is (.slice (some ⟨bA,oA,none⟩) n c)),k0 (is (.int .i64 (n:Int))),k0 (fun v w2=>∃g,v=.slice (some ⟨g,0,none⟩) n n∧W0.heap.size≤g∧Bk w2 g 3 (zerC n)),k0 (is (.slice (some ⟨bA,oA,none⟩) n c)),k0 (is (.int .i64 (n:Int))),k0 (fun v w2=>∃g,v=.slice (some ⟨g,0,none⟩) n n∧W0.heap.size≤g∧Bk w2 g 3 (zerC n)),kEq 31,kEq 34] _ _ rfl (by kernel_rfl) (by kernel_rfl) ((Below.refl _ _).drew) (apart_none rfl) (fun w w' h k=>k.elim (fun k=>h.trans (k.mono h.size)) (fun k=>h.trans (k.mono h.size))) (by repeat' (first | exact dep_k0 _ | exact dep_kEq _ |(refine List.forall_mem_cons.2 ⟨?_,?_⟩)|(intro p hp;cases hp))) (by repeat' (first | exact stbq_is _ _ | exact stbq_kEq _ _ | exact stbq_k0 (fun _ _ _ ⟨g,h1,h2,h3⟩ k=>⟨g,h1,h2,h3.below k h3.lt⟩)|(refine List.forall_mem_cons.2 ⟨?_,?_⟩)|(intro p hp;cases hp))) (by simp only [List.eraseIdx_cons_zero,List.eraseIdx_cons_succ,List.eraseIdx_nil];repeat' (first | exact stbq_is _ _ | exact stbq_kEq _ _ | exact stbq_k0 (fun _ _ _ ⟨g,h1,h2,h3⟩ k=>⟨g,h1,h2,h3.below k h3.lt⟩)|(refine List.forall_mem_cons.2 ⟨?_,?_⟩)|(intro p hp;cases hp))) ?_ ?_
 · refine steps_of ?_
   refine steps_cons (step_onF rfl rfl fun ev _ _ _ _ _ hold _ _ _ _ hK=>?_) ?_
   · have e0:ev (.tmp 0)=.slice (some ⟨bA,oA,none⟩) n c:=hold 0 (by kernel_rfl)
     clear hold
     go_simp
     exact hK _ _ (lstep_grow (Below.refl _ _) rfl rfl) rfl
   refine steps_cons (step_onF rfl rfl fun _ _ _ _ _ _ hold hval _ _ _ hK=>?_) ?_
   · have e29:_=_:=hval 0 29 (by kernel_rfl) rfl
     clear hold
     go_simp
     exact hK _ _ (lstep_grow (Below.refl _ _) rfl rfl) rfl
   refine steps_cons (step_onF rfl rfl fun _ _ hCA _ _ _ hold hval _ _ _ hK=>?_) ?_
   · obtain ⟨hS,hAp⟩:=hCA
     have e30:_=_:=hval 1 30 (by kernel_rfl) rfl
     clear hold
     have kz:=run_ints n (by omega)
     go_simp
     exact hK _ _ (lstep_new ((Below.refl _ _).alloc (Nat.le_refl _) _) rfl (fun g hg=>by simp [blk?] at hg;subst hg;simp)) ⟨_,rfl,hS.size,by rw [←zerC_eq];exact Bk.new _ _ _⟩
   refine steps_cons (step_onF rfl rfl fun ev _ _ _ _ _ hold _ _ _ _ hK=>?_) ?_
   · have e0:ev (.tmp 0)=.slice (some ⟨bA,oA,none⟩) n c:=hold 0 (by kernel_rfl)
     clear hold
     go_simp
     exact hK _ _ (lstep_grow (Below.refl _ _) rfl rfl) rfl
   refine steps_cons (step_onF rfl rfl fun _ _ _ _ _ _ hold hval _ _ _ hK=>?_) ?_
   · have e32:_=_:=hval 3 32 (by kernel_rfl) rfl
     clear hold
     go_simp
     exact hK _ _ (lstep_grow (Below.refl _ _) rfl rfl) rfl
   refine steps_cons (step_onF rfl rfl fun _ _ hCA _ _ _ hold hval _ _ _ hK=>?_) ?_
   · obtain ⟨hS,hAp⟩:=hCA
     have e33:_=_:=hval 4 33 (by kernel_rfl) rfl
     clear hold
     have kz:=run_ints n (by omega)
     go_simp
     exact hK _ _ (lstep_new ((Below.refl _ _).alloc (Nat.le_refl _) _) rfl (fun g hg=>by simp [blk?] at hg;subst hg;simp)) ⟨_,rfl,hS.size,by rw [←zerC_eq];exact Bk.new _ _ _⟩
   refine steps_cons (step_onF rfl rfl fun _ _ _ _ _ _ hold _ _ _ _ hK=>?_) ?_
   · clear hold
     go_simp
     exact hK _ _ (lstep_grow (Below.refl _ _) rfl rfl) rfl
   refine steps_cons (step_onF rfl rfl fun _ _ _ _ _ _ hold _ _ _ _ hK=>?_) ?_
   · clear hold
     go_simp
     exact hK _ _ (lstep_grow (Below.refl _ _) rfl rfl) rfl
   exact steps_nil
 · intro ev w6 hS hAp hval hall
   have e6:ev (.tmp 6)=ev (.tmp 31):=hval 6 6 rfl
   have e7:ev (.tmp 7)=ev (.tmp 34):=hval 7 7 rfl
   have p31:(fun v w2=>∃g,v=.slice (some ⟨g,0,none⟩) n n∧W0.heap.size≤g∧Bk w2 g 3 (zerC n)) (ev (.tmp 31)) w6:=hval 2 31 rfl
   have p34:(fun v w2=>∃g,v=.slice (some ⟨g,0,none⟩) n n∧W0.heap.size≤g∧Bk w2 g 3 (zerC n)) (ev (.tmp 34)) w6:=hval 5 34 rfl
   simp only [putsOf,List.foldl_cons,List.foldl_nil,Act.put,List.setIfInBounds_toArray,List.set_cons_zero,List.set_cons_succ]
   clear hval hall
   obtain ⟨gs,hs1,hs2,hs3⟩:=p31
   obtain ⟨go,ho1,ho2,ho3⟩:=p34
   have hd1:gs≠go:=fun e=>hAp.2 31 (by simp) 34 (by simp) (by decide) gs (by rw [hs1];rfl) (by rw [ho1,e];rfl)
   have hb6:=Hb0.out.trans (hS.mono Hb0.out.size)
   have hbt6:=Hbt0.out.below hS Hbt0.out.lt
   have hge:=Hb0.out.size
   rw [e6,e7,hs1,ho1]
   generalize ev (.tmp 29)=u29
   generalize ev (.tmp 30)=u30
   generalize ev (.tmp 32)=u32
   generalize ev (.tmp 33)=u33
   have Hs3:=lhd hs3
   have Ho3:=lhd ho3
   have Hb6:=lhd hb6
   have Hbt6:=lhd hbt6
   clear hs3 ho3 hb6 hbt6 hAp e6 e7 hs1 ho1 hS
   go_wp2_with fail
   obtain ⟨gf,hgf⟩:∃g,w6.heap.size=g:=⟨_,rfl⟩
   have hf0:Bk (w6.alloc (.cells Tryz.zeroCells206 206)) gf 206 (filC L 0):=by
    rw [←hgf,←filC_zero]
    exact Bk.new _ _ _
   have hs0:=Hs3.out.alloc (.cells Tryz.zeroCells206 206)
   have ho0:=Ho3.out.alloc (.cells Tryz.zeroCells206 206)
   have ht0:=Hbt6.out.alloc (.cells Tryz.zeroCells206 206)
   have hb0:=Hb6.out.alloc Hb6.out.size (.cells Tryz.zeroCells206 206)
   have hgfs:gs < gf:=by rw [←hgf];exact Hs3.out.lt
   have hgfo:go < gf:=by rw [←hgf];exact Ho3.out.lt
   have hgft:gt < gf:=by rw [←hgf];exact Hbt6.out.lt
   have hgts:gt≠gs:=Bk.ne Hbt6.out Hs3.out (by decide)
   have hgto:gt≠go:=Bk.ne Hbt6.out Ho3.out (by decide)
   rw [hgf]
   generalize w6.alloc (.cells Tryz.zeroCells206 206)=W1 at hf0 hs0 ho0 ht0 hb0⊢
   clear Hs3 Ho3 Hb6 Hbt6 Hbt0 Hb0 hgf
   go_loopw [35] (fun i wr=>∃k:Nat,k≤257∧i=.int .i64 (k:Int)∧Bk wr gf 206 (filC L k)∧Bk wr gs 3 (zerC n)∧Bk wr go 3 (zerC n)∧Bk wr gt 232 (tcells L)∧Below w.heap.size w wr) (fun i _=>257 -(intOf i).toNat)
   case atStart=>exact ⟨0,by omega,rfl,hf0,hs0,ho0,ht0,hb0⟩
   case round=>
    clear hf0 hs0 ho0 ht0 hb0
    obtain ⟨k,hk,rfl,hf,hz,ho,ht,hb⟩:=hrel
    by_cases hlt:k < 257
    · have hk1:((k:Int) < 257):=by omega
      have hbel:=TallyBelow_any gt L k wr ht hlt (by rw [Hlen.out];omega)
      obtain ⟨q,hq⟩:∃q,L.countP (fun x=>decide (x < k))=q:=⟨_,rfl⟩
      have hset:=filC_set (L:=L) hlt
      rw [hq] at hbel hset
      have Hf:=lhd hf
      have Hz:=lhd hz
      have Ho:=lhd ho
      have Ht:=lhd ht
      have Hset:=lhd hset
      clear hf hz ho ht hset hq
      go_wp2_with fail
      refine hbel.mono ?_
      clear hbel
      rintro e w7 ⟨rfl,hb7⟩
      have hf7:=Hf.out.below hb7 Hf.out.lt
      obtain ⟨v0,hv0⟩:=filC_get (L:=L) (k:=k) hlt
      have c7:=(hf7.cell k).trans hv0
      have f7:=hf7.frozen k
      have Hf7:=lhd hf7
      clear hf7 hv0
      go_wp2_with fail
      go_roundw
      case rel=>exact ⟨k+1,by omega,by go_num,by rw [←Hset.out];exact Hf7.out.set k _,(Hz.out.below hb7 Hz.out.lt).far (by simp;omega) _,(Ho.out.below hb7 Ho.out.lt).far (by simp;omega) _,(Ht.out.below hb7 Ht.out.lt).far (by simp;omega) _,(hb.trans (hb7.mono hb.size)).setCell (by simp;omega) _⟩
      case measure=>simp [intOf];omega
    · have hks:k=257:=by omega
      subst hks
      rw [filC_end] at hf
      have e257:((257:Nat):Int)=257:=rfl
      rw [e257]
      clear e257
      have Hf:=lhd hf
      have Hz:=lhd hz
      have Ho:=lhd ho
      have Hb:=lhd hb
      clear hf hz ho ht hb hlt hk
      go_wp2_with fail
      have hgo0:w.heap.size≤go:=by omega
      have hgs0:w.heap.size≤gs:=by omega
      have hgf0:w.heap.size≤gf:=by omega
      have hne1:gf≠go:=by omega
      have hne2:go≠gf:=by omega
      go_loopw [46] (fun i wr=>∃k:Nat,k≤n∧i=.int .i64 (k:Int)∧Bk wr gf 206 (firC L k)∧Bk wr gs 3 (zerC n)∧Bk wr go 3 (toC L n k)∧Below w.heap.size w wr) (fun i _=>n -(intOf i).toNat)
      case atStart=>exact ⟨0,by omega,rfl,Hf.out,Hz.out,by rw [←toC_zero];exact Ho.out,Hb.out⟩
      case round=>
         clear Hf Hz Ho Hb
         obtain ⟨k,hk,rfl,hf,hz,ho,hb⟩:=hrel
         by_cases hlt:k < n
         · obtain ⟨x,hx⟩:∃x,L[k]?=some x:=⟨_,List.getElem?_eq_getElem (by rw [Hlen.out];exact hlt)⟩
           have hx257:=Hlt.out x (List.mem_of_getElem? hx)
           have c1:=Hcell.out wr hb k x hx
           obtain ⟨q,hq⟩:∃q,narL L x k=q:=⟨_,rfl⟩
           have hql:q≤1000:=by
            have:=narL_le L x k
            rw [hq,Hlen.out] at this
            omega
           have c2:wr.cell? ⟨gf,x,none⟩=some (.int .i64 (q:Int)):=by rw [←hq];exact (hf.cell x).trans (firC_get hx257)
           have f2:=hf.frozen x
           have c3:wr.cell? ⟨go,k,none⟩=some (.int .i64 (((if k < k then narL L (L.getD k 0) k else 0:Nat)):Int)):=(ho.cell k).trans (toC_get hlt)
           have f3:=ho.frozen k
           have hset1:=toC_set hx hlt
           have hset2:=firC_set hx hx257
           rw [hq] at hset1 hset2
           have hadd:IntKind.i64.wrap ((q:Int)+1)=((q+1:Nat):Int):=by rw [IntKind.wrap_i64];omega
           have Hf:=lhd hf
           have Hz:=lhd hz
           have Ho:=lhd ho
           have Hset1:=lhd hset1
           have Hset2:=lhd hset2
           clear hf hz ho hset1 hset2 hq
           go_wp2_with fail
           go_roundw
           case rel=>exact ⟨k+1,by omega,by go_num,by rw [←Hset2.out];exact (Hf.out.far (p:=⟨go,k,none⟩) hne1 _).set x _,(Hz.out.far (p:=⟨go,k,none⟩) hd1 _).far (p:=⟨gf,x,none⟩) (Nat.ne_of_lt hgfs) _,by rw [←Hset1.out];exact (Ho.out.set k _).far (p:=⟨gf,x,none⟩) hne2 _,(hb.setCell (p:=⟨go,k,none⟩) hgo0 _).setCell (p:=⟨gf,x,none⟩) hgf0 _⟩
           case measure=>simp [intOf];omega
         · have hks:n=k:=by omega
           subst hks
           have Hz:=lhd hz
           have Ho:=lhd ho
           have Hb:=lhd hb
           have hge2:=hb.size
           clear hf hz ho hb hlt hk hne1 hne2
           have hNn:((n:Int) - 1)=(N:Int):=by omega
           have kz:=run_bytes N (by omega)
           go_wp2_with fail
           obtain ⟨gx,hgx⟩:∃g,wr.heap.size=g:=⟨_,rfl⟩
           have hx0:Bk (wr.alloc (.cells (Array.replicate N (.int .u8 0)) 5)) gx 5 (txtC t N):=by
            rw [←hgx,←HN.out,←txtC_zero]
            exact Bk.new _ _ _
           have hs0:=Hz.out.alloc (.cells (Array.replicate N (.int .u8 0)) 5)
           have ho0:=Ho.out.alloc (.cells (Array.replicate N (.int .u8 0)) 5)
           have hb0:=Hb.out.alloc Hb.out.size (.cells (Array.replicate N (.int .u8 0)) 5)
           have hgxs:gs≠gx:=Nat.ne_of_lt (by rw [←hgx];exact Hz.out.lt)
           have hgxo:go≠gx:=Nat.ne_of_lt (by rw [←hgx];exact Ho.out.lt)
           have hgx0:w.heap.size≤gx:=by rw [←hgx];exact Hb.out.size
           rw [hgx]
           generalize wr.alloc (.cells (Array.replicate N (.int .u8 0)) 5)=W2 at hx0 hs0 ho0 hb0⊢
           clear Hz Ho Hb hgx kz hge2
           have hrl:rs.length=n:=by
            have:=congrArg List.length HL.out
            rw [lastL_len,Hlen.out] at this
            exact this
           have hle:∀p∈rs,p≤N:=fun p hp=>by
            have:=hs.lt hp
            rw [symL_len,HN.out] at this
            omega
           rw [seenC_zero hle] at hs0
           have hrow0:=row_zero hs
           rw [HN.out] at hrow0
           have Hrl:=lhd hrl
           have Hle:=lhd hle
           have Hs:=lhd hs
           clear hrl hle
           go_loopw [13,14] (fun r i wr=>∃j p:Nat,j≤N∧rs[p]?=some j∧r=.int .i64 (p:Int)∧i=.int .i64 ((j:Int) - 1)∧Bk wr gs 3 (seenC rs n j)∧Bk wr go 3 (toC L n n)∧Bk wr gx 5 (txtC t j)∧Below w.heap.size w wr) (fun _ i _=>(intOf i+1).toNat)
           case atStart=>exact ⟨N,0,by omega,hrow0,rfl,by first | rfl | go_num,hs0,ho0,hx0,hb0⟩
           case round=>
            clear hs0 ho0 hx0 hb0 hrow0
            obtain ⟨j,p,hj,hp,rfl,rfl,hz,ho,hx,hb⟩:=hrel
            have hpl:p < n:=by rw [←Hrl.out];exact (List.getElem?_eq_some_iff.1 hp).1
            by_cases hj0:j=0
            · subst hj0
              have hl0:=last_zero Hs.out hp
              rw [HL.out] at hl0
              have c1:=Hcell.out wr hb p 0 hl0
              have hj1:(((0:Nat):Int) - 1)=-1:=rfl
              rw [hj1]
              have hmx:=made_bk (B:=w.heap.size) hx hgx0 ((txtC_size t 0).trans HN.out) (by unfold maxLen;omega)
              rw [txtC_end] at hmx
              have Hmx:=lhd hmx
              have Hb:=lhd hb
              clear hz ho hx hb hmx hl0
              have hlast:=SortedLast_any (some ⟨gx,0,none⟩) N N wr.heap.size t wr Hmx.out.rd (Nat.le_refl _) (by omega)
              rw [hn] at hlast
              go_wp2_with fail
              refine hlast.mono ?_
              clear hlast
              rintro e w8 ⟨rs2,A8,c8,hs2,rfl,hm8,hb8⟩
              have hrs:=hs2.unique Hs.out
              subst hrs
              rw [HL.out] at hm8
              have hsame:=SortedSame_any A8 (some ⟨bA,oA,none⟩) n c8 c w8.heap.size L w8 hm8.rd (((Hr.out.below (Hb.out.mono hB)).below (hb8.mono (by have:=Hb.out.size;omega))).mono (by have:=Hb.out.size;have:=hb8.size;omega)) (Nat.le_refl _) (by omega)
              have Hb8:=lhd hb8
              clear hb8 hm8 hs2 c1
              go_wp2_with fail
              refine hsame.mono ?_
              clear hsame
              rintro e w9 ⟨rfl,hb9⟩
              have Hb9:=lhd hb9
              clear hb9
              go_wp2_with fail
              go_ret2
              have hb89:=Hb8.out.trans (Hb9.out.mono Hb8.out.size)
              exact ⟨_,_,rfl,Hmx.out.below hb89,Hb.out.trans (hb89.mono Hb.out.size)⟩
            · obtain ⟨q,rfl⟩:∃q,j=q+1:=⟨j - 1,by omega⟩
              have hq1:(((q+1:Nat):Int) - 1)=(q:Int):=by omega
              rw [hq1]
              have hqN:q < t.length:=by rw [HN.out];omega
              obtain ⟨ch,hch⟩:∃ch,t[q]?=some ch:=⟨_,List.getElem?_eq_getElem hqN⟩
              obtain ⟨p2,hp2l,hp2e⟩:=Hs.out.row (p:=q) (by rw [symL_len,HN.out];omega)
              have hp2:rs[p2]?=some q:=by rw [List.getElem?_eq_getElem hp2l,hp2e]
              obtain ⟨ho1,ho2⟩:=on_row Hs.out hp hp2 hch
              rw [HL.out] at ho1 ho2
              have c1:=Hcell.out wr hb p _ ho1
              obtain ⟨s,hsv⟩:∃s,ch.toNat+1=s:=⟨_,rfl⟩
              have hby:=SymByte_any ch s hsv.symm wr
              rw [hsv] at ho1 ho2 c1
              have hset1:=seenC_set (n:=n) Hs.out Hrl.out hpl hp
              have hset2:=txtC_set hch
              have hgo:(toC L n n)[p]?=some (.int .i64 (p2:Int)):=by
               rw [toC_get hpl,if_pos hpl,List.getD_eq_getElem?_getD,ho1]
               show some (Value.int .i64 ((narL L s p:Nat):Int))=_
               rw [ho2]
              obtain ⟨v0,hv0⟩:=txtC_get (t:=t) (j:=q+1) hqN
              have Hp2:=lhd hp2
              have Hset1:=lhd hset1
              have Hset2:=lhd hset2
              have Hgo:=lhd hgo
              have Hz:=lhd hz
              have Ho:=lhd ho
              have Hx:=lhd hx
              have Hv0:=lhd hv0
              have Hsg:=lhd (seenC_get hpl hp)
              clear hp2 hp2e hp2l ho1 ho2 hsv hset1 hset2 hgo hz ho hx hv0 hch
              go_wp2_with fail
              refine hby.mono ?_
              clear hby
              rintro e w8 ⟨rfl,hb8⟩
              have hz8:=Hz.out.below hb8 Hz.out.lt
              have ho8:=Ho.out.below hb8 Ho.out.lt
              have hx8:=Hx.out.below hb8 Hx.out.lt
              have d1:=(hz8.cell p).trans Hsg.out
              have d2:=hz8.frozen p
              have d3:=(ho8.cell p).trans Hgo.out
              have d4:=(hx8.cell q).trans Hv0.out
              have d5:=hx8.frozen q
              have hgos:go≠gs:=fun e=>hd1 e.symm
              have hgxs2:gx≠gs:=fun e=>hgxs e.symm
              have hgxo2:gx≠go:=fun e=>hgxo e.symm
              have Hz8:=lhd hz8
              have Ho8:=lhd ho8
              have Hx8:=lhd hx8
              have Hb8:=lhd (hb.trans (hb8.mono hb.size))
              clear hz8 ho8 hx8 hb8 hb
              unfold bv
              go_wp2_with fail
              go_roundw
              case rel=>
               refine ⟨q,p2,by omega,Hp2.out,rfl,?_,?_,?_,?_,?_⟩
               · first | rfl | go_num
               · rw [←Hset1.out]
                 exact (Hz8.out.set p _).far (p:=⟨gx,q,none⟩) hgxs _
               · exact (Ho8.out.far (p:=⟨gs,p,none⟩) hgos _).far (p:=⟨gx,q,none⟩) hgxo _
               · rw [←Hset2.out]
                 exact (Hx8.out.far (p:=⟨gs,p,none⟩) hgxs2 _).set q _
               · exact (Hb8.out.setCell (p:=⟨gs,p,none⟩) hgs0 _).setCell (p:=⟨gx,q,none⟩) hgx0 _
              case measure=>simp [intOf]
end Go.Proofs.YtipaccakmndkgaaGreatDoor
namespace Go.Proofs.YtipaccakmndkgaaGreatDoor
open Go.RowKit Go.Shelf
theorem PermPosR_none (gp R P:Nat) (pr:List (Nat×Nat)) (row:Nat) (w:World) (h:PermR w gp R P pr) (hno:∀x∈pr,x.1≠row):
 Calls Tryz.prog 219 #[.pointer (some ⟨gp,0,none⟩),.int .i64 (row:Int)] w fun e w'=>e=.returned (.int .i64 (-1))∧Below w.heap.size w w':=by
 obtain ⟨B,ga,vl,vo,vt,vf,ks,C,tk,fr,h1,h2,h3,h4,rfl⟩:=h
 exact PermPos_none B gp ga vl vo vt vf R P ks C tk fr row w h1 h2 (by omega) fun k hk=>hno _ (List.mem_map.2 ⟨k,hk,rfl⟩)
theorem PermPosR_some (gp R P:Nat) (pr:List (Nat×Nat)) (row pos:Nat) (w:World) (h:PermR w gp R P pr) (hin:(row,pos)∈pr):
 Calls Tryz.prog 219 #[.pointer (some ⟨gp,0,none⟩),.int .i64 (row:Int)] w fun e w'=>e=.returned (.int .i64 (pos:Int))∧Below w.heap.size w w':=by
 obtain ⟨B,ga,vl,vo,vt,vf,ks,C,tk,fr,h1,h2,h3,h4,rfl⟩:=h
 obtain ⟨k,hk,e⟩:=List.mem_map.1 hin
 injection e with e1 e2
 subst e2
 exact PermPos_some B gp ga vl vo vt vf R P ks C tk fr row k w h1 h2 (by omega) (by omega) hk e1
theorem LivePosG_any (Bw gl gk gp rate:Nat) (t:List UInt8) (rs:List Nat) (C:List (Nat×Nat)) (i p:Nat) (w:World) (h:LiveG w Bw gl gk gp rate (t.length+1) (lastL (symL t) rs) C) (hrt:∀x∈C,rs[x.1]?=some x.2) (hz0:∃x∈C,x.2=0) (hs:IsSuf (symL t) rs) (hn:t.length≤127) (hip:rs[i]?=some p):
 Calls Tryz.prog 171 #[.pointer (some ⟨gl,0,none⟩),.int .i64 (i:Int)] w fun e w'=>e=.returned (.int .i64 (p:Int))∧VB Bw w w':=by
 have hl:rs.length=t.length+1:=by rw [hs.len,symL_len]
 have hi:=(List.getElem?_eq_some_iff.1 hip).1
 have hL:(lastL (symL t) rs).length=t.length+1:=by rw [lastL_len,hl]
 have hpN:p < t.length+1:=by
  have:=hs.lt (List.mem_of_getElem? hip)
  rwa [symL_len] at this
 obtain ⟨N,hN⟩:∃N,t.length=N:=⟨_,rfl⟩
 have hz1:∀a:Nat,rs[a]?=some 0→(a,0)∈C:=fun a ha=>by
  obtain ⟨⟨r,q⟩,hx,e⟩:=hz0
  have e':q=0:=e
  subst e'
  have h1:rs[r]?=some 0:=hrt _ hx
  rw [row_inj hs ha h1]
  exact hx
 have hpr:∀a b b':Nat,rs[a]?=some b→(a,b')∈C→b'=b:=fun a b b' hab hm=>by
  have h1:rs[a]?=some b':=hrt _ hm
  rw [hab] at h1
  injection h1 with h1
  exact h1.symm
 have hstep:∀a b:Nat,rs[a]?=some (b+1)→∃s a',(lastL (symL t) rs)[a]?=some s∧narL (lastL (symL t) rs) s a=a'∧rs[a']?=some b:=fun a b hab=>by
  obtain ⟨ha,ea⟩:=List.getElem?_eq_some_iff.1 hab
  have hbm:b+1 < (symL t).length:=hs.lt (List.mem_of_getElem? hab)
  obtain ⟨a',ha',ea'⟩:=hs.row (p:=b) (by omega)
  have he:=symL_end t
  have hla:=lastL_at he ha ea (by rw [symL_len] at hbm;omega)
  exact ⟨(symL t).getD b 0,a',List.getElem?_eq_some_iff.2 ⟨_,hla⟩,lf hs he ha ha' ea ea',List.getElem?_eq_some_iff.2 ⟨ha',ea'⟩⟩
 rw [hN] at h
 rw [hN] at hL hpN hn hl
 have hiI:¬(N:Int) < (i:Int):=by omega
 have hi0:decide ((i:Int) < 0)=false:=by simp
 have hi2:decide ((i:Int) > (N:Int))=false:=by simp;omega
 have hi3:decide (N < i)=false:=by simp;omega
 have H:=lhd h
 have Hz1:=lhd hz1
 have Hpr:=lhd hpr
 have Hstep:=lhd hstep
 have HL:=lhd hL
 have HLt:=lhd (lastL_lt (symL_lt t) (rs:=rs))
 have Hip:=lhd hip
 obtain ⟨mv,hblk⟩:=h.blk
 have c0:=hblk.cell 0
 have c1:=hblk.cell 1
 have hlt:=hblk.lt
 clear h hz1 hpr hz0 hrt hstep hL hs hip hi hN hl hblk
 go_enter Tryz.func171,Tryz.ntmps171
 go_wp2_with fail
 refine (LiveLen_any Bw gl _ N w H.out.lvw HL.out (by omega)).mono ?_
 rintro e w1 ⟨rfl,rfl⟩
 go_wp2_with fail
 clear c0 c1 hiI hi0 hi2 hi3
 go_loopw [1,5] (fun x y wr=>∃a b m:Nat,rs[a]?=some b∧b+m=p∧x=.int .i64 (a:Int)∧y=.int .i64 (m:Int)∧VB Bw w wr) (fun _ y _=>p+1 -(intOf y).toNat)
 case atStart=>exact ⟨i,p,0,Hip.out,rfl,rfl,rfl,VisK.refl _ _⟩
 case round=>
  obtain ⟨a,b,m,hab,hbm,rfl,rfl,hv⟩:=hrel
  have h1:=H.out.vis hv.1
  obtain ⟨mv1,hblk1⟩:=h1.blk
  have c0:=hblk1.cell 0
  have c1:=hblk1.cell 1
  have hlt1:=hblk1.lt
  have Hv:=lhd hv
  have H1:=lhd h1
  have Hab:=lhd hab
  clear h1 hv hab hblk1
  by_cases hb0:∃b',(a,b')∈C
  · obtain ⟨b',hb1⟩:=hb0
    have hbb:=Hpr.out a b b' Hab.out hb1
    subst hbb
    have Hin:=lhd hb1
    have hbI:¬(b':Int) < 0:=by omega
    have hsum:IntKind.i64.wrap ((b':Int)+(m:Int))=(p:Int):=by rw [IntKind.wrap_i64];omega
    clear hb1 hbm
    go_wp2_with fail
    refine (PermPosR_some gp (N+1) (N+1) C a b' wr H1.out.perm Hin.out).mono ?_
    rintro e w2 ⟨rfl,hb2⟩
    have h2:=H1.out.vis (Vis.of_below hb2)
    obtain ⟨mv2,hblk2⟩:=h2.blk
    have c20:=hblk2.cell 0
    have c21:=hblk2.cell 1
    have hlt2:=hblk2.lt
    have hv2:=Hv.out.below hb2
    have Hv2:=lhd hv2
    have H2:=lhd h2
    clear c0 c1 h2 hv2 hb2 hblk2
    go_wp2_with fail
    refine (PermPosR_some gp (N+1) (N+1) C a b' w2 H2.out.perm Hin.out).mono ?_
    rintro e w3 ⟨rfl,hb3⟩
    have hv3:=Hv2.out.below hb3
    have Hv3:=lhd hv3
    clear c20 c21 hv3 hb3
    go_wp2_with fail
    go_ret
    exact ⟨rfl,Hv3.out⟩
  · have hno:∀x∈C,x.1≠a:=fun x hx e=>hb0 ⟨x.2,by rw [←e];exact hx⟩
    have Hno:=lhd hno
    obtain ⟨b',rfl⟩:∃b',b=b'+1:=⟨b - 1,by
        rcases Nat.eq_zero_or_pos b with h0 | h0
        · subst h0
          exact absurd ⟨0,Hz1.out a Hab.out⟩ hb0
        · omega⟩
    obtain ⟨s,a',hs1,hs2,hs3⟩:=Hstep.out a b' Hab.out
    have Hs1:=lhd hs1
    have Hs2:=lhd hs2
    have Hs3:=lhd hs3
    clear hno hb0 hs1 hs2 hs3
    go_wp2_with fail
    refine (PermPosR_none gp (N+1) (N+1) C a wr H1.out.perm Hno.out).mono ?_
    rintro e w2 ⟨rfl,hb2⟩
    have h2:=H1.out.vis (Vis.of_below hb2)
    obtain ⟨mv2,hblk2⟩:=h2.blk
    have c20:=hblk2.cell 0
    have c21:=hblk2.cell 1
    have hlt2:=hblk2.lt
    have hv2:=Hv.out.below hb2
    have Hv2:=lhd hv2
    have H2:=lhd h2
    clear c0 c1 h2 hv2 hb2 hblk2
    go_wp2_with fail
    refine (WalkBack_any Bw gk _ a s w2 H2.out.walk Hs1.out HLt.out (by rw [HL.out];omega)).mono ?_
    rintro e w3 ⟨rfl,hv3⟩
    rw [Hs2.out]
    have hv4:=Hv2.out.trans hv3
    have Hv4:=lhd hv4
    clear c20 c21 hv3 hv4
    go_wp2_with fail
    go_roundw
    case rel=>exact ⟨a',b',m+1,Hs3.out,by omega,rfl,by go_num,Hv4.out⟩
    case measure=>simp [intOf];omega
end Go.Proofs.YtipaccakmndkgaaGreatDoor
