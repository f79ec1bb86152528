/- The walks of the wave's look with the closures of Insert and Delete. Conditions: at most 128 bits behind the edit; the tree owns its blocks. Plain laws: the backward search over a transform counts where a pattern stands. No conditions. -/
import Derived.Test.YtipaccakmndkgaaGreatPwa23
import Derived.Test.YtipaccakmndkgaaGreatPwa12
import Derived.Test.YtipaccakmndkgaaGreatPwa24
namespace Go.Proofs.YtipaccakmndkgaaGreat
open Go.RowKit
set_option linter.unusedVariables false
set_option linter.unusedSimpArgs false
theorem Gw.gw {F:Nat→Prop} {n m:Nat} (h:n≤m):∀b,Gw (Gw F n) m b→Gw F n b:=fun b hb=>by
 rcases hb with hb | hb
 · exact hb
 · exact .inr (by omega)
set_option maxRecDepth 100000 in
theorem InsertC_any (gt gk gb:Nat) (lv p:Int) (F:Nat→Prop) (bs:List Bool) (k:Nat) (b:Bool) (w:World) (ht:TreeE w F gt bs) (hk:Bk w gk 3 #[.int .i64 (k:Int)]) (hb:Bk w gb 4 #[.bool b]) (hl:bs.length≤127) (hkl:k≤bs.length):
 Calls Tryz.prog 98 #[.agg #[.pointer (some ⟨gt,0,none⟩),.int .i64 lv,.int .i64 p],.pointer (some ⟨gk,0,none⟩),.pointer (some ⟨gb,0,none⟩)] w fun e w'=>e=.returned (.tuple #[])∧TreeE w' (Gw F w.heap.size) gt (insN bs k b)∧Keep F w w':=by
 have c1:w.cell? ⟨gk,0,none⟩=some (.int .i64 (k:Int)):=(hk.cell 0).trans rfl
 have c2:w.cell? ⟨gb,0,none⟩=some (.bool b):=(hb.cell 0).trans rfl
 have l1:=hk.lt
 have l2:=hb.lt
 have Ht:=Lib.hid ht
 clear ht hk hb
 go_enter Tryz.func98,Tryz.ntmps98
 go_wp2_with fail
 refine (TreeInsert_any F gt k b bs _ (Ht.out.below ((Below.refl _ _).alloc (Nat.le_refl _) _)) hl hkl).mono ?_
 rintro e w1 ⟨rfl,h1,h2⟩
 have h3:Keep F w w1:=(Keep.of_below ((Below.refl _ _).alloc (Nat.le_refl _) _)).trans h2
 have H1:=Lib.hid (h1.mono (G:=Gw F w.heap.size) fun x _ f=>by
  rcases f with f | f
  · exact .inl f
  · simp at f
    exact .inr (by omega))
 have H3:=Lib.hid h3
 clear h1 h2 h3
 go_wp2_with fail
 go_end0
 exact ⟨rfl,H1.out,H3.out⟩
set_option maxRecDepth 100000 in
theorem DeleteC_any (gt gk gn:Nat) (lv p:Int) (x:Value) (F:Nat→Prop) (bs:List Bool) (k:Nat) (w:World) (ht:TreeE w F gt bs) (hk:Bk w gk 3 #[.int .i64 (k:Int)]) (hn:Bk w gn 4 #[x]) (hFn:¬F gn) (hkl:k < bs.length):
 Calls Tryz.prog 130 #[.agg #[.pointer (some ⟨gt,0,none⟩),.int .i64 lv,.int .i64 p],.pointer (some ⟨gk,0,none⟩),.pointer (some ⟨gn,0,none⟩)] w fun e w'=>e=.returned (.tuple #[])∧∃w1,TreeE w1 (Gw F w.heap.size) gt (delN bs k)∧Keep F w w1∧Bk w1 gn 4 #[x]∧w'=w1.setCell ⟨gn,0,none⟩ (.bool (bs.getD k false)):=by
 have c1:w.cell? ⟨gk,0,none⟩=some (.int .i64 (k:Int)):=(hk.cell 0).trans rfl
 have l1:=hk.lt
 have l2:=hn.lt
 obtain ⟨bb,hbb⟩:∃b,bs.getD k false=b:=⟨_,rfl⟩
 rw [hbb]
 have Hbb:=Lib.hid hbb
 have Ht:=Lib.hid ht
 have Hn:=Lib.hid hn
 have Hkl:=Lib.hid hkl
 clear ht hk hn hbb hkl
 go_enter Tryz.func130,Tryz.ntmps130
 go_wp2_with fail
 refine (TreeDelete_any F gt k bs _ (Ht.out.below ((Below.refl _ _).alloc (Nat.le_refl _) _)) Hkl.out).mono ?_
 rintro e w1 ⟨rfl,h1,h2⟩
 rw [Hbb.out]
 have h3:Keep F w w1:=(Keep.of_below ((Below.refl _ _).alloc (Nat.le_refl _) _)).trans h2
 have hn1:=h3.bk Hn.out hFn
 have c3:w1.cell? ⟨gn,0,none⟩=some x:=(hn1.cell 0).trans rfl
 have f3:=hn1.frozen 0
 have hgn1:=hn1.lt
 have H1:=Lib.hid (h1.mono (G:=Gw F w.heap.size) fun x _ f=>by
  rcases f with f | f
  · exact .inl f
  · simp at f
    exact .inr (by omega))
 have H3:=Lib.hid h3
 have Hn1:=Lib.hid hn1
 clear h1 h2 h3 hn1
 go_wp2_with fail
 go_end0
 exact ⟨rfl,w1,H1.out,H3.out,Hn1.out,rfl⟩
theorem tree_ne_wave {w:World} {gt gv:Nat} {bs:List Bool} {cs:Array Value} (h:TreeAt w gt bs) (hv:Bk w gv 81 cs):gt≠gv:=by
 rintro rfl
 obtain ⟨ga,v,⟨_,_,h2⟩|⟨_,_,_,_,_,h3⟩⟩:=h
 · exact absurd (bk_inj h2 hv).1 (by decide)
 · exact absurd (bk_inj h3.tree hv).1 (by decide)
set_option maxRecDepth 100000 in
set_option maxHeartbeats 1000000 in
theorem LookI_any (gv gt gk gb:Nat) (S:Nat→Value) (n v lv p:Int) (F:Nat→Prop) (bs:List Bool) (k:Nat) (b:Bool) (w:World) (hw:Bk w gv 81 (wcells S n v)) (ht:TreeE w F gt bs) (hFv:¬F gv) (hFs:∀x,F x→x < w.heap.size) (hk:Bk w gk 3 #[.int .i64 (k:Int)]) (hb:Bk w gb 4 #[.bool b]) (hl:bs.length≤127) (hkl:k≤bs.length):
 Calls Tryz.prog 53 #[.pointer (some ⟨gv,0,none⟩),.agg #[.pointer (some ⟨gt,0,none⟩),.int .i64 lv,.int .i64 p],.func (.func 98) #[] #[.pointer (some ⟨gk,0,none⟩),.pointer (some ⟨gb,0,none⟩)]] w fun e w'=>e=.returned (.tuple #[])∧
  TreeE w' (Gw F w.heap.size) gt (insN bs k b)∧Keep (fun x=>F x∨x=gv) w w'∧∃v',Bk w' gv 81 (wcells S n v'):=by
 obtain ⟨o,ho⟩:∃o,Obj.cells #[.pointer (some ⟨gt,0,none⟩),.int .i64 lv,.int .i64 p] 84=o:=⟨_,rfl⟩
 have hal:=(Below.refl w.heap.size w).alloc (Nat.le_refl _) o
 have hs1:=Bk.new w 84 #[.pointer (some ⟨gt,0,none⟩),.int .i64 lv,.int .i64 p]
 rw [ho] at hs1
 have l4:=hw.lt
 have Ht:=Lib.hid ht
 have Hk:=Lib.hid hk
 have Hb:=Lib.hid hb
 have Hw:=Lib.hid hw
 have HA:=Lib.hid hal
 have Hs:=Lib.hid hs1
 have Ho:=Lib.hid ho
 have HFs:=Lib.hid hFs
 clear ht hk hb hw hal hs1 ho hFs
 go_enter Tryz.func53,Tryz.ntmps53
 go_wp2_with fail
 rw [Ho.out]
 refine (InsertC_any gt gk gb lv p F bs k b _ (Ht.out.below HA.out) (Hk.out.alloc _) (Hb.out.alloc _) hl hkl).mono ?_
 rintro e W ⟨rfl,ht2,hk2⟩
 have hw2:=hk2.bk (Hw.out.alloc o) hFv
 have hs2:=hk2.bk Hs.out (fun f=>by have:=HFs.out _ f;omega)
 have hkW:Keep F w W:=(Keep.of_below HA.out).trans hk2
 have htE:TreeE W (Gw F w.heap.size) gt (insN bs k b):=ht2.mono fun x _ f=>by
  rcases f with f | f
  · exact .inl f
  · simp at f
    exact .inr (by omega)
 obtain ⟨vt,hvt⟩:=htE.at.visits
 have htlt:=htE.at.lt
 have hslt:=hs2.lt
 have hgs:=Bk.ne hw2 hs2 (by decide)
 have hgvt:=tree_ne_wave htE.at hw2
 have Hw2:=Lib.hid hw2
 have Hs2:=Lib.hid hs2
 have HkW:=Lib.hid hkW
 have HtE:=Lib.hid htE
 have Hvt:=Lib.hid hvt
 clear hw2 hs2 hkW htE hvt ht2 hk2 HA Ht Hk Hb Hw Hs
 go_wp2_with fail
 refine wp_region_any (by kernel_rfl) ?_
 refine wpAny_keep [9,10,11,12,13,14,15,16,17,18] (fun b=>b=gv) 10 [3,10] (fun w2=>Bk w2 gv 81 (wcells S n v)) (fun _ w2=>Bk w2 gv 81 (wcells S n (IntKind.i64.wrap (v+vt)))) [is (.pointer (some ⟨gv,0,none⟩)),is (.pointer (some ⟨gv,0,none⟩)),is (.pointer (some ⟨gv,10,none⟩)),is (.int .i64 v),is (.pointer (some ⟨w.heap.size,0,none⟩)),is (.pointer (some ⟨gt,0,none⟩)),is (.int .i64 vt),is (.int .i64 (IntKind.i64.wrap (v+vt))),is (.pointer (some ⟨gv,0,none⟩)),is (.pointer (some ⟨gv,10,none⟩)),anyV] _ _ rfl (by kernel_rfl) (by kernel_rfl) (Hw2.out) (fun w2 w3 h _ hg=>Bk.below h hg h.lt) (fun _ _ _ h k=>Bk.below h k h.lt) (by repeat' (first | exact stbk_is _ _ | exact stbk_any _ |(refine List.forall_mem_cons.2 ⟨?_,?_⟩)|(intro p hp;cases hp))) ?_ ?_
 · refine steps_of ?_
   refine steps_cons (step_on3 rfl rfl fun ev _ _ _ _ _ hold _ _ _ _ hK=>?_) ?_
   · have e0:ev (.tmp 0)=.pointer (some ⟨gv,0,none⟩):=hold 0 (by kernel_rfl)
     go_simp
     exact hK _ _ (kstep_grow (Below.refl _ _)) rfl
   refine steps_cons (step_on3 rfl rfl fun _ _ _ _ _ _ _ hval _ _ _ hK=>?_) ?_
   · have e9:_=_:=hval 0 9 (by kernel_rfl) rfl
     go_simp
     exact hK _ _ (kstep_grow (Below.refl _ _)) rfl
   refine steps_cons (step_on3 rfl rfl fun _ _ _ _ _ _ _ hval _ _ _ hK=>?_) ?_
   · have e10:_=_:=hval 1 10 (by kernel_rfl) rfl
     go_simp
     exact hK _ _ (kstep_grow (Below.refl _ _)) rfl
   refine steps_cons (step_on3 rfl rfl fun _ w5 _ hU _ _ _ hval _ _ _ hK=>?_) ?_
   · have hpre:=hU rfl
     have e11:_=_:=hval 2 11 (by kernel_rfl) rfl
     have c12:w5.cell? ⟨gv,10,none⟩=some (.int .i64 v):=(hpre.cell 10).trans (wcells_get _ _ _).2.2.2.2.2.2.2.2.2.2
     go_simp
     exact hK _ _ (kstep_grow (Below.refl _ _)) rfl
   refine steps_cons (step_on3 rfl rfl fun ev _ _ _ _ _ hold _ _ _ _ hK=>?_) ?_
   · have e4:ev (.tmp 4)=.pointer (some ⟨w.heap.size,0,none⟩):=hold 4 (by kernel_rfl)
     go_simp
     exact hK _ _ (kstep_grow (Below.refl _ _)) rfl
   refine steps_cons (step_on3 rfl rfl fun _ w5 hS _ _ _ _ hval _ _ _ hK=>?_) ?_
   · replace hS:Keep (fun b=>b=gv) W w5:=⟨hS.os,hS.tape,hS.output,hS.size,hS.block⟩
     have e13:_=_:=hval 4 13 (by kernel_rfl) rfl
     have c14:w5.cell? ⟨w.heap.size,0,none⟩=some (.pointer (some ⟨gt,0,none⟩)):=((hS.bk Hs2.out (fun h=>hgs (show w.heap.size=gv from h).symm)).cell 0).trans rfl
     go_simp
     exact hK _ _ (kstep_grow (Below.refl _ _)) rfl
   refine steps_cons (step_on3 rfl rfl fun _ w5 hS _ _ _ _ hval _ _ _ hK=>?_) ?_
   · replace hS:Keep (fun b=>b=gv) W w5:=⟨hS.os,hS.tape,hS.output,hS.size,hS.block⟩
     have e14:_=_:=hval 5 14 (by kernel_rfl) rfl
     go_simp
     refine (TreeVisits_any gt vt w5 ((hS.cell htlt hgvt).trans Hvt.out)).mono ?_
     rintro e w8 ⟨rfl,hb8⟩
     exact hK _ _ (kstep_grow hb8) rfl
   refine steps_cons (step_on3 rfl rfl fun _ _ _ _ _ _ _ hval _ _ _ hK=>?_) ?_
   · have e12:_=_:=hval 3 12 (by kernel_rfl) rfl
     have e15:_=_:=hval 6 15 (by kernel_rfl) rfl
     go_simp
     exact hK _ _ (kstep_grow (Below.refl _ _)) rfl
   refine steps_cons (step_on3 rfl rfl fun _ _ _ _ _ _ _ hval _ _ _ hK=>?_) ?_
   · have e9:_=_:=hval 0 9 (by kernel_rfl) rfl
     go_simp
     exact hK _ _ (kstep_grow (Below.refl _ _)) rfl
   refine steps_cons (step_on3 rfl rfl fun _ _ _ _ _ _ _ hval _ _ _ hK=>?_) ?_
   · have e17:_=_:=hval 8 17 (by kernel_rfl) rfl
     go_simp
     exact hK _ _ (kstep_grow (Below.refl _ _)) rfl
   refine steps_cons (step_on3 rfl rfl fun _ w5 _ hU _ _ _ hval _ _ _ hK=>?_) ?_
   · have hpre:=hU rfl
     have e18:_=_:=hval 9 18 (by kernel_rfl) rfl
     have e16:_=_:=hval 7 16 (by kernel_rfl) rfl
     have c12:w5.cell? ⟨gv,10,none⟩=some (.int .i64 v):=(hpre.cell 10).trans (wcells_get _ _ _).2.2.2.2.2.2.2.2.2.2
     have f12:=hpre.frozen 10
     go_simp
     refine hK (.bool true) _ (kstep_keep (Keep.setCell (F:=fun b=>b=gv) (Keep.refl _ _) (p:=⟨gv,10,none⟩) (.inl rfl) _)) ?_
     have h9:=hpre.set 10 (.int .i64 (IntKind.i64.wrap (v+vt)))
     rw [wcells_visits] at h9
     exact h9
   exact steps_nil
 · intro ev w6 hS hval hall
   replace hS:Keep (fun b=>b=gv) W w6:=⟨hS.os,hS.tape,hS.output,hS.size,hS.block⟩
   obtain ⟨vJ,pJ⟩:∃vJ0,(fun _ w2=>Bk w2 gv 81 (wcells S n (IntKind.i64.wrap (v+vt)))) vJ0 w6:=hall 10 (by decide)
   simp only [putsOf,List.foldl_cons,List.foldl_nil,Act.put,List.setIfInBounds_toArray,List.set_cons_zero,List.set_cons_succ]
   clear hval hall
   have hw6:Bk w6 gv 81 (wcells S n (IntKind.i64.wrap (v+vt))):=pJ
   have ht6:=HtE.out.keep hS fun x t cs hin hk _=>fun e=>by
    have e':x=gv:=e
    subst e'
    rw [(bk_inj hk Hw2.out).1] at hin
    exact absurd hin (by decide)
   have hk6:Keep (fun x=>F x∨x=gv) w w6:=(HkW.out.mono fun x _ f=>.inl f).trans (hS.mono fun x _ e=>.inr e)
   have Hw6:=Lib.hid hw6
   have Ht6:=Lib.hid ht6
   have Hk6:=Lib.hid hk6
   clear pJ hw6 ht6 hk6 hS
   go_wp2_with fail
   go_end0
   exact ⟨rfl,Ht6.out,Hk6.out,_,Hw6.out⟩
set_option maxRecDepth 100000 in
set_option maxHeartbeats 1000000 in
theorem LookD_any (gv gt gk gn:Nat) (S:Nat→Value) (n v lv p:Int) (x:Value) (F:Nat→Prop) (bs:List Bool) (k:Nat) (w:World) (hw:Bk w gv 81 (wcells S n v)) (ht:TreeE w F gt bs) (hFv:¬F gv) (hFn:¬F gn) (hFs:∀x,F x→x < w.heap.size) (hk:Bk w gk 3 #[.int .i64 (k:Int)]) (hn:Bk w gn 4 #[x]) (hgn:∀y,F y→y≠gn) (hkl:k < bs.length):
 Calls Tryz.prog 53 #[.pointer (some ⟨gv,0,none⟩),.agg #[.pointer (some ⟨gt,0,none⟩),.int .i64 lv,.int .i64 p],.func (.func 130) #[] #[.pointer (some ⟨gk,0,none⟩),.pointer (some ⟨gn,0,none⟩)]] w fun e w'=>e=.returned (.tuple #[])∧
  TreeE w' (Gw F w.heap.size) gt (delN bs k)∧Keep (fun x=>F x∨x=gv∨x=gn) w w'∧Bk w' gn 4 #[.bool (bs.getD k false)]∧∃v',Bk w' gv 81 (wcells S n v'):=by
 obtain ⟨bb,hbb⟩:∃b,bs.getD k false=b:=⟨_,rfl⟩
 rw [hbb]
 have Hbb:=Lib.hid hbb
 clear hbb
 obtain ⟨o,ho⟩:∃o,Obj.cells #[.pointer (some ⟨gt,0,none⟩),.int .i64 lv,.int .i64 p] 84=o:=⟨_,rfl⟩
 have hal:=(Below.refl w.heap.size w).alloc (Nat.le_refl _) o
 have hs1:=Bk.new w 84 #[.pointer (some ⟨gt,0,none⟩),.int .i64 lv,.int .i64 p]
 rw [ho] at hs1
 have l4:=hw.lt
 have l5:=hn.lt
 have n1:=Bk.ne hn hw (by decide)
 have Ht:=Lib.hid ht
 have Hk:=Lib.hid hk
 have Hn:=Lib.hid hn
 have Hw:=Lib.hid hw
 have HA:=Lib.hid hal
 have Hs:=Lib.hid hs1
 have Ho:=Lib.hid ho
 have HFs:=Lib.hid hFs
 have Hkl:=Lib.hid hkl
 clear ht hk hn hw hal hs1 ho hFs hkl
 go_enter Tryz.func53,Tryz.ntmps53
 go_wp2_with fail
 rw [Ho.out]
 refine (DeleteC_any gt gk gn lv p x F bs k _ (Ht.out.below HA.out) (Hk.out.alloc _) (Hn.out.alloc _) hFn Hkl.out).mono ?_
 rintro e w2 ⟨rfl,w1,ht2,hk2,hn1,rfl⟩
 rw [Hbb.out]
 have hw1:=hk2.bk (Hw.out.alloc o) hFv
 have hw2:=hw1.far (p:=⟨gn,0,none⟩) (fun h=>n1 h.symm) (.bool bb)
 have hs2:=(hk2.bk Hs.out (fun f=>by have:=HFs.out _ f;omega)).far (p:=⟨gn,0,none⟩) (fun h=>absurd (show w.heap.size=gn from h) (by omega)) (.bool bb)
 have hn2:=hn1.set 0 (.bool bb)
 have hkW:Keep (fun y=>F y∨y=gn) w (w1.setCell ⟨gn,0,none⟩ (.bool bb)):=Keep.setCell (F:=fun y=>F y∨y=gn) (((Keep.of_below HA.out).trans hk2).mono fun y _ f=>.inl f) (p:=⟨gn,0,none⟩) (.inl (.inr rfl)) _
 have htE1:TreeE w1 (Gw F w.heap.size) gt (delN bs k):=ht2.mono fun x _ f=>by
  rcases f with f | f
  · exact .inl f
  · simp at f
    exact .inr (by omega)
 have htE:TreeE (w1.setCell ⟨gn,0,none⟩ (.bool bb)) (Gw F w.heap.size) gt (delN bs k):=htE1.keep (G:=fun y=>y=gn) (Keep.setCell (F:=fun y=>y=gn) (Keep.refl _ _) (p:=⟨gn,0,none⟩) (.inl rfl) _) fun y t cs _ hk f=>fun e=>by
  rcases f with f | f
  · exact hgn y f e
  · have e':y=gn:=e
    omega
 obtain ⟨W,hW⟩:∃W,w1.setCell ⟨gn,0,none⟩ (.bool bb)=W:=⟨_,rfl⟩
 rw [hW] at hw2 hs2 hn2 hkW htE⊢
 obtain ⟨vt,hvt⟩:=htE.at.visits
 have htlt:=htE.at.lt
 have hslt:=hs2.lt
 have hgs:=Bk.ne hw2 hs2 (by decide)
 have hgvt:=tree_ne_wave htE.at hw2
 have Hw2:=Lib.hid hw2
 have Hs2:=Lib.hid hs2
 have Hn2:=Lib.hid hn2
 have HkW:=Lib.hid hkW
 have HtE:=Lib.hid htE
 have Hvt:=Lib.hid hvt
 clear hw2 hs2 hn2 hkW htE hvt ht2 hk2 HA Ht Hk Hn Hw Hs hW htE1 hw1 hn1
 go_wp2_with fail
 refine wp_region_any (by kernel_rfl) ?_
 refine wpAny_keep [9,10,11,12,13,14,15,16,17,18] (fun b=>b=gv) 10 [3,10] (fun w2=>Bk w2 gv 81 (wcells S n v)) (fun _ w2=>Bk w2 gv 81 (wcells S n (IntKind.i64.wrap (v+vt)))) [is (.pointer (some ⟨gv,0,none⟩)),is (.pointer (some ⟨gv,0,none⟩)),is (.pointer (some ⟨gv,10,none⟩)),is (.int .i64 v),is (.pointer (some ⟨w.heap.size,0,none⟩)),is (.pointer (some ⟨gt,0,none⟩)),is (.int .i64 vt),is (.int .i64 (IntKind.i64.wrap (v+vt))),is (.pointer (some ⟨gv,0,none⟩)),is (.pointer (some ⟨gv,10,none⟩)),anyV] _ _ rfl (by kernel_rfl) (by kernel_rfl) (Hw2.out) (fun w2 w3 h _ hg=>Bk.below h hg h.lt) (fun _ _ _ h k=>Bk.below h k h.lt) (by repeat' (first | exact stbk_is _ _ | exact stbk_any _ |(refine List.forall_mem_cons.2 ⟨?_,?_⟩)|(intro p hp;cases hp))) ?_ ?_
 · refine steps_of ?_
   refine steps_cons (step_on3 rfl rfl fun ev _ _ _ _ _ hold _ _ _ _ hK=>?_) ?_
   · have e0:ev (.tmp 0)=.pointer (some ⟨gv,0,none⟩):=hold 0 (by kernel_rfl)
     go_simp
     exact hK _ _ (kstep_grow (Below.refl _ _)) rfl
   refine steps_cons (step_on3 rfl rfl fun _ _ _ _ _ _ _ hval _ _ _ hK=>?_) ?_
   · have e9:_=_:=hval 0 9 (by kernel_rfl) rfl
     go_simp
     exact hK _ _ (kstep_grow (Below.refl _ _)) rfl
   refine steps_cons (step_on3 rfl rfl fun _ _ _ _ _ _ _ hval _ _ _ hK=>?_) ?_
   · have e10:_=_:=hval 1 10 (by kernel_rfl) rfl
     go_simp
     exact hK _ _ (kstep_grow (Below.refl _ _)) rfl
   refine steps_cons (step_on3 rfl rfl fun _ w5 _ hU _ _ _ hval _ _ _ hK=>?_) ?_
   · have hpre:=hU rfl
     have e11:_=_:=hval 2 11 (by kernel_rfl) rfl
     have c12:w5.cell? ⟨gv,10,none⟩=some (.int .i64 v):=(hpre.cell 10).trans (wcells_get _ _ _).2.2.2.2.2.2.2.2.2.2
     go_simp
     exact hK _ _ (kstep_grow (Below.refl _ _)) rfl
   refine steps_cons (step_on3 rfl rfl fun ev _ _ _ _ _ hold _ _ _ _ hK=>?_) ?_
   · have e4:ev (.tmp 4)=.pointer (some ⟨w.heap.size,0,none⟩):=hold 4 (by kernel_rfl)
     go_simp
     exact hK _ _ (kstep_grow (Below.refl _ _)) rfl
   refine steps_cons (step_on3 rfl rfl fun _ w5 hS _ _ _ _ hval _ _ _ hK=>?_) ?_
   · replace hS:Keep (fun b=>b=gv) W w5:=⟨hS.os,hS.tape,hS.output,hS.size,hS.block⟩
     have e13:_=_:=hval 4 13 (by kernel_rfl) rfl
     have c14:w5.cell? ⟨w.heap.size,0,none⟩=some (.pointer (some ⟨gt,0,none⟩)):=((hS.bk Hs2.out (fun h=>hgs (show w.heap.size=gv from h).symm)).cell 0).trans rfl
     go_simp
     exact hK _ _ (kstep_grow (Below.refl _ _)) rfl
   refine steps_cons (step_on3 rfl rfl fun _ w5 hS _ _ _ _ hval _ _ _ hK=>?_) ?_
   · replace hS:Keep (fun b=>b=gv) W w5:=⟨hS.os,hS.tape,hS.output,hS.size,hS.block⟩
     have e14:_=_:=hval 5 14 (by kernel_rfl) rfl
     go_simp
     refine (TreeVisits_any gt vt w5 ((hS.cell htlt hgvt).trans Hvt.out)).mono ?_
     rintro e w8 ⟨rfl,hb8⟩
     exact hK _ _ (kstep_grow hb8) rfl
   refine steps_cons (step_on3 rfl rfl fun _ _ _ _ _ _ _ hval _ _ _ hK=>?_) ?_
   · have e12:_=_:=hval 3 12 (by kernel_rfl) rfl
     have e15:_=_:=hval 6 15 (by kernel_rfl) rfl
     go_simp
     exact hK _ _ (kstep_grow (Below.refl _ _)) rfl
   refine steps_cons (step_on3 rfl rfl fun _ _ _ _ _ _ _ hval _ _ _ hK=>?_) ?_
   · have e9:_=_:=hval 0 9 (by kernel_rfl) rfl
     go_simp
     exact hK _ _ (kstep_grow (Below.refl _ _)) rfl
   refine steps_cons (step_on3 rfl rfl fun _ _ _ _ _ _ _ hval _ _ _ hK=>?_) ?_
   · have e17:_=_:=hval 8 17 (by kernel_rfl) rfl
     go_simp
     exact hK _ _ (kstep_grow (Below.refl _ _)) rfl
   refine steps_cons (step_on3 rfl rfl fun _ w5 _ hU _ _ _ hval _ _ _ hK=>?_) ?_
   · have hpre:=hU rfl
     have e18:_=_:=hval 9 18 (by kernel_rfl) rfl
     have e16:_=_:=hval 7 16 (by kernel_rfl) rfl
     have c12:w5.cell? ⟨gv,10,none⟩=some (.int .i64 v):=(hpre.cell 10).trans (wcells_get _ _ _).2.2.2.2.2.2.2.2.2.2
     have f12:=hpre.frozen 10
     go_simp
     refine hK (.bool true) _ (kstep_keep (Keep.setCell (F:=fun b=>b=gv) (Keep.refl _ _) (p:=⟨gv,10,none⟩) (.inl rfl) _)) ?_
     have h9:=hpre.set 10 (.int .i64 (IntKind.i64.wrap (v+vt)))
     rw [wcells_visits] at h9
     exact h9
   exact steps_nil
 · intro ev w6 hS hval hall
   replace hS:Keep (fun b=>b=gv) W w6:=⟨hS.os,hS.tape,hS.output,hS.size,hS.block⟩
   obtain ⟨vJ,pJ⟩:∃vJ0,(fun _ w2=>Bk w2 gv 81 (wcells S n (IntKind.i64.wrap (v+vt)))) vJ0 w6:=hall 10 (by decide)
   simp only [putsOf,List.foldl_cons,List.foldl_nil,Act.put,List.setIfInBounds_toArray,List.set_cons_zero,List.set_cons_succ]
   clear hval hall
   have hw6:Bk w6 gv 81 (wcells S n (IntKind.i64.wrap (v+vt))):=pJ
   have ht6:=HtE.out.keep hS fun x t cs hin hk _=>fun e=>by
    have e':x=gv:=e
    subst e'
    rw [(bk_inj hk Hw2.out).1] at hin
    exact absurd hin (by decide)
   have hn6:=hS.bk Hn2.out n1
   have hk6:Keep (fun x=>F x∨x=gv∨x=gn) w w6:=(HkW.out.mono (G:=fun x=>F x∨x=gv∨x=gn) fun x _ f=>by
    rcases f with f | f
    · exact .inl f
    · exact .inr (.inr f)).trans (hS.mono fun x _ e=>.inr (.inl e))
   have Hw6:=Lib.hid hw6
   have Ht6:=Lib.hid ht6
   have Hn6:=Lib.hid hn6
   have Hk6:=Lib.hid hk6
   clear pJ hw6 ht6 hk6 hS hn6
   go_wp2_with fail
   go_end0
   exact ⟨rfl,Ht6.out,Hk6.out,Hn6.out,_,Hw6.out⟩
end Go.Proofs.YtipaccakmndkgaaGreat
namespace Go.Proofs.YtipaccakmndkgaaGreat
set_option linter.unusedVariables false
set_option linter.unusedSimpArgs false
def Pq (l:List Nat) (b:Bool):List Nat→Nat→Bool
 | [],_=>b
 | s::q,p=>decide (aN l p < (s:Int))||(decide (aN l p=(s:Int))&&Pq l b q (p+1))
def preQ (l:List Nat):List Nat→Nat→Bool
 | [],_=>true
 | s::q,p=>decide (aN l p=(s:Int))&&preQ l q (p+1)
theorem Pq_cons (l:List Nat) (b:Bool) (s:Nat) (q:List Nat) (p:Nat):Pq l b (s::q) p=(decide (aN l p < (s:Int))||(decide (aN l p=(s:Int))&&Pq l b q (p+1))):=rfl
theorem preQ_cons (l:List Nat) (s:Nat) (q:List Nat) (p:Nat):preQ l (s::q) p=(decide (aN l p=(s:Int))&&preQ l q (p+1)):=rfl
theorem sufLt_step (l:List Nat) (p q:Nat):sufLt l p q↔aN l p < aN l q∨(aN l p=aN l q∧sufLt l (p+1) (q+1)):=by
 constructor
 · rintro ⟨w,k,hk,h1,h2⟩
   rcases k with _ | k
   · exact .inl h2
   · refine .inr ⟨h1 0 (by omega),w,k,by omega,fun m hm=>?_,?_⟩
     · have:=h1 (m+1) (by omega)
       rwa [show p+(m+1)=p+1+m by omega,show q+(m+1)=q+1+m by omega] at this
     · rwa [show p+(k+1)=p+1+k by omega,show q+(k+1)=q+1+k by omega] at h2
 · rintro (h |⟨h0,w,k,hk,h1,h2⟩)
   · exact ⟨1,0,by omega,fun m hm=>absurd hm (by omega),h⟩
   · refine ⟨w+1,k+1,by omega,fun m hm=>?_,?_⟩
     · rcases m with _ | m
       · exact h0
       · have:=h1 m (by omega)
         rwa [show p+(m+1)=p+1+m by omega,show q+(m+1)=q+1+m by omega]
     · rwa [show p+(k+1)=p+1+k by omega,show q+(k+1)=q+1+k by omega]
theorem Pq_down {l:List Nat} {b:Bool} (q:List Nat):∀ {p p':Nat},sufLt l p' p→Pq l b q p=true→Pq l b q p'=true:=by
 induction q with
 | nil=>intro p p' _ h;exact h
 | cons s q ih=>
   intro p p' hlt h
   unfold Pq at h⊢
   simp only [Bool.or_eq_true,Bool.and_eq_true,decide_eq_true_eq] at h⊢
   rcases (sufLt_step l p' p).1 hlt with h1 |⟨h1,h2⟩
   · rcases h with h |⟨h,_⟩
     · exact .inl (by omega)
     · exact .inl (by omega)
   · rcases h with h |⟨h,h3⟩
     · exact .inl (by omega)
     · exact .inr ⟨by omega,ih h2 h3⟩
theorem take_down {R:Nat→Nat→Prop} {P:Nat→Bool} {rs:List Nat} (hs:rs.Pairwise R) (hd:∀x y,R x y→P y=true→P x=true):rs.take (rs.countP P)=rs.filter P:=by
 induction rs with
 | nil=>rfl
 | cons x l ih=>
   obtain ⟨h1,h2⟩:=List.pairwise_cons.1 hs
   rw [List.countP_cons,List.filter_cons]
   by_cases hx:P x=true
   · simp only [hx,if_true]
     rw [List.take_succ_cons,ih h2]
   · have h0:∀y∈l,¬P y=true:=fun y hy hp=>hx (hd x y (h1 y hy) hp)
     have hc:l.countP P=0:=List.countP_eq_zero.2 h0
     have hf:l.filter P= []:=List.filter_eq_nil_iff.2 h0
     simp [hx,hc,hf]
def Nq (l:List Nat) (b:Bool) (q:List Nat):Nat:=(List.range l.length).countP (Pq l b q)
theorem IsSuf.count {l rs:List Nat} (h:IsSuf l rs) (P:Nat→Bool):rs.countP P=(List.range l.length).countP P:=h.perm.countP_eq P
theorem Nq_le (l:List Nat) (b:Bool) (q:List Nat):Nq l b q≤l.length:=by
 unfold Nq
 have:=List.countP_le_length (p:=Pq l b q) (l:=List.range l.length)
 simpa using this
theorem take_count {l rs:List Nat} (h:IsSuf l rs) (b:Bool) (q:List Nat) (s:Nat):((lastL l rs).take (Nq l b q)).count s=(List.range l.length).countP (fun p=>decide (prevL l p=s)&&Pq l b q p):=by
 have e1:Nq l b q=rs.countP (Pq l b q):=(h.count _).symm
 rw [e1,lastL,←List.map_take,take_down h.sorted (fun x y hxy hy=>Pq_down q hxy hy),←h.count,List.count_eq_countP,List.countP_map,List.countP_filter]
 refine List.countP_congr fun p _=>?_
 simp [Function.comp,and_comm]
theorem prevL_zero {l:List Nat} (h:0 < l.length):prevL l 0=l.getD (l.length - 1) 0:=by
 unfold prevL
 rw [Nat.zero_add,Nat.mod_eq_of_lt (by omega)]
theorem prevL_succ {l:List Nat} {p:Nat} (h:p+1 < l.length):prevL l (p+1)=l.getD p 0:=by
 unfold prevL
 rw [show p+1+l.length - 1=p+l.length by omega,Nat.add_mod_right,Nat.mod_eq_of_lt (by omega)]
theorem aN_getD {l:List Nat} {p:Nat} (h:p < l.length):aN l p=((l.getD p 0:Nat):Int):=by
 rw [aN_lt h,List.getD_eq_getElem?_getD,List.getElem?_eq_getElem h]
 rfl
theorem count_prev {m:Nat} (f:Nat→Bool) (g:Nat→Bool) (h0:f 0=g m) (h1:∀p,p < m→f (p+1)=g p):(List.range (m+1)).countP f=(List.range (m+1)).countP g:=by
 rw [List.range_succ_eq_map,List.countP_cons,List.countP_map,←List.range_succ_eq_map,List.range_succ,List.countP_append,List.countP_cons,List.countP_nil,Nat.zero_add,h0]
 congr 1
 refine List.countP_congr fun p hp=>?_
 have hp':p < m:=by simpa using hp
 simp [Function.comp,h1 p hp']
theorem countP_or {α:Type} (l:List α) (f g:α→Bool) (h:∀x∈l,¬(f x=true∧g x=true)):l.countP (fun x=>f x||g x)=l.countP f+l.countP g:=by
 induction l with
 | nil=>rfl
 | cons x l ih=>
   rw [List.countP_cons,List.countP_cons,List.countP_cons,ih (fun y hy=>h y (by simp [hy]))]
   have:=h x (by simp)
   cases hf:f x <;> cases hg:g x <;> simp_all <;> omega
structure EndOk (l:List Nat) (m:Nat):Prop where
 len:l.length=m+1
 last:l.getD m 0=0
 pos:∀p,p < m→0 < l.getD p 0
theorem narL_Nq {l rs:List Nat} {m:Nat} (h:IsSuf l rs) (he:EndOk l m) (b:Bool) (q:List Nat) (s:Nat) (hs:0 < s):narL (lastL l rs) s (Nq l b q)=Nq l b (s::q):=by
 have hlen:=he.len
 unfold narL
 rw [take_count h]
 have e1:(lastL l rs).countP (fun x=>decide (x < s))=(List.range (m+1)).countP (fun p=>decide (l.getD p 0 < s)):=by
  rw [lastL,List.countP_map,h.count,hlen]
  refine count_prev _ _ ?_ fun p hp=>?_
  · show decide (prevL l 0 < s)=_
    rw [prevL_zero (by omega),hlen,Nat.add_sub_cancel]
  · show decide (prevL l (p+1) < s)=_
    rw [prevL_succ (by omega)]
 have e2:(List.range l.length).countP (fun p=>decide (prevL l p=s)&&Pq l b q p)=(List.range (m+1)).countP (fun p=>decide (l.getD p 0=s)&&Pq l b q (p+1)):=by
  rw [hlen]
  refine count_prev _ _ ?_ fun p hp=>?_
  · show (decide (prevL l 0=s)&&_)=(decide (l.getD m 0=s)&&_)
    rw [prevL_zero (by omega),hlen,Nat.add_sub_cancel,he.last]
    have:decide (0=s)=false:=by simp;omega
    rw [this]
    rfl
  · show (decide (prevL l (p+1)=s)&&_)=_
    rw [prevL_succ (by omega)]
 rw [e1,e2,←countP_or]
 · unfold Nq
   rw [hlen]
   refine List.countP_congr fun p hp=>?_
   have hp':p < m+1:=by simpa using hp
   rw [Pq_cons,aN_getD (by omega)]
   have f1:decide (((l.getD p 0:Nat):Int) < (s:Int))=decide (l.getD p 0 < s):=by rw [decide_eq_decide];omega
   have f2:decide (((l.getD p 0:Nat):Int)=(s:Int))=decide (l.getD p 0=s):=by rw [decide_eq_decide];omega
   rw [f1,f2]
 · intro p _
   simp only [Bool.and_eq_true,decide_eq_true_eq]
   rintro ⟨h1,h2,_⟩
   omega
theorem Nq_nil (l:List Nat):Nq l false []=0∧Nq l true []=l.length:=by
 constructor
 · unfold Nq
   exact List.countP_eq_zero.2 fun _ _ h=>by simp [Pq] at h
 · unfold Nq
   have:=(List.countP_eq_length (p:=Pq l true []) (l:=List.range l.length)).2 (fun _ _=>rfl)
   rw [this]
   simp
theorem symL_end (t:List UInt8):EndOk (symL t) t.length:=by
 refine ⟨symL_len t,?_,fun p hp=>?_⟩
 · unfold symL symB
   rw [List.getD_eq_getElem?_getD,List.getElem?_append_right (by simp)]
   simp
 · unfold symL symB
   rw [List.getD_eq_getElem?_getD,List.getElem?_append_left (by simpa using hp),List.getElem?_map,List.getElem?_eq_getElem hp]
   simp
theorem Pq_or (l:List Nat) (q:List Nat):∀p,Pq l true q p=(Pq l false q p||preQ l q p)∧¬(Pq l false q p=true∧preQ l q p=true):=by
 induction q with
 | nil=>intro p;exact ⟨rfl,fun h=>by simp [Pq] at h⟩
 | cons s q ih=>
   intro p
   obtain ⟨h1,h2⟩:=ih (p+1)
   rw [Pq_cons,Pq_cons,preQ_cons,h1]
   by_cases h3:aN l p < (s:Int)
   · have:¬aN l p=(s:Int):=by omega
     simp [h3,this]
   · by_cases h4:aN l p=(s:Int)
     · have e3:decide (aN l p < (s:Int))=false:=by simpa using h3
       have e4:decide (aN l p=(s:Int))=true:=by simpa using h4
       rw [e3,e4,Bool.false_or,Bool.true_and,Bool.false_or,Bool.true_and,Bool.true_and]
       exact ⟨rfl,h2⟩
     · simp [h3,h4]
def occ (l:List Nat) (q:List Nat):Nat:=(List.range l.length).countP (preQ l q)
theorem Nq_occ (l:List Nat) (q:List Nat):Nq l true q=Nq l false q+occ l q:=by
 unfold Nq occ
 rw [←countP_or _ _ _ fun p _=>(Pq_or l q p).2]
 exact List.countP_congr fun p _=>by rw [(Pq_or l q p).1]
end Go.Proofs.YtipaccakmndkgaaGreat
