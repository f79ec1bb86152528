/- The places of a pattern are where it stands (plain). No conditions. The walk of law14's told. Conditions: none. A text under an edit (LiveM) and what an edit leaves (LF); the walks of live's to, ahead, in, out, beside, asks. Conditions: at most 128 rows. -/
import Derived.Test.YtipaccakmndkgaaGreatPwa2
import Derived.Test.YtipaccakmndkgaaGreatPwa27
import Derived.Test.YtipaccakmndkgaaGreatPwa38
import Derived.Test.YtipaccakmndkgaaGreatPwa26
import Derived.Test.YtipaccakmndkgaaGreatPwa40
import Derived.Test.YtipaccakmndkgaaGreatPwa37
import Derived.Test.YtipaccakmndkgaaGreatPwa10
import Derived.Test.YtipaccakmndkgaaGreatPwa33
import Derived.Test.YtipaccakmndkgaaGreatPwa34
import Derived.Test.YtipaccakmndkgaaGreatPwa39
namespace Go.Proofs.YtipaccakmndkgaaGreat
open Go.RowKit
set_option linter.unusedVariables false
set_option linter.unusedSimpArgs false
theorem prefix_get (q s:List UInt8):q.isPrefixOf s=true↔∀(i:Nat) (c:UInt8),q[i]?=some c→s[i]?=some c:=by
 rw [List.isPrefixOf_iff_prefix]
 constructor
 · rintro ⟨r,rfl⟩ i c h
   rw [List.getElem?_append_left (by obtain ⟨h1,_⟩:=List.getElem?_eq_some_iff.1 h;exact h1)]
   exact h
 · intro h
   induction q generalizing s with
   | nil=>exact List.nil_prefix
   | cons a q ih=>
     cases s with
     | nil=>exact absurd (h 0 a rfl) (by simp)
     | cons b s=>
       have h0:=h 0 a rfl
       simp at h0
       subst h0
       obtain ⟨r,hr⟩:=ih s fun i c hc=>by simpa using h (i+1) c (by simpa using hc)
       exact ⟨r,by rw [List.cons_append,hr]⟩
theorem preQ_prefix (t q:List UInt8) (p:Nat):preQ (symL t) (symB q) p=q.isPrefixOf (t.drop p):=by
 rw [Bool.eq_iff_iff,preQ_bytes,prefix_get]
 constructor
 · intro h i c hc
   rw [List.getElem?_drop]
   exact h i c hc
 · intro h i c hc
   have:=h i c hc
   rw [List.getElem?_drop] at this
   exact this
theorem findTo_far (t q:List UInt8):∀k,t.length+1 - q.length≤k→k≤t.length+1→findTo t q k=findB t q:=by
 intro k hk
 induction k with
 | zero=>
   intro _
   have:t.length+1 - q.length=0:=by omega
   rw [findB,this]
 | succ k ih=>
   intro h1
   rcases Nat.eq_or_lt_of_le hk with e | e
   · rw [findB,e]
   · rw [findTo_no,ih (by omega) (by omega)]
     cases hp:q.isPrefixOf (t.drop k) with
     | false=>rfl
     | true=>
       exfalso
       have:=(List.isPrefixOf_iff_prefix.1 hp).length_le
       rw [List.length_drop] at this
       omega
theorem placesT_find (t q:List UInt8):placesT t q=findB t q:=by
 rw [←findTo_far t q (t.length+1) (by omega) (Nat.le_refl _)]
 unfold placesT findTo
 congr 1
 funext i
 exact preQ_prefix t q i
end Go.Proofs.YtipaccakmndkgaaGreat
namespace Go.Proofs.YtipaccakmndkgaaGreat
open Go.RowKit
set_option linter.unusedVariables false
set_option linter.unusedSimpArgs false
theorem told14_places:placesT [97,97,97] [97,97]= [0,1]∧placesT [97,97,97] []= [0,1,2,3]∧firstPl (placesT [97,97,97] [98])=-1∧firstPl (placesT [97,97,97] [97,97])=0:=by decide
set_option maxRecDepth 100000 in
set_option maxHeartbeats 4000000 in
theorem Told14_any (w:World):Calls Tryz.prog 8 #[] w fun e w'=>e=.returned (.bool true)∧Below w.heap.size w w':=by
 obtain ⟨t1,t2,t3,t4⟩:=told14_places
 have T1:=Lib.hid t1
 have T2:=Lib.hid t2
 have T3:=Lib.hid t3
 have T4:=Lib.hid t4
 clear t1 t2 t3 t4
 have kc:=str_const
 have kc1:=str_const1
 go_enter Tryz.func8,Tryz.ntmps8
 go_wp2_with fail
 have hp:=parts_one w #[.int .u8 97,.int .u8 97,.int .u8 97] (3,4) [97,97,97] 3 rfl rfl
 refine (TpNew_any 2 _ 1 1 (w.heap.size+2) [(⟨some ⟨w.heap.size,0,none⟩,3,3, [97,97,97]⟩:Sl)] [97,97,97] rfl _ hp.1 hp.2 (by simp) (by omega) (by simp) (by omega) (by omega)).mono ?_
 rintro e w1 ⟨gl,rfl,_,ht,hb⟩
 have hv:Below w.heap.size w w1:=(((Below.refl w.heap.size w).alloc (Nat.le_refl _) _).alloc (by simp) _).trans (hb.mono (by simp;omega))
 have Ht:=Lib.hid (TpAt.mono ht (B':=w.heap.size) (by simp;omega))
 have Hv:=Lib.hid hv
 clear ht hv hb hp
 go_wp2_with fail
 have hp2:=parts_one w1 #[.int .u8 97,.int .u8 97] (2,3) [97,97] 2 rfl rfl
 have hv2:Below w1.heap.size w1 ((w1.alloc (.cells #[.int .u8 97,.int .u8 97] 5 (2,3))).alloc (.cells #[.slice (some ⟨w1.heap.size,0,none⟩) 2 2] 23)):=((Below.refl _ _).alloc (Nat.le_refl _) _).alloc (by simp) _
 refine (All_any w.heap.size gl 2 [97,97,97] _ 1 1 (w1.heap.size+2) [(⟨some ⟨w1.heap.size,0,none⟩,2,2, [97,97]⟩:Sl)] [97,97] rfl _ (Ht.out.vis (Vis.of_below hv2)) hp2.1 hp2.2 (by simp) (by omega) (by simp)).mono ?_
 rintro e w2 ⟨A2,c2,rfl,hm2,hu2⟩
 rw [T1.out] at hm2⊢
 have hx2:VB w.heap.size w1 w2:=(VisK.of_below hv2).trans hu2
 replace Ht:=Lib.hid (Ht.out.vis hx2.1)
 replace Hv:=Lib.hid (Hv.out.trans (VB.to_below hx2 Hv.out.size))
 have Hm2:=Lib.hid hm2
 clear hx2 hu2 hv2 hp2 hm2
 go_wp2_with fail
 have hb2:Below w2.heap.size w2 (w2.alloc (.cells #[.int .i64 0,.int .i64 1] 3)):=(Below.refl _ _).alloc (Nat.le_refl _) _
 refine (refSame_any A2 _ 2 c2 2 2 _ _ [0,1] [0,1] _ (Hm2.out.rd.below hb2) (Rd.made w2 3 1 2 #[.int .i64 0,.int .i64 1] rfl) (by omega) (by omega)).mono ?_
 rintro e w3 ⟨rfl,hb3⟩
 have hx3:Below w2.heap.size w2 w3:=hb2.trans (hb3.mono hb2.size)
 replace Ht:=Lib.hid (Ht.out.vis (Vis.of_below hx3))
 replace Hv:=Lib.hid (Hv.out.trans (hx3.mono Hv.out.size))
 clear hx3 hb3 hb2 Hm2
 have hd1:decide (([0,1]:List Nat)= [0,1])=true:=by decide
 rw [hd1]
 go_wp2_with fail
 refine (All_any w.heap.size gl 2 [97,97,97] none 0 0 0 [] [] rfl w3 Ht.out (Rd.nil _ _ _ _) (fun s hs=>by cases hs) (Nat.zero_le _) (by omega) (by simp)).mono ?_
 rintro e w4 ⟨A4,c4,rfl,hm4,hu4⟩
 rw [T2.out] at hm4⊢
 replace Ht:=Lib.hid (Ht.out.vis hu4.1)
 replace Hv:=Lib.hid (Hv.out.trans (VB.to_below hu4 Hv.out.size))
 have Hm4:=Lib.hid hm4
 clear hu4 hm4
 go_wp2_with fail
 have hb4:Below w4.heap.size w4 (w4.alloc (.cells #[.int .i64 0,.int .i64 1,.int .i64 2,.int .i64 3] 3)):=(Below.refl _ _).alloc (Nat.le_refl _) _
 refine (refSame_any A4 _ 4 c4 4 4 _ _ [0,1,2,3] [0,1,2,3] _ (Hm4.out.rd.below hb4) (Rd.made w4 3 1 4 #[.int .i64 0,.int .i64 1,.int .i64 2,.int .i64 3] rfl) (by omega) (by omega)).mono ?_
 rintro e w5 ⟨rfl,hb5⟩
 have hx5:Below w4.heap.size w4 w5:=hb4.trans (hb5.mono hb4.size)
 replace Ht:=Lib.hid (Ht.out.vis (Vis.of_below hx5))
 replace Hv:=Lib.hid (Hv.out.trans (hx5.mono Hv.out.size))
 clear hx5 hb5 hb4 Hm4 hd1
 have hd2:decide (([0,1,2,3]:List Nat)= [0,1,2,3])=true:=by decide
 rw [hd2]
 go_wp2_with fail
 have hp6:=parts_one w5 #[.int .u8 97,.int .u8 97] (2,3) [97,97] 2 rfl rfl
 have hv6:Below w5.heap.size w5 ((w5.alloc (.cells #[.int .u8 97,.int .u8 97] 5 (2,3))).alloc (.cells #[.slice (some ⟨w5.heap.size,0,none⟩) 2 2] 23)):=((Below.refl _ _).alloc (Nat.le_refl _) _).alloc (by simp) _
 refine (First_any w.heap.size gl 2 [97,97,97] _ 1 1 (w5.heap.size+2) [(⟨some ⟨w5.heap.size,0,none⟩,2,2, [97,97]⟩:Sl)] [97,97] rfl _ (Ht.out.vis (Vis.of_below hv6)) hp6.1 hp6.2 (by simp) (by omega) (by simp)).mono ?_
 rintro e w6 ⟨rfl,hu6⟩
 rw [T4.out]
 have hx6:VB w.heap.size w5 w6:=(VisK.of_below hv6).trans hu6
 replace Ht:=Lib.hid (Ht.out.vis hx6.1)
 replace Hv:=Lib.hid (Hv.out.trans (VB.to_below hx6 Hv.out.size))
 clear hx6 hu6 hv6 hp6 hd2
 go_wp2_with fail
 have hp7:=parts_one w6 #[.int .u8 98] (1,2) [98] 1 rfl rfl
 have hv7:Below w6.heap.size w6 ((w6.alloc (.cells #[.int .u8 98] 5 (1,2))).alloc (.cells #[.slice (some ⟨w6.heap.size,0,none⟩) 1 1] 23)):=((Below.refl _ _).alloc (Nat.le_refl _) _).alloc (by simp) _
 refine (First_any w.heap.size gl 2 [97,97,97] _ 1 1 (w6.heap.size+2) [(⟨some ⟨w6.heap.size,0,none⟩,1,1, [98]⟩:Sl)] [98] rfl _ (Ht.out.vis (Vis.of_below hv7)) hp7.1 hp7.2 (by simp) (by omega) (by simp)).mono ?_
 rintro e w7 ⟨rfl,hu7⟩
 rw [T3.out]
 have hx7:VB w.heap.size w6 w7:=(VisK.of_below hv7).trans hu7
 replace Hv:=Lib.hid (Hv.out.trans (VB.to_below hx7 Hv.out.size))
 clear hx7 hu7 hv7 hp7 Ht
 go_wp2_with fail
 refine (AllNil_any none 0 0 w7).mono ?_
 rintro e w8 ⟨rfl,hb8⟩
 replace Hv:=Lib.hid (Hv.out.trans (hb8.mono Hv.out.size))
 clear hb8
 go_wp2_with fail
 refine (FirstNil_any none 0 0 w8).mono ?_
 rintro e w9 ⟨rfl,hb9⟩
 replace Hv:=Lib.hid (Hv.out.trans (hb9.mono Hv.out.size))
 clear hb9
 go_wp2_with fail
 go_ret
 exact ⟨rfl,Hv.out⟩
end Go.Proofs.YtipaccakmndkgaaGreat
namespace Go.Proofs.YtipaccakmndkgaaGreat
open Go.RowKit Go.Shelf
set_option linter.unusedVariables false
set_option linter.unusedSimpArgs false
theorem VisF.mono {F G:Nat→Prop} {w w':World} (h:VisF F w w') (hf:∀b,b < w.heap.size→F b→G b):VisF G w w':=⟨h.os,h.tape,h.output,h.size,fun b hb hn=>h.block b hb fun f=>hn (hf b hb f)⟩
theorem VisF.trans' {F G:Nat→Prop} {w w1 w':World} (h:VisF F w w1) (k:VisF G w1 w') (hg:∀b,b < w.heap.size→G b→F b):VisF F w w':=by
 have h2:=VisF.trans (F:=fun b=>F b∨w.heap.size≤b) (h.mono fun b _ f=>.inl f) (k.mono fun b _ g=>by
  by_cases c:b < w.heap.size
  · exact .inl (hg b c g)
  · exact .inr (by omega))
 exact h2.mono fun b hb f=>f.elim id fun e=>by omega
structure LF (B:Nat) (w w':World) (own own':Nat→Nat):Prop where
 old:∀b,b < w.heap.size→own' b=own b
 vis:VisF (fun b=>own b≠0) w w'
 keep:Keep (fun b=>B≤b) w w'
theorem LF.refl (B:Nat) (w:World) (own:Nat→Nat):LF B w w own own:=⟨fun _ _=>rfl,VisF.of_vis (Vis.refl w),Keep.refl _ _⟩
theorem LF.trans {B:Nat} {w w1 w':World} {own own1 own':Nat→Nat} (h:LF B w w1 own own1) (k:LF B w1 w' own1 own'):LF B w w' own own':=by
 have hs:=h.keep.size
 refine ⟨fun b hb=>(k.old b (by omega)).trans (h.old b hb),h.vis.trans' k.vis fun b hb f=>?_,h.keep.trans k.keep⟩
 rw [←h.old b hb]
 exact f
theorem LF.of_vb {B:Nat} {w w':World} {own:Nat→Nat} (k:VB B w w'):LF B w w' own own:=⟨fun _ _=>rfl,VisF.of_vis k.1,k.2⟩
structure LiveM (w:World) (B:Nat) (own:Nat→Nat) (gl gk gp rate:Nat) (mv:Int) (R P:Nat) (L T:List Nat) (pr:List (Nat×Nat)):Prop where
 blk:Bk w gl 42 #[.pointer (some ⟨gk,0,none⟩),.pointer (some ⟨gp,0,none⟩),.int .i64 (rate:Int),.int .i64 mv]
 col:own gl=3
 walk:WalkE w B own gk L T
 perm:PermE w (fun b=>own b=1) gp R P pr
section
variable {w w' : World} {B : Nat} {own own' : Nat → Nat} {gl gk gp rate : Nat} {mv : Int} {R P R' P' : Nat} {L T L' T' : List Nat} {pr pr' : List (Nat × Nat)}
theorem LiveM.bnd (h:LiveM w B own gl gk gp rate mv R P L T pr):∀b,own b≠0→B≤b∧b < w.heap.size:=h.walk.bnd
theorem LiveM.lo (h:LiveM w B own gl gk gp rate mv R P L T pr):B≤gl:=(h.bnd gl (by rw [h.col];decide)).1
theorem LiveM.gw (h:LiveM w B own gl gk gp rate mv R P L T pr):∃gv gt,Bk w gk 55 #[.pointer (some ⟨gv,0,none⟩),.pointer (some ⟨gt,0,none⟩)]∧WaveAt w B gv L:=by
 obtain ⟨gv,gt,h1,_,h2,_⟩:=h.walk
 exact ⟨gv,gt,h1,h2.at⟩
theorem LiveM.vis (h:LiveM w B own gl gk gp rate mv R P L T pr) (k:Vis w w'):LiveM w' B own gl gk gp rate mv R P L T pr:=
 ⟨k.bk h.blk (by decide) (by decide),h.col,h.walk.vis k,h.perm.vis k⟩
theorem LiveM.walkOp (h:LiveM w B own gl gk gp rate mv R P L T pr) (hw:WalkE w' B own' gk L' T') (g:Grew w w' own own'):LiveM w' B own' gl gk gp rate mv R P L' T' pr∧LF B w w' own own':=by
 have hb:=h.bnd
 refine ⟨⟨g.keep.bk h.blk (fun f=>by have:=h.col;omega),by rw [g.old _ h.blk.lt];exact h.col,hw,(h.perm.keep g.keep fun b f=>by omega).mono fun b _ f=>?_⟩,g.old,VisF.of_keep (g.keep.mono fun b _ f=>by omega),g.keep.mono fun b _ f=>(hb b (by omega)).1⟩
 rw [g.old b (hb b (by omega)).2]
 exact f
theorem LiveM.permOp (h:LiveM w B own gl gk gp rate mv R P L T pr) (hp:PermE w' (Gw (fun b=>own b=1) w.heap.size) gp R' P' pr') (k:Keep (fun b=>own b=1) w w'):LiveM w' B (recol own w.heap.size w'.heap.size 1) gl gk gp rate mv R' P' L T pr'∧LF B w w' own (recol own w.heap.size w'.heap.size 1):=by
 have hb:=h.bnd
 have hold:∀b,b < w.heap.size→recol own w.heap.size w'.heap.size 1 b=own b:=fun b hlt=>by unfold recol;rw [if_pos hlt]
 have hB:B≤w.heap.size:=by have:=h.lo;have:=h.blk.lt;omega
 have hsz:=k.size
 refine ⟨⟨k.bk h.blk (fun f=>by have:=h.col;omega),by rw [hold _ h.blk.lt];exact h.col,(h.walk.far k fun b f=>⟨by omega,by omega⟩).paint (fun b hlt h2=>?_) (fun b hne=>?_),hp.mono fun b hlt f=>?_⟩,hold,VisF.of_keep (k.mono fun b _ f=>by omega),k.mono fun b _ f=>(hb b (by omega)).1⟩
 · by_cases c:b < w.heap.size
   · exact hold b c
   · have:=(hb b (by omega)).2
     omega
 · unfold recol at hne
   by_cases c:b < w.heap.size
   · rw [if_pos c] at hne
     have:=hb b hne
     exact ⟨this.1,by omega⟩
   · rw [if_neg c] at hne
     by_cases c2:b < w'.heap.size
     · exact ⟨by omega,c2⟩
     · rw [if_neg c2] at hne
       exact absurd rfl hne
 · rcases f with f | f
   · rw [hold b (hb b (by omega)).2]
     exact f
   · unfold recol
     rw [if_neg (by omega),if_pos hlt]
theorem LiveM.setMv (h:LiveM w B own gl gk gp rate mv R P L T pr) (mv':Int):LiveM (w.setCell ⟨gl,3,none⟩ (.int .i64 mv')) B own gl gk gp rate mv' R P L T pr∧LF B w (w.setCell ⟨gl,3,none⟩ (.int .i64 mv')) own own:=by
 have k:Keep (fun b=>b=gl) w (w.setCell ⟨gl,3,none⟩ (.int .i64 mv')):=Keep.setCell (F:=fun b=>b=gl) (Keep.refl _ _) (p:=⟨gl,3,none⟩) (.inl rfl) _
 have hc:=h.col
 refine ⟨⟨h.blk.set 3 _,h.col,h.walk.far k fun b f=>?_,h.perm.keep k fun b f e=>?_⟩,fun _ _=>rfl,VisF.of_keep (k.mono fun b _ f=>?_),k.mono fun b _ f=>?_⟩
 · have e:b=gl:=f
   subst e
   exact ⟨by omega,by omega⟩
 · have e':b=gl:=e
   subst e'
   omega
 · have e':b=gl:=f
   subst e'
   show own b≠0
   omega
 · have e':b=gl:=f
   subst e'
   exact h.lo
theorem LiveM.len (h:LiveM w B own gl gk gp rate mv R P L T pr):LvW w B gl L∨¬T.Perm L:=by
 by_cases c:T.Perm L
 · exact .inl ⟨gk,_,_,_,h.blk,h.walk.at c⟩
 · exact .inr c
theorem LiveM.permR (h:LiveM w B own gl gk gp rate mv R P L T pr):PermR w gp R P pr:=by
 obtain ⟨⟨ga,vl,vo,vt,vf,ks,C,tk,fr,hx,e⟩,hs,hb⟩:=h.perm
 rw [e] at hs
 have hs0:=List.pairwise_map.1 hs
 have hkl:=ks_len hx.nd hx.at_.lt
 exact ⟨0,ga,vl,vo,vt,vf,ks,C,tk,fr,hx.at_,hs0,hx.sz,by have:=hx.sz;omega,e⟩
theorem LiveM.g (h:LiveM w B own gl gk gp rate mv R R L T pr) (hT:T.Perm L):LiveG w B gl gk gp rate R L pr:=⟨⟨mv,h.blk⟩,h.walk.at hT,h.permR⟩
end
section
variable {w : World} {B : Nat} {own : Nat → Nat} {gl gk gp rate : Nat} {mv : Int} {R P : Nat} {L T : List Nat} {pr : List (Nat × Nat)}
set_option maxRecDepth 100000 in
theorem LTo_any (i s:Nat) (h:LiveM w B own gl gk gp rate mv R P L T pr) (his:L[i]?=some s) (hL:∀x∈L,x < 257) (hl:L.length≤1000) (hT:T.length≤1000):
 Calls Tryz.prog 24 #[.pointer (some ⟨gl,0,none⟩),.int .i64 (i:Int)] w fun e w'=>e=.returned (.int .i64 ((narT L T s i:Nat):Int))∧VB B w w':=by
 have hb:=WalkBackT_any B gk L T i s w h.walk.atT his hL hl hT
 have c0:=h.blk.cell 0
 obtain ⟨r,hr⟩:∃r,narT L T s i=r:=⟨_,rfl⟩
 rw [hr] at hb⊢
 clear h his hL hr
 go_enter Tryz.func24,Tryz.ntmps24
 go_wp2_with fail
 refine hb.mono ?_
 rintro e w' ⟨rfl,hv⟩
 have Hv:=Lib.hid hv
 clear hb hv
 go_wp2_with fail
 go_ret
 exact ⟨rfl,Hv.out⟩
set_option maxRecDepth 100000 in
theorem LAhead0_any (i:Nat) (w:World) (gl:Nat):
 Calls Tryz.prog 22 #[.pointer (some ⟨gl,0,none⟩),.int .i64 0,.int .i64 (i:Int)] w fun e w'=>e=.returned (.int .i64 (-1))∧w=w':=by
 go_enter Tryz.func22,Tryz.ntmps22
 go_wp2_with fail
 go_ret
 exact ⟨rfl,rfl⟩
set_option maxRecDepth 100000 in
theorem LAhead_any (at_ i s:Nat) (h:LiveM w B own gl gk gp rate mv R P L T pr) (ha:0 < at_) (his:L[i]?=some s) (hL:∀x∈L,x < 257) (hl:L.length≤1000) (hT:T.length≤1000):
 Calls Tryz.prog 22 #[.pointer (some ⟨gl,0,none⟩),.int .i64 (at_:Int),.int .i64 (i:Int)] w fun e w'=>e=.returned (.int .i64 ((narT L T s i:Nat):Int))∧VB B w w':=by
 have hb:=WalkBackT_any B gk L T i s w h.walk.atT his hL hl hT
 have c0:=h.blk.cell 0
 have ha0:((at_:Int)==0)=false:=by rw [beq_eq_false_iff_ne];omega
 obtain ⟨r,hr⟩:∃r,narT L T s i=r:=⟨_,rfl⟩
 rw [hr] at hb⊢
 clear h his hL hr
 go_enter Tryz.func22,Tryz.ntmps22
 go_wp2_with fail
 refine hb.mono ?_
 rintro e w' ⟨rfl,hv⟩
 have Hv:=Lib.hid hv
 clear hb hv
 go_wp2_with fail
 go_ret
 exact ⟨rfl,Hv.out⟩
end
def inI (r c:Int):Int:=if r≥c then r+1 else r
def outI (r g:Int):Int:=if r > g then r - 1 else r
theorem inI_nat (r c:Nat):inI (r:Int) (c:Int)=((inR r c:Nat):Int):=by
 unfold inI inR
 split <;> split <;> omega
theorem outI_nat (r g:Nat):outI (r:Int) (g:Int)=((outR r g:Nat):Int):=by
 unfold outI outR
 split <;> split <;> omega
theorem inI_neg (c:Nat):inI (-1) (c:Int)=-1:=by unfold inI;rw [if_neg (by omega)]
set_option maxRecDepth 100000 in
theorem In_any2 (r c:Int) (w:World) (hr:-1000000≤r∧r≤1000000):
 Calls Tryz.prog 30 #[.int .i64 r,.int .i64 c] w fun e w'=>e=.returned (.int .i64 (inI r c))∧w=w':=by
 unfold inI
 by_cases h:r≥c
 · rw [if_pos h]
   have e1:wrap64 (r+1)=r+1:=wrap64_id (by omega) (by omega)
   go_enter Tryz.func30,Tryz.ntmps30
   go_wp2_with fail
   go_ret
   exact ⟨rfl,rfl⟩
 · rw [if_neg h]
   go_enter Tryz.func30,Tryz.ntmps30
   go_wp2_with fail
   go_ret
   exact ⟨rfl,rfl⟩
set_option maxRecDepth 100000 in
theorem Out_any2 (r c:Int) (w:World) (hr:-1000000≤r∧r≤1000000):
 Calls Tryz.prog 66 #[.int .i64 r,.int .i64 c] w fun e w'=>e=.returned (.int .i64 (outI r c))∧w=w':=by
 unfold outI
 by_cases h:r > c
 · rw [if_pos h]
   have e1:IntKind.i64.wrap (r - 1)=r - 1:=by rw [IntKind.wrap_i64];omega
   go_enter Tryz.func66,Tryz.ntmps66
   go_wp2_with fail
   go_ret
   exact ⟨rfl,rfl⟩
 · rw [if_neg h]
   go_enter Tryz.func66,Tryz.ntmps66
   go_wp2_with fail
   go_ret
   exact ⟨rfl,rfl⟩
set_option maxRecDepth 100000 in
theorem Beside_any (n cur a:Nat) (w:World) (hn:0 < n∨¬cur < a) (hb:n≤1000000):
 Calls Tryz.prog 64 #[.int .i64 (n:Int),.int .i64 (cur:Int),.int .i64 (a:Int)] w fun e w'=>e=.returned (.int .i64 ((besN n cur a:Nat):Int))∧w=w':=by
 unfold besN
 by_cases h:cur < a
 · obtain ⟨m,hm⟩:∃m,n=m+1:=⟨n - 1,by omega⟩
   subst hm
   have h1:(cur:Int) < (a:Int):=by omega
   have e0:IntKind.i64.wrap (((m+1:Nat):Int) - 1)=(m:Int):=by rw [IntKind.wrap_i64];omega
   obtain ⟨n,hn2⟩:∃n,m+1=n:=⟨_,rfl⟩
   rw [hn2] at e0⊢
   have hm2:(if cur < a then n - 1 else n)=m:=by rw [if_pos h];omega
   simp only [hm2]
   by_cases h2:a≤m
   · have h3:(m:Int)≥(a:Int):=by omega
     have e1:wrap64 ((m:Int)+1)=((m+1:Nat):Int):=by rw [wrap64_id (by omega) (by omega)];rfl
     rw [if_pos h2]
     clear hm2 hn2
     go_enter Tryz.func64,Tryz.ntmps64
     go_wp2_with fail
     go_ret
     exact ⟨rfl,rfl⟩
   · have h3:¬(m:Int)≥(a:Int):=by omega
     rw [if_neg h2]
     clear hm2 hn2
     go_enter Tryz.func64,Tryz.ntmps64
     go_wp2_with fail
     go_ret
     exact ⟨rfl,rfl⟩
 · have h1:¬(cur:Int) < (a:Int):=by omega
   have hm2:(if cur < a then n - 1 else n)=n:=by rw [if_neg h]
   simp only [hm2]
   by_cases h2:a≤n
   · have h3:(n:Int)≥(a:Int):=by omega
     have e1:wrap64 ((n:Int)+1)=((n+1:Nat):Int):=by rw [wrap64_id (by omega) (by omega)];rfl
     rw [if_pos h2]
     clear hm2
     go_enter Tryz.func64,Tryz.ntmps64
     go_wp2_with fail
     go_ret
     exact ⟨rfl,rfl⟩
   · have h3:¬(n:Int)≥(a:Int):=by omega
     rw [if_neg h2]
     clear hm2
     go_enter Tryz.func64,Tryz.ntmps64
     go_wp2_with fail
     go_ret
     exact ⟨rfl,rfl⟩
set_option maxRecDepth 100000 in
theorem Asks_ok (gl:Nat) (a b c:Value) (mv at_ last:Int) (w:World) (h:Bk w gl 42 #[a,b,c,.int .i64 mv]) (h0:0≤at_) (h1:at_≤last):
 Calls Tryz.prog 17 #[.pointer (some ⟨gl,0,none⟩),.int .i64 at_,.int .i64 last] w fun e w'=>e=.returned (.int .i64 0)∧w'=w.setCell ⟨gl,3,none⟩ (.int .i64 0):=by
 have c3:w.cell? ⟨gl,3,none⟩=some (.int .i64 mv):=(h.cell 3).trans rfl
 have f3:=h.frozen 3
 have n0:decide (at_ < 0)=false:=decide_eq_false (by omega)
 have n1:¬at_ > last:=by omega
 have n2:¬last < at_:=by omega
 clear h
 go_enter Tryz.func17,Tryz.ntmps17
 go_wp2_with fail
 go_ret
 exact ⟨rfl,rfl⟩
end Go.Proofs.YtipaccakmndkgaaGreat
