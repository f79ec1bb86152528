/- The walks of the tree's node, leaf, build on a fresh tree, and of tree.New. Conditions: at most 128 bits. The walks of the tree's build of one leaf, tree.New, and what a tree is: TreeAt. Conditions: at most 128 bits. What a lookup leaves alone: all but the cells of visits (Vis), what a tree is (TreeAt). No conditions. -/
import Derived.Test.YtipaccakmndkgaaGreatDoorPsl6
set_option linter.unusedVariables false
set_option linter.unusedSimpArgs false
set_option maxRecDepth 100000
set_option maxHeartbeats 4000000
namespace Go.Proofs.YtipaccakmndkgaaGreatDoor
open Go.RowKit
theorem node_info:(Tryz.prog.info? 229).map (fun i=>(i.zero,i.size,i.bytes))=some (some (.agg #[.int .i64 0,.int .i64 0,.int .i64 0,.int .i64 0,.int .i64 0,.int .i64 0,.int .i64 0,.pointer none]),8,64):=by kernel_rfl
theorem rd_eight {w:World} {g sz:Nat} {e:TypeId} {cs:Array Value} (h:Bk w g e cs) (hs:cs.size=sz):Rd w w.heap.size sz (some ⟨g,0,none⟩) 1 cs.toList:=by
 refine ⟨by simp [hs],fun _=>⟨g,0,rfl,h.lt,fun i u hu=>?_⟩⟩
 rw [Nat.zero_add,h.cell i]
 rw [←hu]
 simp
structure Leaf (w:World) (B gt ga gl cl gb:Nat) (rt v:Int) (bs:List Bool):Prop where
 tree:Bk w gt 226 #[.pointer (some ⟨ga,0,none⟩),.slice (some ⟨gl,0,none⟩) 1 cl,.int .i64 rt,.int .i64 v]
 row:RowS B gl cl gb (bs.length:Int) ((bs.count true:Nat):Int) w
 blk:Bk w gb 254 (blkC bs)
 arena:∃A c,Bk w ga 217 #[.slice A 1 c,.slice none 0 0,.int .i64 268435456]∧Made w B 4 1 A 1 c [.bool true]
theorem own_row {w:World} {B:Nat} {A:Option Addr} {c:Nat} {xs:List Value} {e:TypeId} {sz:Nat} (h:w.ownsRow B e sz (.slice A 1 c) 1 xs):∃gl,A=some ⟨gl,0,none⟩:=by
 obtain ⟨g,cap,hv,_,_⟩:=World.ownsRow.form h (by omega)
 injection hv with hv
 exact ⟨g,hv⟩
theorem made_Tn {w w':World} {B B' gl cl gb:Nat} {x y:Int} {A:Option Addr} {n c:Nat} {xs:List Value} (hr:RowS B gl cl gb x y w) (k:Keep (fun b=>b=gl) w w') (h:Made w B' 4 1 A n c xs):Made w' B' 4 1 A n c xs:=by
 have ho:w'.ownsRow B' 4 1 (.slice A n c) n xs:=by
  refine ⟨h.own.1,?_⟩
  rcases h.own.2 with h1 |⟨g',cap,cur,h1,h2,h3,h4⟩
  · exact .inl h1
  · refine .inr ⟨g',cap,cur,h1,h2,(k.block g' (lt_of_block h3) (fun e'=>?_)).trans h3,h4⟩
    exact hr.bk_ne (t:=4) h3 (by decide) e'
 exact ⟨ho,Rd.of_own ho,h.cap,h.max⟩
theorem node_first (gt ga gb:Nat) (v:Int) (bs:List Bool) (w:World) (ht:Bk w gt 226 #[.pointer (some ⟨ga,0,none⟩),.slice none 0 0,.int .i64 (-1),.int .i64 v]) (ha:Bk w ga 217 #[.slice none 0 0,.slice none 0 0,.int .i64 268435456]) (hb:Bk w gb 254 (blkC bs)) (hl:bs.length≤128):
 Calls Tryz.prog 268 #[.pointer (some ⟨gt,0,none⟩),.agg #[.int .i64 (-1),.int .i64 (-1),.int .i64 0,.int .i64 0,.int .i64 0,.int .i64 0,.int .i64 0,.pointer (some ⟨gb,0,none⟩)]] w fun e w'=>e=.returned (.int .i64 0)∧Keep (fun b=>b=ga∨b=gt) w w'∧∃gl cl,Leaf w' w.heap.size gt ga gl cl gb (-1) v bs:=by
 obtain ⟨i0,hi0,hz0,hz1,hz2⟩:=info_parts node_info
 have hgt:=ht.lt
 have hga:=ha.lt
 have hgb:=hb.lt
 have hta:gt≠ga:=Bk.ne ht ha (by decide)
 have htb:gt≠gb:=Bk.ne ht hb (by decide)
 have hab:ga≠gb:=Bk.ne ha hb (by decide)
 have q0:w.cell? ⟨gt,0,none⟩=some (.pointer (some ⟨ga,0,none⟩)):=(ht.cell 0).trans rfl
 have Ht:=lhd ht
 have Ha:=lhd ha
 have Hb:=lhd hb
 clear ht ha hb
 go_enter Tryz.func268,Tryz.ntmps268
 go_wp2_with fail
 obtain ⟨nb,hnb⟩:∃nb,w.heap.size=nb:=⟨_,rfl⟩
 refine (Take_first ga _ (Ha.out.alloc _)).mono ?_
 rintro e w1 ⟨rfl,hk1,A1,c1,ha1,hm1⟩
 have hn1:Bk w1 nb 229 #[.int .i64 (-1),.int .i64 (-1),.int .i64 0,.int .i64 0,.int .i64 0,.int .i64 0,.int .i64 0,.pointer (some ⟨gb,0,none⟩)]:=by
  rw [←hnb]
  exact hk1.bk (Bk.new w _ _) (fun h=>absurd (show w.heap.size=ga from h) (by omega))
 have ht1:=hk1.bk (Ht.out.alloc _) (fun h=>hta h)
 have hb1:=hk1.bk (Hb.out.alloc _) (fun h=>hab h.symm)
 have hs1:=hk1.size
 rw [World.size_alloc] at hs1 hm1
 have q1:w1.cell? ⟨gt,1,none⟩=some (.slice none 0 0):=(ht1.cell 1).trans rfl
 have HK1:=lhd hk1
 clear hk1
 go_wp2_with fail
 refine wp_region_any (by kernel_rfl) ?_
 refine wpAny_keep [22,23,24,25,26,27,28,29,30,31] (fun b=>b=gt) 10 [4,10] (fun w2=>Bk w2 gt 226 #[.pointer (some ⟨ga,0,none⟩),.slice none 0 0,.int .i64 (-1),.int .i64 v]) (fun _ w2=>∃A c,Bk w2 gt 226 #[.pointer (some ⟨ga,0,none⟩),.slice A 1 c,.int .i64 (-1),.int .i64 v]∧Made w2 (nb+1) 229 8 A 1 c (leafL 0 0 gb)) [is (.pointer (some ⟨gt,0,none⟩)),is (.pointer (some ⟨gt,0,none⟩)),is (.pointer (some ⟨gt,0,none⟩)),is (.pointer (some ⟨gt,1,none⟩)),is (.slice none 0 0),is (.agg #[.int .i64 (-1),.int .i64 (-1),.int .i64 0,.int .i64 0,.int .i64 0,.int .i64 0,.int .i64 0,.pointer (some ⟨gb,0,none⟩)]),newBk (fun b=>b=gt) 229 #[.int .i64 (-1),.int .i64 (-1),.int .i64 0,.int .i64 0,.int .i64 0,.int .i64 0,.int .i64 0,.pointer (some ⟨gb,0,none⟩)] fun g=>.slice (some ⟨g,0,none⟩) 1 1,madeV (nb+1) 229 8 1 (leafL 0 0 gb),is (.pointer (some ⟨gt,0,none⟩)),is (.pointer (some ⟨gt,1,none⟩)),anyV] _ _ rfl (by kernel_rfl) (by kernel_rfl) (ht1) (fun w2 w3 h _ hg=>Bk.below h hg h.lt) (fun _ _ _ ⟨A,c,h1,h2⟩ k=>⟨A,c,Bk.below h1 k h1.lt,h2.below k⟩) (by repeat' (first | exact stbk_is _ _ | exact stbk_any _ | exact stbk_newBk _ _ _ _ | exact stbk_made (fun b hb=>by subst hb;omega) _ _ _ _ |(refine List.forall_mem_cons.2 ⟨?_,?_⟩)|(intro p hp;cases hp))) ?_ ?_
 · refine steps_of ?_
   refine steps_cons (step_on3 rfl rfl fun ev _ _ _ _ _ hold _ _ _ _ hK=>?_) ?_
   · have e0:ev (.tmp 0)=.pointer (some ⟨gt,0,none⟩):=hold 0 (by kernel_rfl)
     go_simp
     exact kq hK rfl
   refine steps_cons (step_on3 rfl rfl fun ev _ _ _ _ _ hold _ _ _ _ hK=>?_) ?_
   · have e0:ev (.tmp 0)=.pointer (some ⟨gt,0,none⟩):=hold 0 (by kernel_rfl)
     go_simp
     exact kq hK rfl
   refine steps_cons (step_on3 rfl rfl fun _ _ _ _ _ _ _ hval _ _ _ hK=>?_) ?_
   · have e23:_=_:=hval 1 23 (by kernel_rfl) rfl
     go_simp
     exact kq hK rfl
   refine steps_cons (step_on3 rfl rfl fun _ _ _ _ _ _ _ hval _ _ _ hK=>?_) ?_
   · have e24:_=_:=hval 2 24 (by kernel_rfl) rfl
     go_simp
     exact kq hK rfl
   refine steps_cons (step_on3 rfl rfl fun _ w5 _ hU _ _ _ hval _ _ _ hK=>?_) ?_
   · have hpre:=hU rfl
     have e25:_=_:=hval 3 25 (by kernel_rfl) rfl
     have c26:w5.cell? ⟨gt,1,none⟩=some (.slice none 0 0):=(hpre.cell 1).trans rfl
     go_simp
     exact kq hK rfl
   refine steps_cons (step_on3 rfl rfl fun ev w5 hS _ _ _ hold _ _ _ _ hK=>?_) ?_
   · replace hS:Keep (fun b=>b=gt) w1 w5:=⟨hS.os,hS.tape,hS.output,hS.size,hS.block⟩
     have e3:ev (.tmp 3)=.pointer (some ⟨nb,0,none⟩):=hold 3 (by kernel_rfl)
     have hn5:=hS.bk hn1 (fun h=>absurd (show nb=gt from h) (by omega))
     have x0:w5.cell? ⟨nb,0,none⟩=some (.int .i64 (-1)):=(hn5.cell 0).trans rfl
     have x1:w5.cell? ⟨nb,1,none⟩=some (.int .i64 (-1)):=(hn5.cell 1).trans rfl
     have x2:w5.cell? ⟨nb,2,none⟩=some (.int .i64 0):=(hn5.cell 2).trans rfl
     have x3:w5.cell? ⟨nb,3,none⟩=some (.int .i64 0):=(hn5.cell 3).trans rfl
     have x4:w5.cell? ⟨nb,4,none⟩=some (.int .i64 0):=(hn5.cell 4).trans rfl
     have x5:w5.cell? ⟨nb,5,none⟩=some (.int .i64 0):=(hn5.cell 5).trans rfl
     have x6:w5.cell? ⟨nb,6,none⟩=some (.int .i64 0):=(hn5.cell 6).trans rfl
     have x7:w5.cell? ⟨nb,7,none⟩=some (.pointer (some ⟨gb,0,none⟩)):=(hn5.cell 7).trans rfl
     go_simp
     exact kq hK rfl
   refine steps_cons (step_on3 rfl rfl fun _ w5 hS _ _ _ _ hval _ _ _ hK=>?_) ?_
   · replace hS:Keep (fun b=>b=gt) w1 w5:=⟨hS.os,hS.tape,hS.output,hS.size,hS.block⟩
     have e27:_=_:=hval 5 27 (by kernel_rfl) rfl
     go_simp
     exact hK _ _ (kstep_grow ((Below.refl _ _).alloc (Nat.le_refl _) _)) ⟨_,rfl,Bk.new _ _ _,fun h=>by have:=hS.size;have h0:w5.heap.size=gt:=h;omega⟩
   refine steps_cons (step_on3 rfl rfl fun ev w5 hS _ _ _ _ hval _ _ ha hK=>?_) ?_
   · replace hS:Keep (fun b=>b=gt) w1 w5:=⟨hS.os,hS.tape,hS.output,hS.size,hS.block⟩
     have e26:_=_:=hval 4 26 (by kernel_rfl) rfl
     have p28:(newBk (fun b=>b=gt) 229 #[.int .i64 (-1),.int .i64 (-1),.int .i64 0,.int .i64 0,.int .i64 0,.int .i64 0,.int .i64 0,.pointer (some ⟨gb,0,none⟩)] fun g=>.slice (some ⟨g,0,none⟩) 1 1) (ev (.tmp 28)) w5:=hval 6 28 (by kernel_rfl) rfl
     obtain ⟨g28,e28,hb28,hn28⟩:=p28
     subst ha
     have hw5:nb+1≤w5.heap.size:=by have:=hS.size;omega
     refine wp_append_rd w5 (.tmp 26) (.tmp 28) _ rfl (nb+1) 229 i0 _ 8 64 Tryz.underlying224 hi0 hz0 hz1 hz2 rfl (by decide) (.slice none 0 0) 0 [] e26 (World.ownsRow_nil _ _ _ _) w5.heap.size (some ⟨g28,0,none⟩) 1 1 _ e28 (rd_eight hb28 rfl) (by simp [Value.oneCell']) (by unfold maxLen;omega) (by omega) hw5 ?_
     intro v6 w6 hown6 hg6 hat6
     rw [Nat.zero_add,List.nil_append] at hown6
     obtain ⟨A9,c9,rfl,hm9⟩:=made_of_own hown6
     exact hK _ _ (kstep_grow ⟨hg6.os,hg6.tape,hg6.output,hg6.size,fun k hk=>hg6.block k hk (by simp [Value.ownBlock])⟩) ⟨A9,c9,rfl,hm9⟩
   refine steps_cons (step_on3 rfl rfl fun _ _ _ _ _ _ _ hval _ _ _ hK=>?_) ?_
   · have e22:_=_:=hval 0 22 (by kernel_rfl) rfl
     go_simp
     exact kq hK rfl
   refine steps_cons (step_on3 rfl rfl fun _ _ _ _ _ _ _ hval _ _ _ hK=>?_) ?_
   · have e30:_=_:=hval 8 30 (by kernel_rfl) rfl
     go_simp
     exact kq hK rfl
   refine steps_cons (step_on3 rfl rfl fun ev w5 _ hU _ _ _ hval _ _ _ hK=>?_) ?_
   · have hpre:=hU rfl
     have e31:_=_:=hval 9 31 (by kernel_rfl) rfl
     have p29:(madeV (nb+1) 229 8 1 (leafL 0 0 gb)) (ev (.tmp 29)) w5:=hval 7 29 (by kernel_rfl) rfl
     obtain ⟨A9,c9,e29,hm9⟩:=p29
     have c31:w5.cell? ⟨gt,1,none⟩=some (.slice none 0 0):=(hpre.cell 1).trans rfl
     have f31:=hpre.frozen 1
     go_simp
     exact hK (.bool true) _ (kstep_keep (Keep.setCell (F:=fun b=>b=gt) (Keep.refl _ _) (p:=⟨gt,1,none⟩) (.inl rfl) _)) ⟨A9,c9,hpre.set 1 _,hm9.keepF (Keep.setCell (F:=fun b=>b=gt) (Keep.refl _ _) (p:=⟨gt,1,none⟩) (.inl rfl) _) (fun b hb=>by subst hb;omega)⟩
   exact steps_nil
 · intro ev w6 hS hval hall
   replace hS:Keep (fun b=>b=gt) w1 w6:=⟨hS.os,hS.tape,hS.output,hS.size,hS.block⟩
   obtain ⟨vJ,pJ⟩:∃vJ0,(fun _ w2=>∃A c,Bk w2 gt 226 #[.pointer (some ⟨ga,0,none⟩),.slice A 1 c,.int .i64 (-1),.int .i64 v]∧Made w2 (nb+1) 229 8 A 1 c (leafL 0 0 gb)) vJ0 w6:=hall 10 (by decide)
   simp only [putsOf,List.foldl_cons,List.foldl_nil,Act.put,List.setIfInBounds_toArray,List.set_cons_zero,List.set_cons_succ]
   clear hval hall
   obtain ⟨A9,c9,ht6,hm6⟩:=pJ
   obtain ⟨gl,rfl⟩:=own_row hm6.own
   have hr6:RowS (nb+1) gl c9 gb 0 0 w6:=hm6.own
   have hb6:=hS.bk hb1 (fun h=>htb h.symm)
   have ha6:=hS.bk ha1 (fun h=>hta h.symm)
   have hm16:=hm1.keepF hS (fun b hb=>by subst hb;omega)
   have HS:=lhd hS
   have hgl:=hr6.lt
   clear hS hm6
   go_wp2_with fail
   refine (fix_leaf gt ga gl c9 gb (nb+1) (-1) v bs w6 ht6 hr6 hb6 hl).mono ?_
   rintro e w7 ⟨rfl,hk7,hr7⟩
   have ht7:=hk7.bk ht6 (fun h=>absurd (show gt=gl from h) (by omega))
   have hb7:=hk7.bk hb6 (fun h=>absurd (show gb=gl from h) (by omega))
   have ha7:=hk7.bk ha6 (fun h=>absurd (show ga=gl from h) (by omega))
   have hm7:Made w7 w.heap.size 4 1 A1 1 c1 [.bool true]:=(made_Tn hr6 hk7 hm16).mono (by omega)
   have hkeep:Keep (fun b=>b=ga∨b=gt) w w7:=by
    have k1:Keep (fun b=>b=ga∨b=gt) w w1:=(Keep.of_below ((Below.refl _ _).alloc (Nat.le_refl _) _)).trans (HK1.out.mono (fun b _ e=>.inl e))
    have k2:=k1.trans (HS.out.mono (fun b _ e=>.inr e))
    exact k2.trans' hk7 (fun b hb e=>absurd (show b=gl from e) (by omega))
   go_wp2_with fail
   go_ret
   rw [hnb] at*
   exact ⟨rfl,hkeep,gl,c9,ht7,own_mono hr7 (by omega),hb7,A1,c1,ha7,hm7⟩
theorem leaf_first (gt ga gb:Nat) (v:Int) (bs:List Bool) (w:World) (ht:Bk w gt 226 #[.pointer (some ⟨ga,0,none⟩),.slice none 0 0,.int .i64 (-1),.int .i64 v]) (ha:Bk w ga 217 #[.slice none 0 0,.slice none 0 0,.int .i64 268435456]) (hb:Bk w gb 254 (blkC bs)) (hl:bs.length≤128):
 Calls Tryz.prog 241 #[.pointer (some ⟨gt,0,none⟩),.pointer (some ⟨gb,0,none⟩)] w fun e w'=>e=.returned (.int .i64 0)∧Keep (fun b=>b=ga∨b=gt) w w'∧∃gl cl,Leaf w' w.heap.size gt ga gl cl gb (-1) v bs:=by
 go_enter Tryz.func241,Tryz.ntmps241
 go_wp2_with fail
 refine (node_first gt ga gb v bs w ht ha hb hl).mono ?_
 rintro e w1 ⟨rfl,hk,gl,cl,h⟩
 go_wp2_with fail
 go_ret
 exact ⟨rfl,hk,gl,cl,h⟩
def blkV (B:Nat) (bs:List Bool):Value→World→Prop:=fun v w=>∃gb,v=.tuple #[.pointer (some ⟨gb,0,none⟩),.int .i64 0]∧Bk w gb 254 (blkC bs)∧B≤gb
def blkP (B:Nat) (bs:List Bool):Value→World→Prop:=fun v w=>∃gb,v=.pointer (some ⟨gb,0,none⟩)∧Bk w gb 254 (blkC bs)∧B≤gb
theorem stbk_blkV (B:Nat) (bs:List Bool):StbK (fun _=>False) (blkV B bs):=fun _ _ _ ⟨gb,h1,h2,h3⟩ k=>⟨gb,h1,k.bk h2 (fun h=>h),h3⟩
theorem stbk_blkP (B:Nat) (bs:List Bool):StbK (fun _=>False) (blkP B bs):=fun _ _ _ ⟨gb,h1,h2,h3⟩ k=>⟨gb,h1,k.bk h2 (fun h=>h),h3⟩
theorem Leaf.mono {w:World} {B B' gt ga gl cl gb:Nat} {rt v:Int} {bs:List Bool} (h:Leaf w B gt ga gl cl gb rt v bs) (hB:B'≤B):Leaf w B' gt ga gl cl gb rt v bs:=by
 obtain ⟨A,c,h1,h2⟩:=h.arena
 exact ⟨h.tree,own_mono h.row hB,h.blk,A,c,h1,h2.mono hB⟩
theorem build_one (gt ga:Nat) (v:Int) (A:Option Addr) (m c B:Nat) (bs:List Bool) (w:World) (ht:Bk w gt 226 #[.pointer (some ⟨ga,0,none⟩),.slice none 0 0,.int .i64 (-1),.int .i64 v]) (ha:Bk w ga 217 #[.slice none 0 0,.slice none 0 0,.int .i64 268435456]) (hr:Rd w B 1 A m (bs.map Value.bool)) (hB:B≤w.heap.size) (hm:m≤128) (hmc:m≤c):
 Calls Tryz.prog 260 #[.pointer (some ⟨gt,0,none⟩),.slice A m c,.int .i64 0,.int .i64 1,.int .i64 1] w fun e w'=>e=.returned (.int .i64 0)∧Keep (fun b=>b=ga∨b=gt) w w'∧∃gl cl gb,Leaf w' w.heap.size gt ga gl cl gb (-1) v bs∧w.heap.size≤gb:=by
 have hbl:bs.length=m:=by simpa using hr.1
 have hd1:((m:Int)*1).tdiv 1=(m:Int):=by rw [Int.mul_one,Int.tdiv_one]
 have hgt:=ht.lt
 have hga:=ha.lt
 have Ht:=lhd ht
 have Ha:=lhd ha
 have Hr:=lhd (hr.mono hB)
 have Hbl:=lhd hbl
 have HW:=lhd (Below.refl w.heap.size w)
 clear ht ha hr hbl
 go_enter Tryz.func260,Tryz.ntmps260
 go_wp2_with fail
 refine wp_region_any (by kernel_rfl) ?_
 refine wpAny_keep [20,21,22,23,24,25,26,27,28,29,30,31,32,33,34,19,35,36,11,12] (fun _=>False) 19 [] (fun _=>True) (anyV) [is (.slice A m c),is (.slice A m c),is (.int .i64 (m:Int)),is (.int .i64 0),is (.int .i64 0),is (.int .i64 1),is (.int .i64 0),is (.slice A m c),is (.int .i64 (m:Int)),is (.int .i64 1),is (.int .i64 (m:Int)),is (.int .i64 1),is (.int .i64 (m:Int)),is (.slice A m c),blkV w.heap.size bs,blkV w.heap.size bs,blkP w.heap.size bs,is (.int .i64 0),blkP w.heap.size bs,anyV] _ _ rfl (by kernel_rfl) (by kernel_rfl) (trivial) (fun _ _ _ _ _=>trivial) (fun _ _ _ _ _=>trivial) (by repeat' (first | exact stbk_is _ _ | exact stbk_any _ | exact stbk_blkV _ _ | exact stbk_blkP _ _ |(refine List.forall_mem_cons.2 ⟨?_,?_⟩)|(intro p hp;cases hp))) ?_ ?_
 · refine steps_of ?_
   refine steps_cons (step_on3 rfl rfl fun ev _ _ _ _ _ hold _ _ _ _ hK=>?_) ?_
   · have e1:ev (.tmp 1)=.slice A m c:=hold 1 (by kernel_rfl)
     go_simp
     exact kq hK rfl
   refine steps_cons (step_on3 rfl rfl fun ev _ _ _ _ _ hold _ _ _ _ hK=>?_) ?_
   · have e1:ev (.tmp 1)=.slice A m c:=hold 1 (by kernel_rfl)
     go_simp
     exact kq hK rfl
   refine steps_cons (step_on3 rfl rfl fun _ _ _ _ _ _ _ hval _ _ _ hK=>?_) ?_
   · have e21:_=_:=hval 1 21 (by kernel_rfl) rfl
     go_simp
     exact kq hK rfl
   refine steps_cons (step_on3 rfl rfl fun ev _ _ _ _ _ hold _ _ _ _ hK=>?_) ?_
   · have e2:ev (.tmp 2)=.int .i64 0:=hold 2 (by kernel_rfl)
     go_simp
     exact kq hK rfl
   refine steps_cons (step_on3 rfl rfl fun _ _ _ _ _ _ _ hval _ _ _ hK=>?_) ?_
   · have e22:_=_:=hval 2 22 (by kernel_rfl) rfl
     have e23:_=_:=hval 3 23 (by kernel_rfl) rfl
     go_simp
     exact hK _ _ (kstep_grow (Below.refl _ _)) (i64_eq (by simp [IntKind.wrap_i64] <;> omega))
   refine steps_cons (step_on3 rfl rfl fun ev _ _ _ _ _ hold _ _ _ _ hK=>?_) ?_
   · have e4:ev (.tmp 4)=.int .i64 1:=hold 4 (by kernel_rfl)
     go_simp
     exact kq hK rfl
   refine steps_cons (step_on3 rfl rfl fun _ _ _ _ _ _ _ hval _ _ _ hK=>?_) ?_
   · have e24:_=_:=hval 4 24 (by kernel_rfl) rfl
     have e25:_=_:=hval 5 25 (by kernel_rfl) rfl
     go_simp
     exact hK _ _ (kstep_grow (Below.refl _ _)) (i64_eq (by simp [IntKind.wrap_i64] <;> omega))
   refine steps_cons (step_on3 rfl rfl fun ev _ _ _ _ _ hold _ _ _ _ hK=>?_) ?_
   · have e1:ev (.tmp 1)=.slice A m c:=hold 1 (by kernel_rfl)
     go_simp
     exact kq hK rfl
   refine steps_cons (step_on3 rfl rfl fun _ _ _ _ _ _ _ hval _ _ _ hK=>?_) ?_
   · have e27:_=_:=hval 7 27 (by kernel_rfl) rfl
     go_simp
     exact kq hK rfl
   refine steps_cons (step_on3 rfl rfl fun ev _ _ _ _ _ hold _ _ _ _ hK=>?_) ?_
   · have e3:ev (.tmp 3)=.int .i64 1:=hold 3 (by kernel_rfl)
     go_simp
     exact kq hK rfl
   refine steps_cons (step_on3 rfl rfl fun _ _ _ _ _ _ _ hval _ _ _ hK=>?_) ?_
   · have e28:_=_:=hval 8 28 (by kernel_rfl) rfl
     have e29:_=_:=hval 9 29 (by kernel_rfl) rfl
     go_simp
     exact hK _ _ (kstep_grow (Below.refl _ _)) (i64_eq (by simp [IntKind.wrap_i64] <;> omega))
   refine steps_cons (step_on3 rfl rfl fun ev _ _ _ _ _ hold _ _ _ _ hK=>?_) ?_
   · have e4:ev (.tmp 4)=.int .i64 1:=hold 4 (by kernel_rfl)
     go_simp
     exact kq hK rfl
   refine steps_cons (step_on3 rfl rfl fun _ _ _ _ _ _ _ hval _ _ _ hK=>?_) ?_
   · have e30:_=_:=hval 10 30 (by kernel_rfl) rfl
     have e31:_=_:=hval 11 31 (by kernel_rfl) rfl
     go_simp
     exact hK _ _ (kstep_grow (Below.refl _ _)) (i64_eq (by simp [IntKind.wrap_i64] <;> omega))
   refine steps_cons (step_on3 rfl rfl fun _ _ _ _ _ _ _ hval _ _ _ hK=>?_) ?_
   · have e20:_=_:=hval 0 20 (by kernel_rfl) rfl
     have e26:_=_:=hval 6 26 (by kernel_rfl) rfl
     have e32:_=_:=hval 12 32 (by kernel_rfl) rfl
     go_simp
     exact kq hK rfl
   refine steps_cons (step_on3 rfl rfl fun _ w5 hS _ _ _ _ hval _ _ _ hK=>?_) ?_
   · replace hS:Keep (fun _=>False) w w5:=⟨hS.os,hS.tape,hS.output,hS.size,hS.block⟩
     have e33:_=_:=hval 13 33 (by kernel_rfl) rfl
     go_simp
     have hr5:=hS.rd Hr.out (Nat.le_refl _) (fun _ _ h=>h)
     refine (BlockNew_any A m c w.heap.size bs w5 hr5 hS.size hm).mono ?_
     rintro e w8 ⟨rfl,hb8,hk8⟩
     exact hK _ _ (kstep_grow hk8) ⟨_,rfl,hb8,hS.size⟩
   refine steps_cons (step_on3 rfl rfl fun ev w5 _ _ _ _ _ hval _ _ _ hK=>?_) ?_
   · have p34:(blkV w.heap.size bs) (ev (.tmp 34)) w5:=hval 14 34 (by kernel_rfl) rfl
     go_simp
     exact hK _ _ (kstep_grow (Below.refl _ _)) p34
   refine steps_cons (step_on3 rfl rfl fun ev w5 _ _ _ _ _ hval _ _ ha hK=>?_) ?_
   · have p19:(blkV w.heap.size bs) (ev (.tmp 19)) w5:=hval 15 19 (by kernel_rfl) rfl
     go_simp
     obtain ⟨gb,e19,hb9,hg9⟩:=p19
     subst ha
     rw [e19]
     go_simp
     exact hK _ _ (kstep_grow (Below.refl _ _)) ⟨gb,rfl,hb9,hg9⟩
   refine steps_cons (step_on3 rfl rfl fun ev w5 _ _ _ _ _ hval _ _ ha hK=>?_) ?_
   · have p19:(blkV w.heap.size bs) (ev (.tmp 19)) w5:=hval 15 19 (by kernel_rfl) rfl
     go_simp
     obtain ⟨gb,e19,hb9,hg9⟩:=p19
     subst ha
     rw [e19]
     go_simp
     exact kq hK rfl
   refine steps_cons (step_on3 rfl rfl fun ev w5 _ _ _ _ _ hval _ _ _ hK=>?_) ?_
   · have p35:(blkP w.heap.size bs) (ev (.tmp 35)) w5:=hval 16 35 (by kernel_rfl) rfl
     go_simp
     exact hK _ _ (kstep_grow (Below.refl _ _)) p35
   refine steps_cons (step_on3 rfl rfl fun _ _ _ _ _ _ _ hval _ _ _ hK=>?_) ?_
   · have e36:_=_:=hval 17 36 (by kernel_rfl) rfl
     go_simp
     exact hK _ _ (kstep_grow (Below.refl _ _)) trivial
   exact steps_nil
 · intro ev w6 hS hval hall
   replace hS:Keep (fun _=>False) w w6:=⟨hS.os,hS.tape,hS.output,hS.size,hS.block⟩
   have p11:(blkP w.heap.size bs) (ev (.tmp 11)) w6:=hval 18 11 rfl
   have e36:ev (.tmp 36)=.int .i64 0:=hval 17 36 rfl
   obtain ⟨vJ,pJ⟩:∃vJ0,(anyV) vJ0 w6:=hall 19 (by decide)
   simp only [putsOf,List.foldl_cons,List.foldl_nil,Act.put,List.setIfInBounds_toArray,List.set_cons_zero,List.set_cons_succ]
   rw [e36]
   clear hval hall
   obtain ⟨gb,e11,hb6,hg6⟩:=p11
   rw [e11]
   have ht6:=hS.bk Ht.out (fun h=>h)
   have ha6:=hS.bk Ha.out (fun h=>h)
   have hs6:=hS.size
   have HS:=lhd hS
   clear hS
   go_wp2_with fail
   refine (leaf_first gt ga gb v bs w6 ht6 ha6 hb6 (by rw [Hbl.out];exact hm)).mono ?_
   rintro e w7 ⟨rfl,hk7,gl,cl,h7⟩
   go_wp2_with fail
   go_ret
   exact ⟨rfl,(HS.out.mono (fun _ _ h=>h.elim)).trans hk7,gl,cl,gb,h7.mono hs6,hg6⟩
theorem own_same {w w':World} {B:Nat} {e:TypeId} {sz n:Nat} {v:Value} {xs:List Value} (h:w.ownsRow B e sz v n xs) (hs:∀b cs,v.ownBlock=some b→Bk w b e cs→Bk w' b e cs):w'.ownsRow B e sz v n xs:=by
 refine ⟨h.1,?_⟩
 rcases h.2 with h1 |⟨g,cap,cur,h1,h2,h3,h4⟩
 · exact .inl h1
 · exact .inr ⟨g,cap,cur,h1,h2,hs g cur (by rw [h1];rfl) h3,h4⟩
theorem made_same {w w':World} {B:Nat} {e:TypeId} {sz n c:Nat} {A:Option Addr} {xs:List Value} (h:Made w B e sz A n c xs) (hs:∀b cs,Bk w b e cs→Bk w' b e cs):Made w' B e sz A n c xs:=by
 have h1:=own_same (w':=w') h.own fun b cs _=>hs b cs
 exact ⟨h1,Rd.of_own h1,h.cap,h.max⟩
structure VisF (F:Nat→Prop) (w w':World):Prop where
 os:w'.os=w.os
 tape:w'.tape=w.tape
 output:w'.output=w.output
 size:w.heap.size≤w'.heap.size
 block:∀b,b < w.heap.size→¬F b→w'.heap[b]?=w.heap[b]?∨(∃cs v,Bk w b 226 cs∧Bk w' b 226 (cs.setIfInBounds 3 (.int .i64 v)))∨(∃cs v,Bk w b 174 cs∧Bk w' b 174 (cs.setIfInBounds 10 (.int .i64 v)))
abbrev Vis:World→World→Prop:=VisF (fun _=>False)
theorem Vis.refl (w:World):Vis w w:=⟨rfl,rfl,rfl,Nat.le_refl _,fun _ _ _=>.inl rfl⟩
theorem VisF.of_vis {F:Nat→Prop} {w w':World} (h:Vis w w'):VisF F w w':=⟨h.os,h.tape,h.output,h.size,fun b hb _=>h.block b hb (fun x=>x)⟩
theorem VisF.of_keep {F:Nat→Prop} {w w':World} (h:Keep F w w'):VisF F w w':=⟨h.os,h.tape,h.output,h.size,fun b hb hn=>.inl (h.block b hb hn)⟩
theorem VisF.to_vis {F:Nat→Prop} {w w':World} (h:VisF F w w') (hf:∀b,b < w.heap.size→¬F b):Vis w w':=⟨h.os,h.tape,h.output,h.size,fun b hb _=>h.block b hb (hf b hb)⟩
theorem set_set (cs:Array Value) (i:Nat) (u v:Value):(cs.setIfInBounds i u).setIfInBounds i v=cs.setIfInBounds i v:=by
 apply Array.ext
 · simp
 · intro j h1 h2
   simp [Array.getElem_setIfInBounds]
theorem bk_inj {w:World} {g:Nat} {t t':TypeId} {cs cs':Array Value} (h:Bk w g t cs) (h':Bk w g t' cs'):t=t'∧cs=cs':=by
 unfold Bk at h h'
 rw [h] at h'
 injection h' with h'
 injection h' with h1 h2
 exact ⟨h2,h1⟩
theorem VisF.trans {F:Nat→Prop} {w w1 w':World} (h:VisF F w w1) (k:VisF F w1 w'):VisF F w w':=by
 refine ⟨k.os.trans h.os,k.tape.trans h.tape,k.output.trans h.output,Nat.le_trans h.size k.size,fun b hb hn=>?_⟩
 have hb1:b < w1.heap.size:=Nat.lt_of_lt_of_le hb h.size
 rcases h.block b hb hn with e1 |⟨cs,v,e1,e2⟩|⟨cs,v,e1,e2⟩<;> rcases k.block b hb1 hn with f1 |⟨cs',v',f1,f2⟩|⟨cs',v',f1,f2⟩
 · exact .inl (f1.trans e1)
 · exact .inr (.inl ⟨cs',v',e1.symm.trans f1,f2⟩)
 · exact .inr (.inr ⟨cs',v',e1.symm.trans f1,f2⟩)
 · exact .inr (.inl ⟨cs,v,e1,f1.trans e2⟩)
 · obtain ⟨_,rfl⟩:=bk_inj e2 f1
   rw [set_set] at f2
   exact .inr (.inl ⟨cs,v',e1,f2⟩)
 · exact absurd (bk_inj e2 f1).1 (by decide)
 · exact .inr (.inr ⟨cs,v,e1,f1.trans e2⟩)
 · exact absurd (bk_inj e2 f1).1 (by decide)
 · obtain ⟨_,rfl⟩:=bk_inj e2 f1
   rw [set_set] at f2
   exact .inr (.inr ⟨cs,v',e1,f2⟩)
theorem Vis.trans {w w1 w':World} (h:Vis w w1) (k:Vis w1 w'):Vis w w':=VisF.trans h k
theorem Vis.of_below {w w':World} (h:Below w.heap.size w w'):Vis w w':=⟨h.os,h.tape,h.output,h.size,fun b hb _=>.inl (h.block b hb)⟩
theorem Vis.set_tree {w:World} {g:Nat} {cs:Array Value} (h:Bk w g 226 cs) (v:Int):Vis w (w.setCell ⟨g,3,none⟩ (.int .i64 v)):=by
 refine ⟨rfl,rfl,rfl,by simp [World.setCell],fun b hb _=>?_⟩
 by_cases e:b=g
 · subst e
   exact .inr (.inl ⟨cs,v,h,h.set 3 _⟩)
 · exact .inl (heap_setCell_other w ⟨g,3,none⟩ b _ (fun x=>e x))
theorem Vis.set_wave {w:World} {g:Nat} {cs:Array Value} (h:Bk w g 174 cs) (v:Int):Vis w (w.setCell ⟨g,10,none⟩ (.int .i64 v)):=by
 refine ⟨rfl,rfl,rfl,by simp [World.setCell],fun b hb _=>?_⟩
 by_cases e:b=g
 · subst e
   exact .inr (.inr ⟨cs,v,h,h.set 10 _⟩)
 · exact .inl (heap_setCell_other w ⟨g,10,none⟩ b _ (fun x=>e x))
theorem VisF.put {F:Nat→Prop} {w w1:World} (h:VisF F w w1) {p:Addr} (hp:F p.block∨w.heap.size≤p.block) (u:Value):VisF F w (w1.setCell p u):=by
 refine ⟨h.os,h.tape,h.output,by simpa [World.setCell] using h.size,fun b hb hn=>?_⟩
 have e:(w1.setCell p u).heap[b]?=w1.heap[b]?:=heap_setCell_other w1 p b u (fun x=>by
  rcases hp with hp | hp
  · rw [←x] at hp
    exact hn hp
  · omega)
 rcases h.block b hb hn with e1 |⟨cs,v,e1,e2⟩|⟨cs,v,e1,e2⟩
 · exact .inl (e.trans e1)
 · exact .inr (.inl ⟨cs,v,e1,e.trans e2⟩)
 · exact .inr (.inr ⟨cs,v,e1,e.trans e2⟩)
theorem Vis.fresh {w w1:World} (h:Vis w w1) {p:Addr} (hp:w.heap.size≤p.block) (u:Value):Vis w (w1.setCell p u):=VisF.put h (.inr hp) u
theorem Vis.alloc {w w1:World} (h:Vis w w1) (o:Obj):Vis w (w1.alloc o):=h.trans (Vis.of_below ((Below.refl _ _).alloc (Nat.le_refl _) _))
theorem Vis.below {w w1 w2:World} (h:Vis w w1) (k:Below w1.heap.size w1 w2):Vis w w2:=h.trans (Vis.of_below k)
theorem VisF.bk {F:Nat→Prop} {w w':World} {g:Nat} {t:TypeId} {cs:Array Value} (h:VisF F w w') (hb:Bk w g t cs) (h1:t≠226) (h2:t≠174) (hn:¬F g):Bk w' g t cs:=by
 rcases h.block g hb.lt hn with e1 |⟨cs',v,e1,e2⟩|⟨cs',v,e1,e2⟩
 · exact e1.trans hb
 · exact absurd (bk_inj hb e1).1 h1
 · exact absurd (bk_inj hb e1).1 h2
theorem VisF.tree {F:Nat→Prop} {w w':World} {g:Nat} {a b c:Value} {v:Int} (h:VisF F w w') (hb:Bk w g 226 #[a,b,c,.int .i64 v]) (hn:¬F g):∃v',Bk w' g 226 #[a,b,c,.int .i64 v']:=by
 rcases h.block g hb.lt hn with e1 |⟨cs',v',e1,e2⟩|⟨cs',v',e1,e2⟩
 · exact ⟨v,e1.trans hb⟩
 · obtain ⟨_,rfl⟩:=bk_inj hb e1
   exact ⟨v',e2⟩
 · exact absurd (bk_inj hb e1).1 (by decide)
theorem VisF.wave {F:Nat→Prop} {w w':World} {g:Nat} {cs:Array Value} (h:VisF F w w') (hb:Bk w g 174 cs) (hn:¬F g):Bk w' g 174 cs∨∃v',Bk w' g 174 (cs.setIfInBounds 10 (.int .i64 v')):=by
 rcases h.block g hb.lt hn with e1 |⟨cs',v',e1,e2⟩|⟨cs',v',e1,e2⟩
 · exact .inl (e1.trans hb)
 · exact absurd (bk_inj hb e1).1 (by decide)
 · obtain ⟨_,rfl⟩:=bk_inj hb e1
   exact .inr ⟨v',e2⟩
theorem Vis.bk {w w':World} {g:Nat} {t:TypeId} {cs:Array Value} (h:Vis w w') (hb:Bk w g t cs) (h1:t≠226) (h2:t≠174):Bk w' g t cs:=VisF.bk h hb h1 h2 (fun x=>x)
theorem Vis.tree {w w':World} {g:Nat} {a b c:Value} {v:Int} (h:Vis w w') (hb:Bk w g 226 #[a,b,c,.int .i64 v]):∃v',Bk w' g 226 #[a,b,c,.int .i64 v']:=VisF.tree h hb (fun x=>x)
theorem Vis.wave {w w':World} {g:Nat} {cs:Array Value} (h:Vis w w') (hb:Bk w g 174 cs):Bk w' g 174 cs∨∃v',Bk w' g 174 (cs.setIfInBounds 10 (.int .i64 v')):=VisF.wave h hb (fun x=>x)
def VisK (F:Nat→Prop) (w w':World):Prop:=Vis w w'∧Keep F w w'
theorem VisK.refl (F:Nat→Prop) (w:World):VisK F w w:=⟨Vis.refl w,Keep.refl F w⟩
theorem VisK.trans {F:Nat→Prop} {w w1 w':World} (h:VisK F w w1) (k:VisK F w1 w'):VisK F w w':=⟨h.1.trans k.1,h.2.trans k.2⟩
theorem VisK.below {F:Nat→Prop} {w w1 w':World} (h:VisK F w w1) (k:Below w1.heap.size w1 w'):VisK F w w':=⟨h.1.trans (Vis.of_below k),h.2.trans (Keep.of_below k)⟩
theorem VisK.of_below {F:Nat→Prop} {w w':World} (k:Below w.heap.size w w'):VisK F w w':=(VisK.refl F w).below k
theorem VisK.alloc {F:Nat→Prop} {w w1:World} (h:VisK F w w1) (o:Obj):VisK F w (w1.alloc o):=h.below ((Below.refl _ _).alloc (Nat.le_refl _) _)
theorem VisK.set_tree {w:World} {g:Nat} {cs:Array Value} (h:Bk w g 226 cs) (v:Int):VisK (fun b=>b=g) w (w.setCell ⟨g,3,none⟩ (.int .i64 v)):=⟨Vis.set_tree h v,Keep.setCell (F:=fun b=>b=g) (Keep.refl _ _) (p:=⟨g,3,none⟩) (.inl rfl) _⟩
theorem VisK.mono {F G:Nat→Prop} {w w':World} (h:VisK F w w') (hf:∀b,F b→G b):VisK G w w':=⟨h.1,h.2.mono fun b _=>hf b⟩
theorem Vis.own {w w':World} {B:Nat} {e:TypeId} {sz n:Nat} {v:Value} {xs:List Value} (k:Vis w w') (h:w.ownsRow B e sz v n xs) (h1:e≠226) (h2:e≠174):w'.ownsRow B e sz v n xs:=
 own_same h fun b cs _ hb=>k.bk hb h1 h2
theorem Vis.made {w w':World} {B:Nat} {e:TypeId} {sz n c:Nat} {A:Option Addr} {xs:List Value} (k:Vis w w') (h:Made w B e sz A n c xs) (h1:e≠226) (h2:e≠174):Made w' B e sz A n c xs:=
 made_same h fun b cs hb=>k.bk hb h1 h2
def RdT (w:World) (t:TypeId) (A:Option Addr) (n:Nat) (xs:List Value):Prop:=
 xs.length=n∧(0 < n→∃b off cs,A=some ⟨b,off,none⟩∧Bk w b t cs∧∀j u,xs[j]?=some u→cs[off+j]?=some u)
theorem RdT.rd {w:World} {t:TypeId} {A:Option Addr} {n:Nat} {xs:List Value} (h:RdT w t A n xs):Rd w w.heap.size 1 A n xs:=by
 refine ⟨by rw [h.1,Nat.mul_one],fun hn=>?_⟩
 obtain ⟨b,off,cs,e,hb,hc⟩:=h.2 hn
 exact ⟨b,off,e,hb.lt,fun j u hu=>(hb.cell _).trans (hc j u hu)⟩
theorem RdT.same {w w':World} {t:TypeId} {A:Option Addr} {n:Nat} {xs:List Value} (h:RdT w t A n xs) (hs:∀b cs,Bk w b t cs→Bk w' b t cs):RdT w' t A n xs:=by
 refine ⟨h.1,fun hn=>?_⟩
 obtain ⟨b,off,cs,e,hb,hc⟩:=h.2 hn
 exact ⟨b,off,cs,e,hs b cs hb,hc⟩
structure LeafV (w:World) (B gt ga gl cl gb:Nat) (rt v:Int) (bs:List Bool):Prop where
 tree:Bk w gt 226 #[.pointer (some ⟨ga,0,none⟩),.slice (some ⟨gl,0,none⟩) 1 cl,.int .i64 rt,.int .i64 v]
 row:RowS B gl cl gb (bs.length:Int) ((bs.count true:Nat):Int) w
 blk:Bk w gb 254 (blkC bs)
theorem Leaf.toV {w:World} {B gt ga gl cl gb:Nat} {rt v:Int} {bs:List Bool} (h:Leaf w B gt ga gl cl gb rt v bs):LeafV w 0 gt ga gl cl gb rt v bs:=⟨h.tree,own_mono h.row (Nat.zero_le _),h.blk⟩
theorem LeafV.vis {w w':World} {B gt ga gl cl gb:Nat} {rt v:Int} {bs:List Bool} (h:LeafV w B gt ga gl cl gb rt v bs) (k:Vis w w'):∃v',LeafV w' B gt ga gl cl gb rt v' bs:=by
 obtain ⟨v',h1⟩:=k.tree h.tree
 exact ⟨v',h1,k.own h.row (by decide) (by decide),k.bk h.blk (by decide) (by decide)⟩
def TreeAt (w:World) (gt:Nat) (bs:List Bool):Prop:=
 ∃(ga:Nat) (v:Int),(bs= []∧∃vl,Bk w gt 226 #[.pointer (some ⟨ga,0,none⟩),vl,.int .i64 (-1),.int .i64 v])∨(bs≠ []∧bs.length≤128∧∃gl cl gb,LeafV w 0 gt ga gl cl gb 0 v bs)
theorem TreeAt.vis {w w':World} {gt:Nat} {bs:List Bool} (h:TreeAt w gt bs) (k:Vis w w'):TreeAt w' gt bs:=by
 obtain ⟨ga,v,⟨h1,vl,h2⟩|⟨h1,h2,gl,cl,gb,h3⟩⟩:=h
 · obtain ⟨v',h4⟩:=k.tree h2
   exact ⟨ga,v',.inl ⟨h1,vl,h4⟩⟩
 · obtain ⟨v',h4⟩:=h3.vis k
   exact ⟨ga,v',.inr ⟨h1,h2,gl,cl,gb,h4⟩⟩
theorem TreeAt.same {w w':World} {gt:Nat} {bs:List Bool} (h:TreeAt w gt bs) (k:∀b t cs,t∈ [226,217,229,254,4]→Bk w b t cs→Bk w' b t cs):TreeAt w' gt bs:=by
 obtain ⟨ga,v,⟨h1,vl,h2⟩|⟨h1,h2,gl,cl,gb,h3⟩⟩:=h
 · exact ⟨ga,v,.inl ⟨h1,vl,k _ _ _ (by decide) h2⟩⟩
 · exact ⟨ga,v,.inr ⟨h1,h2,gl,cl,gb,k _ _ _ (by decide) h3.tree,own_same h3.row fun b cs _ hb=>k _ _ _ (by decide) hb,k _ _ _ (by decide) h3.blk⟩⟩
theorem TreeAt.below {w w':World} {gt:Nat} {bs:List Bool} (h:TreeAt w gt bs) (k:Below w.heap.size w w'):TreeAt w' gt bs:=h.same fun b t cs _ hb=>hb.below k hb.lt
theorem TreeAt.lt {w:World} {gt:Nat} {bs:List Bool} (h:TreeAt w gt bs):gt < w.heap.size:=by
 obtain ⟨ga,v,⟨h1,vl,h2⟩|⟨h1,h2,gl,cl,gb,h3⟩⟩:=h
 · exact h2.lt
 · exact h3.tree.lt
def TreeB (w:World) (B gt:Nat) (bs:List Bool):Prop:=
 ∃(ga:Nat) (v:Int),B≤gt∧B≤ga∧((bs= []∧Bk w gt 226 #[.pointer (some ⟨ga,0,none⟩),.slice none 0 0,.int .i64 (-1),.int .i64 v]∧Bk w ga 217 #[.slice none 0 0,.slice none 0 0,.int .i64 268435456])∨(bs≠ []∧bs.length≤128∧∃gl cl gb,B≤gb∧Leaf w B gt ga gl cl gb 0 v bs))
theorem TreeB.at {w:World} {B gt:Nat} {bs:List Bool} (h:TreeB w B gt bs):TreeAt w gt bs:=by
 obtain ⟨ga,v,_,_,⟨h1,h2,h3⟩|⟨h1,h2,gl,cl,gb,_,h3⟩⟩:=h
 · exact ⟨ga,v,.inl ⟨h1,_,h2⟩⟩
 · exact ⟨ga,v,.inr ⟨h1,h2,gl,cl,gb,h3.toV⟩⟩
theorem TreeB.keep {w w':World} {F:Nat→Prop} {B gt:Nat} {bs:List Bool} (h:TreeB w B gt bs) (k:Keep F w w') (hf:∀b,F b→b < B):TreeB w' B gt bs:=by
 obtain ⟨ga,v,l1,l2,⟨h1,h2,h3⟩|⟨h1,h2,gl,cl,gb,l3,h3⟩⟩:=h
 · exact ⟨ga,v,l1,l2,.inl ⟨h1,k.bk h2 (fun f=>by have:=hf _ f;omega),k.bk h3 (fun f=>by have:=hf _ f;omega)⟩⟩
 · obtain ⟨A,c,h4,h5⟩:=h3.arena
   exact ⟨ga,v,l1,l2,.inr ⟨h1,h2,gl,cl,gb,l3,k.bk h3.tree (fun f=>by have:=hf _ f;omega),own_keepF h3.row k hf,k.bk h3.blk (fun f=>by have:=hf _ f;omega),A,c,k.bk h4 (fun f=>by have:=hf _ f;omega),h5.keepF k hf⟩⟩
theorem TreeB.below {w w':World} {B gt:Nat} {bs:List Bool} (h:TreeB w B gt bs) (k:Below w.heap.size w w'):TreeB w' B gt bs:=h.keep (F:=fun _=>False) (Keep.of_below k) (fun _ f=>f.elim)
theorem TreeB.mono {w:World} {B B' gt:Nat} {bs:List Bool} (h:TreeB w B gt bs) (hB:B'≤B):TreeB w B' gt bs:=by
 obtain ⟨ga,v,l1,l2,⟨h1,h2,h3⟩|⟨h1,h2,gl,cl,gb,l3,h3⟩⟩:=h
 · exact ⟨ga,v,by omega,by omega,.inl ⟨h1,h2,h3⟩⟩
 · exact ⟨ga,v,by omega,by omega,.inr ⟨h1,h2,gl,cl,gb,by omega,h3.mono hB⟩⟩
end Go.Proofs.YtipaccakmndkgaaGreatDoor
