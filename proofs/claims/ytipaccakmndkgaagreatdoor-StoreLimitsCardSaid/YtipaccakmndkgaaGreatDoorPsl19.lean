/- The walk of the pairs' Pos. Conditions: the pairs stand by rising rows. A tree that owns its blocks (TreeE: no node, or one leaf); the walks of tree's Insert and Delete. Conditions: at most 128 bits behind the edit. -/
import Derived.Test.YtipaccakmndkgaaGreatDoorPsl17
import Derived.BigQuiet
import Derived.Test.YtipaccakmndkgaaGreatDoorPsl18
import Derived.Test.YtipaccakmndkgaaGreatDoorPsl10
import Derived.Test.YtipaccakmndkgaaGreatDoorPsl9
set_option linter.unusedVariables false
set_option linter.unusedSimpArgs false
set_option maxRecDepth 100000
set_option maxHeartbeats 4000000
namespace Go.Proofs.YtipaccakmndkgaaGreatDoor
open Go.RowKit
theorem PermPos_none (B gp ga:Nat) (vl vo vt vf:Value) (R P:Nat) (ks:List Nat) (C:List (Nat×Nat)) (tk:List Bool) (fr:List Nat) (row:Nat) (w:World) (h:PermAt w B gp ga vl vo vt vf R P ks C tk fr) (hs:ks.Pairwise (fun a b=>rowK C a < rowK C b)) (hk:ks.length≤1099511627776) (hno:∀k∈ks,rowK C k≠row):
 Calls Tryz.prog 219 #[.pointer (some ⟨gp,0,none⟩),.int .i64 (row:Int)] w fun e w'=>e=.returned (.int .i64 (-1))∧Below w.heap.size w w':=by
 have hat:=PermAt_any B gp ga vl vo vt vf R P ks C tk fr row w h hs hk
 have hd:decide (∃k∈ks,rowK C k=row)=false:=by
  simp only [decide_eq_false_iff_not]
  rintro ⟨k,h1,h2⟩
  exact hno k h1 h2
 rw [hd] at hat
 clear h hs hno hd
 go_enter Tryz.func219,Tryz.ntmps219
 go_wp2_with fail
 refine hat.mono ?_
 rintro e w1 ⟨rfl,hb1⟩
 have Hb1:=lhd hb1
 clear hat hb1
 go_wp2_with fail
 go_ret
 exact ⟨rfl,Hb1.out⟩
theorem PermPos_some (B gp ga:Nat) (vl vo vt vf:Value) (R P:Nat) (ks:List Nat) (C:List (Nat×Nat)) (tk:List Bool) (fr:List Nat) (row j:Nat) (w:World) (h:PermAt w B gp ga vl vo vt vf R P ks C tk fr) (hs:ks.Pairwise (fun a b=>rowK C a < rowK C b)) (hk:ks.length≤1099511627776) (hC:C.length≤1099511627776) (hj:j∈ks) (hjr:rowK C j=row):
 Calls Tryz.prog 219 #[.pointer (some ⟨gp,0,none⟩),.int .i64 (row:Int)] w fun e w'=>e=.returned (.int .i64 ((posK C j:Nat):Int))∧Below w.heap.size w w':=by
 have hat:=PermAt_any B gp ga vl vo vt vf R P ks C tk fr row w h hs hk
 have hd:decide (∃k∈ks,rowK C k=row)=true:=decide_eq_true ⟨j,hj,hjr⟩
 rw [hd] at hat
 obtain ⟨x,hx1,hx2⟩:=(cnt_found hs row).2 ⟨j,hj,hjr⟩
 obtain ⟨q,hq⟩:∃q,(ks.countP fun k=>decide (rowK C k < row))=q:=⟨_,rfl⟩
 rw [hq] at hx1 hat
 have hxj:x=j:=by
  obtain ⟨a,ha,ea⟩:=List.mem_iff_getElem.1 hj
  obtain ⟨b,eb⟩:=List.getElem?_eq_some_iff.1 hx1
  rcases Nat.lt_trichotomy a q with h1 | h1 | h1
  · have:=List.pairwise_iff_getElem.1 hs a q ha b h1
    rw [ea,eb] at this
    omega
  · subst h1
    rw [←ea,←eb]
  · have:=List.pairwise_iff_getElem.1 hs q a b ha h1
    rw [ea,eb] at this
    omega
 subst hxj
 have hqn:q < ks.length:=(List.getElem?_eq_some_iff.1 hx1).1
 have hxC:x < C.length:=h.lt x hj
 obtain ⟨g,cap,hvo,hnc,hgl⟩:=World.ownsRow.form h.orow (by omega)
 obtain ⟨g2,cap2,hvl,hnc2,hgl2⟩:=World.ownsRow.form h.lrow (by omega)
 subst hvo
 subst hvl
 have hpair:=(pairsL_get C x hxC).2
 have H:=lhd h
 have Hx1:=lhd hx1
 have Hpair:=lhd hpair
 have hqI:(q:Int) < (ks.length:Int):=by omega
 have hxI:(x:Int) < (C.length:Int):=by omega
 clear h hs hd hx2 hq hx1 hpair hj hjr
 go_enter Tryz.func219,Tryz.ntmps219
 go_wp2_with fail
 refine hat.mono ?_
 rintro e w1 ⟨rfl,hb1⟩
 have h1:=H.out.below hb1
 have c1:∀d,(w1.drewN d).cell? ⟨gp,1,none⟩=some (.slice (some ⟨g2,0,none⟩) C.length cap2):=fun d=>(h1.blk.cell 1).trans rfl
 have c2:∀d,(w1.drewN d).cell? ⟨gp,2,none⟩=some (.slice (some ⟨g,0,none⟩) ks.length cap):=fun d=>(h1.blk.cell 2).trans rfl
 have hgp:=h1.blk.lt
 have c3:∀d,(w1.drewN d).cell? ⟨g,q,none⟩=some (.int .i64 (x:Int)):=fun d=>(World.ownsRow.cellAt h1.orow q (by omega)).trans (by rw [List.getElem?_map,Hx1.out];rfl)
 have c4:∀d,(w1.drewN d).cell? ⟨g2,x*2+1,none⟩=some (.int .i64 ((posK C x:Nat):Int)):=fun d=>(World.ownsRow.cellAt h1.lrow (x*2+1) (by omega)).trans Hpair.out
 have Hb1:=lhd hb1
 have hgl1:=Nat.lt_of_lt_of_le hgl hb1.size
 have hgl21:=Nat.lt_of_lt_of_le hgl2 hb1.size
 obtain ⟨pp,hpp⟩:∃pp,posK C x=pp:=⟨_,rfl⟩
 rw [hpp] at c4
 have Hpp:=lhd hpp
 clear hat hb1 h1 hpp
 go_wp2_with fail
 go_quiet (fail)
 go_wp2_with fail
 go_ret
 exact ⟨by rw [Hpp.out];rfl,below_drewN Hb1.out _⟩
def TreeE (w:World) (F:Nat→Prop) (gt:Nat) (bs:List Bool):Prop:=
 F gt∧∃(ga:Nat) (v:Int),
   (bs= []∧F ga∧Bk w gt 226 #[.pointer (some ⟨ga,0,none⟩),.slice none 0 0,.int .i64 (-1),.int .i64 v]∧Bk w ga 217 #[.slice none 0 0,.slice none 0 0,.int .i64 268435456])∨
   (bs= []∧∃gl cl l8,F gl∧Bk w gt 226 #[.pointer (some ⟨ga,0,none⟩),.slice (some ⟨gl,0,none⟩) 1 cl,.int .i64 (-1),.int .i64 v]∧w.ownsRow 0 229 8 (.slice (some ⟨gl,0,none⟩) 1 cl) 1 l8∧ArenaE w F ga [false] [0])∨
   (bs≠ []∧bs.length≤128∧∃gl cl gb,F gl∧F gb∧LeafV w 0 gt ga gl cl gb 0 v bs∧ArenaE w F ga [true] [])
section
variable {w w' : World} {F G : Nat → Prop} {gt : Nat} {bs : List Bool}
theorem TreeE.at (h:TreeE w F gt bs):TreeAt w gt bs:=by
 obtain ⟨h0,ga,v,⟨h1,h2,h3,h4⟩|⟨h1,gl,cl,l8,h2,h3,h4,h5⟩|⟨h1,h2,gl,cl,gb,h3,h4,h5,h6⟩⟩:=h
 · exact ⟨ga,v,.inl ⟨h1,_,h3⟩⟩
 · exact ⟨ga,v,.inl ⟨h1,_,h3⟩⟩
 · exact ⟨ga,v,.inr ⟨h1,h2,gl,cl,gb,h5⟩⟩
theorem TreeE.le (h:TreeE w F gt bs):bs.length≤128:=by
 obtain ⟨h0,ga,v,⟨h1,h2,h3,h4⟩|⟨h1,gl,cl,l8,h2,h3,h4,h5⟩|⟨h1,h2,gl,cl,gb,h3,h4,h5,h6⟩⟩:=h
 · rw [h1];simp
 · rw [h1];simp
 · exact h2
theorem TreeE.vis (h:TreeE w F gt bs) (k:Vis w w'):TreeE w' F gt bs:=by
 obtain ⟨h0,ga,v,⟨h1,h2,h3,h4⟩|⟨h1,gl,cl,l8,h2,h3,h4,h5⟩|⟨h1,h2,gl,cl,gb,h3,h4,h5,h6⟩⟩:=h
 · obtain ⟨v',h3'⟩:=k.tree h3
   exact ⟨h0,ga,v',.inl ⟨h1,h2,h3',k.bk h4 (by decide) (by decide)⟩⟩
 · obtain ⟨v',h3'⟩:=k.tree h3
   exact ⟨h0,ga,v',.inr (.inl ⟨h1,gl,cl,l8,h2,h3',k.own h4 (by decide) (by decide),h5.vis k⟩)⟩
 · obtain ⟨v',h5'⟩:=h5.vis k
   exact ⟨h0,ga,v',.inr (.inr ⟨h1,h2,gl,cl,gb,h3,h4,h5',h6.vis k⟩)⟩
theorem TreeE.mono (h:TreeE w F gt bs) (k:∀b,b < w.heap.size→F b→G b):TreeE w G gt bs:=by
 obtain ⟨h0,ga,v,⟨h1,h2,h3,h4⟩|⟨h1,gl,cl,l8,h2,h3,h4,h5⟩|⟨h1,h2,gl,cl,gb,h3,h4,h5,h6⟩⟩:=h
 · exact ⟨k _ h3.lt h0,ga,v,.inl ⟨h1,k _ h4.lt h2,h3,h4⟩⟩
 · exact ⟨k _ h3.lt h0,ga,v,.inr (.inl ⟨h1,gl,cl,l8,k _ (h4.lt _ rfl).2 h2,h3,h4,h5.mono k⟩)⟩
 · exact ⟨k _ h5.tree.lt h0,ga,v,.inr (.inr ⟨h1,h2,gl,cl,gb,k _ h5.row.lt.2 h3,k _ h5.blk.lt h4,h5,h6.mono k⟩)⟩
theorem TreeE.keep (h:TreeE w F gt bs) (k:Keep G w w') (hf:∀b t cs,t∈ [226,217,229,254,4,3]→Bk w b t cs→F b→¬G b):TreeE w' F gt bs:=by
 obtain ⟨h0,ga,v,⟨h1,h2,h3,h4⟩|⟨h1,gl,cl,l8,h2,h3,h4,h5⟩|⟨h1,h2,gl,cl,gb,h3,h4,h5,h6⟩⟩:=h
 · exact ⟨h0,ga,v,.inl ⟨h1,h2,k.bk h3 (hf _ _ _ (by decide) h3 h0),k.bk h4 (hf _ _ _ (by decide) h4 h2)⟩⟩
 · exact ⟨h0,ga,v,.inr (.inl ⟨h1,gl,cl,l8,h2,k.bk h3 (hf _ _ _ (by decide) h3 h0),own_same h4 (fun b cs hb hk=>k.bk hk (hf _ _ _ (by decide) hk (by injection hb with hb;rw [←hb];exact h2))),h5.keep k fun b t cs ht=>hf b t cs (by simp at ht;rcases ht with rfl | rfl | rfl <;> decide)⟩)⟩
 · exact ⟨h0,ga,v,.inr (.inr ⟨h1,h2,gl,cl,gb,h3,h4,⟨k.bk h5.tree (hf _ _ _ (by decide) h5.tree h0),own_same h5.row (fun b cs hb hk=>k.bk hk (hf _ _ _ (by decide) hk (by injection hb with hb;rw [←hb];exact h3))),k.bk h5.blk (hf _ _ _ (by decide) h5.blk h4)⟩,h6.keep k fun b t cs ht=>hf b t cs (by simp at ht;rcases ht with rfl | rfl | rfl <;> decide)⟩)⟩
theorem TreeE.below (h:TreeE w F gt bs) (k:Below w.heap.size w w'):TreeE w' F gt bs:=h.keep (G:=fun _=>False) (Keep.of_below k) fun _ _ _ _ _ _ f=>f
end
theorem TreeB.own {w:World} {B gt:Nat} {bs:List Bool} (h:TreeB w B gt bs):TreeE w (fun b=>B≤b) gt bs:=by
 obtain ⟨ga,v,l1,l2,⟨h1,h2,h3⟩|⟨h1,h2,gl,cl,gb,l3,h3⟩⟩:=h
 · exact ⟨l1,ga,v,.inl ⟨h1,l2,h2,h3⟩⟩
 · obtain ⟨A,c,h4,h5⟩:=h3.arena
   refine ⟨l1,ga,v,.inr (.inr ⟨h1,h2,gl,cl,gb,h3.row.lt.1,l3,h3.toV,l2,A,c,none,0,h4,own_mono h5.own (Nat.zero_le _),World.ownsRow_nil _ _ _ _,fun b hb=>(h5.own.lt b hb).1,fun b hb=>by cases hb⟩)⟩
theorem LeafV.set_visits {w:World} {gt ga gl cl gb:Nat} {rt v:Int} {bs:List Bool} (h:LeafV w 0 gt ga gl cl gb rt v bs) (v':Int):LeafV (w.setCell ⟨gt,3,none⟩ (.int .i64 v')) 0 gt ga gl cl gb rt v' bs:=
 ⟨h.tree.set 3 _,own_same h.row fun b cs _ hb=>hb.far (p:=⟨gt,3,none⟩) (Bk.ne hb h.tree (by decide)) _,h.blk.far (p:=⟨gt,3,none⟩) (Bk.ne h.blk h.tree (by decide)) _⟩
theorem LeafV.set_root {w:World} {gt ga gl cl gb:Nat} {rt v:Int} {bs:List Bool} (h:LeafV w 0 gt ga gl cl gb rt v bs) (rt':Int):LeafV (w.setCell ⟨gt,2,none⟩ (.int .i64 rt')) 0 gt ga gl cl gb rt' v bs:=
 ⟨h.tree.set 2 _,own_same h.row fun b cs _ hb=>hb.far (p:=⟨gt,2,none⟩) (Bk.ne hb h.tree (by decide)) _,h.blk.far (p:=⟨gt,2,none⟩) (Bk.ne h.blk h.tree (by decide)) _⟩
theorem LeafV.below {w w':World} {B gt ga gl cl gb:Nat} {rt v:Int} {bs:List Bool} (h:LeafV w B gt ga gl cl gb rt v bs) (k:Below w.heap.size w w'):LeafV w' B gt ga gl cl gb rt v bs:=
 ⟨h.tree.below k h.tree.lt,own_below h.row k,h.blk.below k h.blk.lt⟩
theorem insert_leaf (gt ga gl cl gb k:Nat) (v:Int) (b:Bool) (bs:List Bool) (w:World) (h:LeafV w 0 gt ga gl cl gb 0 v bs) (hl:bs.length≤127) (hk:k≤bs.length):
 Calls Tryz.prog 242 #[.pointer (some ⟨gt,0,none⟩),.int .i64 0,.int .i64 (k:Int),.bool b] w fun e w'=>e=.returned (.int .i64 0)∧(∃v',LeafV w' 0 gt ga gl cl gb 0 v' (insN bs k b))∧Keep (fun b=>b=gt∨b=gl∨b=gb) w w':=by
 obtain ⟨c0,c1,c2,c3,d0,d1,d2,d3,d4,d5,d6,d7⟩:=h.cells
 have hgl:=h.row.lt.2
 have hgt:=h.tree.lt
 have hgb:=h.blk.lt
 have hgt_gl:gt≠gl:=h.row.bk_ne h.tree (by decide)
 have hgb_gl:gb≠gl:=h.row.bk_ne h.blk (by decide)
 have hgt_gb:gt≠gb:=Bk.ne h.tree h.blk (by decide)
 have f3:=h.tree.frozen 3
 have hl':(insN bs k b).length≤128:=by rw [insN_len _ _ hk];omega
 obtain ⟨n,hn⟩:∃n,bs.length=n:=⟨_,rfl⟩
 obtain ⟨o,ho⟩:∃o,bs.count true=o:=⟨_,rfl⟩
 have h1:=(h.set_visits (wrap64 (v+1))).below ((Below.refl _ _).alloc (Nat.le_refl _) (.cells #[.int .i64 (-1),.int .i64 (-1),.int .i64 0,.int .i64 (n:Int),.int .i64 (o:Int),.int .i64 0,.int .i64 0,.pointer (some ⟨gb,0,none⟩)] 229))
 have hk1:Keep (fun b=>b=gt∨b=gl∨b=gb) w ((w.setCell ⟨gt,3,none⟩ (.int .i64 (wrap64 (v+1)))).alloc (.cells #[.int .i64 (-1),.int .i64 (-1),.int .i64 0,.int .i64 (n:Int),.int .i64 (o:Int),.int .i64 0,.int .i64 0,.pointer (some ⟨gb,0,none⟩)] 229)):=
  (Keep.setCell (F:=fun b=>b=gt∨b=gl∨b=gb) (Keep.refl _ _) (p:=⟨gt,3,none⟩) (.inl (.inl rfl)) _).alloc _
 have hn1:=Bk.new (w.setCell ⟨gt,3,none⟩ (.int .i64 (wrap64 (v+1)))) 229 #[.int .i64 (-1),.int .i64 (-1),.int .i64 0,.int .i64 (n:Int),.int .i64 (o:Int),.int .i64 0,.int .i64 0,.pointer (some ⟨gb,0,none⟩)]
 rw [hn] at d3
 rw [ho] at d4
 obtain ⟨W,hW⟩:∃W,(w.setCell ⟨gt,3,none⟩ (.int .i64 (wrap64 (v+1)))).alloc (.cells #[.int .i64 (-1),.int .i64 (-1),.int .i64 0,.int .i64 (n:Int),.int .i64 (o:Int),.int .i64 0,.int .i64 0,.pointer (some ⟨gb,0,none⟩)] 229)=W:=⟨_,rfl⟩
 rw [hW] at h1 hk1 hn1
 have hsz:(w.setCell ⟨gt,3,none⟩ (.int .i64 (wrap64 (v+1)))).heap.size=w.heap.size:=by simp [World.setCell]
 rw [hsz] at hn1
 have x7:W.cell? ⟨w.heap.size,7,none⟩=some (.pointer (some ⟨gb,0,none⟩)):=(hn1.cell 7).trans rfl
 have hWs:=hn1.lt
 have h128:((n:Int)==128)=false:=by rw [beq_eq_false_iff_ne];omega
 have H1:=lhd h1
 have Hk1:=lhd hk1
 have Hn1:=lhd hn1
 have HW:=lhd hW
 have Hn:=lhd hn
 have Hl:=lhd hl
 have Hk:=lhd hk
 have Hl':=lhd hl'
 clear h h1 hk1 hn1 hW hn ho hsz hl hk hl'
 go_enter Tryz.func242,Tryz.ntmps242
 go_wp2_with fail
 rw [HW.out]
 refine (BlockLen_any gb bs W H1.out.blk).mono ?_
 rintro e w2 ⟨rfl,rfl⟩
 rw [Hn.out]
 go_wp2_with fail
 refine (BlockInsert_any gb bs k b _ H1.out.blk Hl.out Hk.out).mono ?_
 rintro e w3 ⟨rfl,hb3,hk3⟩
 have ht3:=hk3.bk H1.out.tree hgt_gb
 have hr3:=own_same H1.out.row (w':=w3) fun x cs _ hb=>hk3.bk hb (fun e=>Bk.ne hb H1.out.blk (by decide) e)
 have hk13:=Hk1.out.trans (hk3.mono (G:=fun b=>b=gt∨b=gl∨b=gb) fun x _ e=>.inr (.inr e))
 have Hb3:=lhd hb3
 have Hk3:=lhd hk3
 have Ht3:=lhd ht3
 have Hr3:=lhd hr3
 have Hk13:=lhd hk13
 clear hb3 hk3 ht3 hr3 hk13 x7
 go_wp2_with fail
 refine (fix_leaf gt ga gl cl gb 0 0 _ (insN bs k b) w3 Ht3.out Hr3.out Hb3.out Hl'.out).mono ?_
 rintro e w4 ⟨rfl,hk4,hr4⟩
 have ht4:=hk4.bk Ht3.out hgt_gl
 have hb4:=hk4.bk Hb3.out hgb_gl
 have hk14:=Hk13.out.trans (hk4.mono (G:=fun b=>b=gt∨b=gl∨b=gb) fun x _ e=>.inr (.inl e))
 have H4:=lhd (show LeafV w4 0 gt ga gl cl gb 0 _ (insN bs k b) from ⟨ht4,hr4,hb4⟩)
 have Hk14:=lhd hk14
 clear ht4 hb4 hk14 hk4 hr4
 go_wp2_with fail
 go_ret
 exact ⟨rfl,⟨_,H4.out⟩,Hk14.out⟩
theorem eight8 {l:List Value} (h:l.length=8):∃u0 u1 u2 u3 u4 u5 u6 u7,l= [u0,u1,u2,u3,u4,u5,u6,u7]:=by
 match l,h with
 | [u0,u1,u2,u3,u4,u5,u6,u7],_=>exact ⟨u0,u1,u2,u3,u4,u5,u6,u7,rfl⟩
theorem own_bk {w:World} {B n sz g c:Nat} {e:TypeId} {xs:List Value} (h:w.ownsRow B e sz (.slice (some ⟨g,0,none⟩) n c) n xs):∃cur,Bk w g e cur:=by
 rcases h.2 with ⟨h1,_⟩|⟨g',cap,cur,h1,_,h3,_⟩
 · cases h1
 · injection h1 with h1 _ _
   injection h1 with h1
   injection h1 with h1 _
   subst h1
   exact ⟨cur,h3⟩
theorem ArenaE.own {w:World} {F:Nat→Prop} {ga:Nat} {tk:List Bool} {fr:List Nat} (h:ArenaE w F ga tk fr):∃Fa:Nat→Prop,(∀b,Fa b→F b)∧(∀b t cs,Fa b→Bk w b t cs→t=217∨t=4∨t=3)∧(∀b,Fa b→b < w.heap.size)∧ArenaE w Fa ga tk fr:=by
 obtain ⟨h0,At,ct,Af,cf,h1,h2,h3,h4,h5⟩:=h
 have hty:∀ {e:TypeId} {n c b:Nat} {A:Option Addr} {xs:List Value} {t:TypeId} {cs:Array Value},w.ownsRow 0 e 1 (.slice A n c) n xs→(Value.slice A n c).ownBlock=some b→Bk w b t cs→t=e:=fun {e n c b A xs t cs} hr hb hk=>by
  rcases hr.2 with ⟨g1,_⟩|⟨g',cap,cur,g1,_,g3,_⟩
  · rw [g1] at hb
    cases hb
  · rw [g1] at hb
    injection hb with hb
    have e1:g'=b:=hb
    subst e1
    exact (bk_inj hk g3).1
 refine ⟨fun b=>b=ga∨(Value.slice At tk.length ct).ownBlock=some b∨(Value.slice Af fr.length cf).ownBlock=some b,fun b hb=>?_,fun b t cs hb hk=>?_,fun b hb=>?_,.inl rfl,At,ct,Af,cf,h1,h2,h3,fun b hb=>.inr (.inl hb),fun b hb=>.inr (.inr hb)⟩
 · rcases hb with rfl | hb | hb
   · exact h0
   · exact h4 b hb
   · exact h5 b hb
 · rcases hb with rfl | hb | hb
   · exact .inl (bk_inj hk h1).1
   · exact .inr (.inl (hty h2 hb hk))
   · exact .inr (.inr (hty h3 hb hk))
 · rcases hb with rfl | hb | hb
   · exact h1.lt
   · exact (h2.lt b hb).2
   · exact (h3.lt b hb).2
theorem node_again (F:Nat→Prop) (gt ga gl cl gb:Nat) (v:Int) (l8:List Value) (bs:List Bool) (w:World) (ht:Bk w gt 226 #[.pointer (some ⟨ga,0,none⟩),.slice (some ⟨gl,0,none⟩) 1 cl,.int .i64 (-1),.int .i64 v]) (hr:w.ownsRow 0 229 8 (.slice (some ⟨gl,0,none⟩) 1 cl) 1 l8) (ha:ArenaE w F ga [false] [0]) (hb:Bk w gb 254 (blkC bs)) (hl:bs.length≤128) (hFl:F gl):
 Calls Tryz.prog 268 #[.pointer (some ⟨gt,0,none⟩),.agg #[.int .i64 (-1),.int .i64 (-1),.int .i64 0,.int .i64 0,.int .i64 0,.int .i64 0,.int .i64 0,.pointer (some ⟨gb,0,none⟩)]] w fun e w'=>e=.returned (.int .i64 0)∧Keep F w w'∧LeafV w' 0 gt ga gl cl gb (-1) v bs∧ArenaE w' F ga [true] []:=by
 obtain ⟨Fa,hFa,hFt,hFs,ha⟩:=ha.own
 obtain ⟨cur0,hcur0⟩:=own_bk hr
 have hgt:=ht.lt
 have hgb:=hb.lt
 have hgl:=hcur0.lt
 have hgt_gl:gt≠gl:=Bk.ne ht hcur0 (by decide)
 have hgb_gl:gb≠gl:=Bk.ne hb hcur0 (by decide)
 have q0:w.cell? ⟨gt,0,none⟩=some (.pointer (some ⟨ga,0,none⟩)):=(ht.cell 0).trans rfl
 have nF:∀b t cs,Bk w b t cs→t≠217→t≠4→t≠3→¬Fa b:=fun b t cs hk h1 h2 h3 hf=>by
  rcases hFt b t cs hf hk with e | e | e
  · exact h1 e
  · exact h2 e
  · exact h3 e
 have ha1:=ha.keep (G:=fun _=>False) (Keep.of_below ((Below.refl _ _).alloc (Nat.le_refl _) (.cells #[.int .i64 (-1),.int .i64 (-1),.int .i64 0,.int .i64 0,.int .i64 0,.int .i64 0,.int .i64 0,.pointer (some ⟨gb,0,none⟩)] 229))) (fun _ _ _ _ _ _ f=>f)
 have Ht:=lhd ht
 have Ha:=lhd ha1
 have Hb:=lhd hb
 have Hr:=lhd hr
 have HnF:=lhd nF
 have Hcur:=lhd hcur0
 have HFs:=lhd hFs
 have hgxF:¬Fa w.heap.size:=fun f=>by have:=hFs _ f;omega
 clear ht ha hb hr nF ha1 hFt hcur0 hFs
 go_enter Tryz.func268,Tryz.ntmps268
 go_wp2_with fail
 refine (TakePop_any Fa ga 0 [false] [] _ Ha.out (by simp) (by simp) (by simp)).mono ?_
 rintro e w1 ⟨rfl,ha1,hk1⟩
 have hx1:Bk w1 w.heap.size 229 #[.int .i64 (-1),.int .i64 (-1),.int .i64 0,.int .i64 0,.int .i64 0,.int .i64 0,.int .i64 0,.pointer (some ⟨gb,0,none⟩)]:=by
  have h:=Bk.new w 229 #[.int .i64 (-1),.int .i64 (-1),.int .i64 0,.int .i64 0,.int .i64 0,.int .i64 0,.int .i64 0,.pointer (some ⟨gb,0,none⟩)]
  exact hk1.bk h hgxF
 have hkw1:Keep Fa w w1:=(Keep.of_below ((Below.refl w.heap.size w).alloc (Nat.le_refl _) _)).trans hk1
 have ht1:=hkw1.bk Ht.out (HnF.out _ _ _ Ht.out (by decide) (by decide) (by decide))
 have hb1:=hkw1.bk Hb.out (HnF.out _ _ _ Hb.out (by decide) (by decide) (by decide))
 have hr1:=own_same (w':=w1) Hr.out fun b cs _ hk=>hkw1.bk hk (HnF.out _ _ _ hk (by decide) (by decide) (by decide))
 have hgx_gl:w.heap.size≠gl:=fun e=>by omega
 have q1:w1.cell? ⟨gt,1,none⟩=some (.slice (some ⟨gl,0,none⟩) 1 cl):=(ht1.cell 1).trans rfl
 have hgt1:=ht1.lt
 have Ha1:=lhd (show ArenaE w1 Fa ga [true] [] from ha1)
 have Hx1:=lhd hx1
 have Hkw1:=lhd hkw1
 have Ht1:=lhd ht1
 have Hb1:=lhd hb1
 have Hr1:=lhd hr1
 clear ha1 hk1 hx1 hkw1 ht1 hb1 hr1 q0 Ha
 go_wp2_with fail
 refine wp_region_any (by kernel_rfl) ?_
 refine wpAny_keep [32,33,34,35,36,37,38] (fun b=>b=gl) 7 [7] (fun w2=>w2.ownsRow 0 229 8 (.slice (some ⟨gl,0,none⟩) 1 cl) 1 l8) (fun _ w2=>RowS 0 gl cl gb 0 0 w2) [is (.pointer (some ⟨gt,0,none⟩)),is (.pointer (some ⟨gt,0,none⟩)),is (.pointer (some ⟨gt,1,none⟩)),is (.slice (some ⟨gl,0,none⟩) 1 cl),is (.int .i64 0),is (.agg #[.int .i64 (-1),.int .i64 (-1),.int .i64 0,.int .i64 0,.int .i64 0,.int .i64 0,.int .i64 0,.pointer (some ⟨gb,0,none⟩)]),is (.pointer (some ⟨gl,0,none⟩)),anyV] _ _ rfl (by kernel_rfl) (by kernel_rfl) (Hr1.out) (fun w1 w2 h _ hg=>own_below h hg) (fun _ _ _ h k=>RowS.grow h k) (by repeat' (first | exact stbk_is _ _ | exact stbk_any _ |(refine List.forall_mem_cons.2 ⟨?_,?_⟩)|(intro p hp;cases hp))) ?_ ?_
 · refine steps_of ?_
   refine steps_cons (step_on3 rfl rfl fun ev _ _ _ _ _ hold _ _ _ _ hK=>?_) ?_
   · have e0:ev (.tmp 0)=.pointer (some ⟨gt,0,none⟩):=hold 0 (by kernel_rfl)
     go_simp
     exact kq hK rfl
   refine steps_cons (step_on3 rfl rfl fun _ _ _ _ _ _ _ hval _ _ _ hK=>?_) ?_
   · have e32:_=_:=hval 0 32 (by kernel_rfl) rfl
     go_simp
     exact kq hK rfl
   refine steps_cons (step_on3 rfl rfl fun _ _ _ _ _ _ _ hval _ _ _ hK=>?_) ?_
   · have e33:_=_:=hval 1 33 (by kernel_rfl) rfl
     go_simp
     exact kq hK rfl
   refine steps_cons (step_on3 rfl rfl fun _ w5 hS _ _ _ _ hval _ _ _ hK=>?_) ?_
   · replace hS:Keep (fun b=>b=gl) w1 w5:=⟨hS.os,hS.tape,hS.output,hS.size,hS.block⟩
     have e34:_=_:=hval 2 34 (by kernel_rfl) rfl
     have q5:w5.cell? ⟨gt,1,none⟩=some (.slice (some ⟨gl,0,none⟩) 1 cl):=((hS.bk Ht1.out hgt_gl).cell 1).trans rfl
     go_simp
     exact kq hK rfl
   refine steps_cons (step_on3 rfl rfl fun ev _ _ _ _ _ hold _ _ _ _ hK=>?_) ?_
   · have e5:ev (.tmp 5)=.int .i64 0:=hold 5 (by kernel_rfl)
     go_simp
     exact kq hK rfl
   refine steps_cons (step_on3 rfl rfl fun ev w5 hS _ _ _ hold _ _ _ _ hK=>?_) ?_
   · replace hS:Keep (fun b=>b=gl) w1 w5:=⟨hS.os,hS.tape,hS.output,hS.size,hS.block⟩
     have e3:ev (.tmp 3)=.pointer (some ⟨w.heap.size,0,none⟩):=hold 3 (by kernel_rfl)
     have hx5:=hS.bk Hx1.out hgx_gl
     have x0:w5.cell? ⟨w.heap.size,0,none⟩=some (.int .i64 (-1)):=(hx5.cell 0).trans rfl
     have x1:w5.cell? ⟨w.heap.size,1,none⟩=some (.int .i64 (-1)):=(hx5.cell 1).trans rfl
     have x2:w5.cell? ⟨w.heap.size,2,none⟩=some (.int .i64 0):=(hx5.cell 2).trans rfl
     have x3:w5.cell? ⟨w.heap.size,3,none⟩=some (.int .i64 0):=(hx5.cell 3).trans rfl
     have x4:w5.cell? ⟨w.heap.size,4,none⟩=some (.int .i64 0):=(hx5.cell 4).trans rfl
     have x5:w5.cell? ⟨w.heap.size,5,none⟩=some (.int .i64 0):=(hx5.cell 5).trans rfl
     have x6:w5.cell? ⟨w.heap.size,6,none⟩=some (.int .i64 0):=(hx5.cell 6).trans rfl
     have x7:w5.cell? ⟨w.heap.size,7,none⟩=some (.pointer (some ⟨gb,0,none⟩)):=(hx5.cell 7).trans rfl
     go_simp
     exact kq hK rfl
   refine steps_cons (step_on3 rfl rfl fun _ _ _ _ _ _ _ hval _ _ _ hK=>?_) ?_
   · have e35:_=_:=hval 3 35 (by kernel_rfl) rfl
     have e36:_=_:=hval 4 36 (by kernel_rfl) rfl
     go_simp
     exact kq hK rfl
   refine steps_cons (step_on3 rfl rfl fun _ w5 _ hU _ _ _ hval _ _ _ hK=>?_) ?_
   · have hpre:=hU rfl
     have e38:_=_:=hval 6 38 (by kernel_rfl) rfl
     have e37:_=_:=hval 5 37 (by kernel_rfl) rfl
     obtain ⟨u0,u1,u2,u3,u4,u5,u6,u7,rfl⟩:=eight8 (show l8.length=8 from hpre.1)
     have x0:w5.cell? ⟨gl,0,none⟩=some u0:=(World.ownsRow.cellAt hpre 0 (by omega)).trans rfl
     have x1:w5.cell? ⟨gl,1,none⟩=some u1:=(World.ownsRow.cellAt hpre 1 (by omega)).trans rfl
     have x2:w5.cell? ⟨gl,2,none⟩=some u2:=(World.ownsRow.cellAt hpre 2 (by omega)).trans rfl
     have x3:w5.cell? ⟨gl,3,none⟩=some u3:=(World.ownsRow.cellAt hpre 3 (by omega)).trans rfl
     have x4:w5.cell? ⟨gl,4,none⟩=some u4:=(World.ownsRow.cellAt hpre 4 (by omega)).trans rfl
     have x5:w5.cell? ⟨gl,5,none⟩=some u5:=(World.ownsRow.cellAt hpre 5 (by omega)).trans rfl
     have x6:w5.cell? ⟨gl,6,none⟩=some u6:=(World.ownsRow.cellAt hpre 6 (by omega)).trans rfl
     have x7:w5.cell? ⟨gl,7,none⟩=some u7:=(World.ownsRow.cellAt hpre 7 (by omega)).trans rfl
     obtain ⟨cur,hcur⟩:=own_bk hpre
     have fz0:=hcur.frozen 0
     have fz1:=hcur.frozen 1
     have fz2:=hcur.frozen 2
     have fz3:=hcur.frozen 3
     have fz4:=hcur.frozen 4
     have fz5:=hcur.frozen 5
     have fz6:=hcur.frozen 6
     have fz7:=hcur.frozen 7
     go_simp
     refine hK (.bool true) _ (kstep_keep ?_) ?_
     · exact Keep.setCell (F:=fun b=>b=gl) (Keep.setCell (F:=fun b=>b=gl) (Keep.setCell (F:=fun b=>b=gl) (Keep.setCell (F:=fun b=>b=gl) (Keep.setCell (F:=fun b=>b=gl) (Keep.setCell (F:=fun b=>b=gl) (Keep.setCell (F:=fun b=>b=gl) (Keep.setCell (F:=fun b=>b=gl) (Keep.refl _ _) (p:=⟨gl,0,none⟩) (.inl rfl) _) (p:=⟨gl,1,none⟩) (.inl rfl) _) (p:=⟨gl,2,none⟩) (.inl rfl) _) (p:=⟨gl,3,none⟩) (.inl rfl) _) (p:=⟨gl,4,none⟩) (.inl rfl) _) (p:=⟨gl,5,none⟩) (.inl rfl) _) (p:=⟨gl,6,none⟩) (.inl rfl) _) (p:=⟨gl,7,none⟩) (.inl rfl) _
     · exact (World.ownsRow.stored (World.ownsRow.stored (World.ownsRow.stored (World.ownsRow.stored (World.ownsRow.stored (World.ownsRow.stored (World.ownsRow.stored (World.ownsRow.stored hpre 0 _).1 1 _).1 2 _).1 3 _).1 4 _).1 5 _).1 6 _).1 7 _).1
   exact steps_nil
 · intro ev w6 hS hval hall
   replace hS:Keep (fun b=>b=gl) w1 w6:=⟨hS.os,hS.tape,hS.output,hS.size,hS.block⟩
   obtain ⟨vJ,pJ⟩:∃vJ0,(fun _ w2=>RowS 0 gl cl gb 0 0 w2) vJ0 w6:=hall 7 (by decide)
   simp only [putsOf,List.foldl_cons,List.foldl_nil,Act.put,List.setIfInBounds_toArray,List.set_cons_zero,List.set_cons_succ]
   clear hval hall
   have hr2:RowS 0 gl cl gb 0 0 w6:=pJ
   have ht2:=hS.bk Ht1.out hgt_gl
   have hb2:=hS.bk Hb1.out hgb_gl
   have ha2:=Ha1.out.keep hS fun b t cs hin hk hf=>fun e=>by
    have e':b=gl:=e
    subst e'
    obtain ⟨c2,hc2⟩:=own_bk Hr1.out
    rw [(bk_inj hk hc2).1] at hin
    exact absurd hin (by decide)
   have hk2:Keep F w w6:=(Hkw1.out.mono fun b _ f=>hFa b f).trans (hS.mono fun b _ e=>by rw [e];exact hFl)
   have Hr2:=lhd hr2
   have Ht2:=lhd ht2
   have Hb2:=lhd hb2
   have Ha2:=lhd ha2
   have Hk2:=lhd hk2
   clear pJ hr2 ht2 hb2 ha2 hk2 hS q1
   go_wp2_with fail
   refine (fix_leaf gt ga gl cl gb 0 (-1) v bs w6 Ht2.out Hr2.out Hb2.out hl).mono ?_
   rintro e w7 ⟨rfl,hk7,hr7⟩
   have ht7:=hk7.bk Ht2.out hgt_gl
   have hb7:=hk7.bk Hb2.out hgb_gl
   have ha7:=Ha2.out.keep hk7 fun b t cs hin hk hf=>fun e=>by
    have e':b=gl:=e
    subst e'
    obtain ⟨c2,hc2⟩:=own_bk Hr2.out
    rw [(bk_inj hk hc2).1] at hin
    exact absurd hin (by decide)
   have hk8:Keep F w w7:=Hk2.out.trans (hk7.mono fun b _ e=>by rw [e];exact hFl)
   have H7:=lhd (show LeafV w7 0 gt ga gl cl gb (-1) v bs from ⟨ht7,hr7,hb7⟩)
   have Ha7:=lhd (ha7.mono (G:=F) fun b _ f=>hFa b f)
   have Hk8:=lhd hk8
   clear ht7 hb7 ha7 hk8 hk7 hr7
   go_wp2_with fail
   go_ret
   exact ⟨rfl,Hk8.out,H7.out,Ha7.out⟩
theorem leaf_again (F:Nat→Prop) (gt ga gl cl gb:Nat) (v:Int) (l8:List Value) (bs:List Bool) (w:World) (ht:Bk w gt 226 #[.pointer (some ⟨ga,0,none⟩),.slice (some ⟨gl,0,none⟩) 1 cl,.int .i64 (-1),.int .i64 v]) (hr:w.ownsRow 0 229 8 (.slice (some ⟨gl,0,none⟩) 1 cl) 1 l8) (ha:ArenaE w F ga [false] [0]) (hb:Bk w gb 254 (blkC bs)) (hl:bs.length≤128) (hFl:F gl):
 Calls Tryz.prog 241 #[.pointer (some ⟨gt,0,none⟩),.pointer (some ⟨gb,0,none⟩)] w fun e w'=>e=.returned (.int .i64 0)∧Keep F w w'∧LeafV w' 0 gt ga gl cl gb (-1) v bs∧ArenaE w' F ga [true] []:=by
 go_enter Tryz.func241,Tryz.ntmps241
 go_wp2_with fail
 refine (node_again F gt ga gl cl gb v l8 bs w ht hr ha hb hl hFl).mono ?_
 rintro e w1 ⟨rfl,hk,h1,h2⟩
 go_wp2_with fail
 go_ret
 exact ⟨rfl,hk,h1,h2⟩
theorem TreeE.set_visits {w:World} {F:Nat→Prop} {gt:Nat} {bs:List Bool} (h:TreeE w F gt bs) (u:Int):TreeE (w.setCell ⟨gt,3,none⟩ (.int .i64 u)) F gt bs:=by
 have h2:=h
 obtain ⟨h0,ga,v,⟨h1,_,h3,_⟩|⟨h1,gl,cl,l8,_,h3,_,_⟩|⟨h1,_,gl,cl,gb,_,_,h5,_⟩⟩:=h2
 · exact h.vis (Vis.set_tree h3 u)
 · exact h.vis (Vis.set_tree h3 u)
 · exact h.vis (Vis.set_tree h5.tree u)
theorem insert_empty (gt ga k:Nat) (v:Int) (b:Bool) (F:Nat→Prop) (w:World) (hF:F gt) (hFa:F ga) (ht:Bk w gt 226 #[.pointer (some ⟨ga,0,none⟩),.slice none 0 0,.int .i64 (-1),.int .i64 v]) (ha:Bk w ga 217 #[.slice none 0 0,.slice none 0 0,.int .i64 268435456]):
 Calls Tryz.prog 203 #[.pointer (some ⟨gt,0,none⟩),.int .i64 0,.bool b] w fun e w'=>e=.returned (.int .i64 0)∧TreeE w' (Gw F w.heap.size) gt [b]∧Keep F w w':=by
 have hlen:=TreeLen_any gt [] w ⟨ga,v,.inl ⟨rfl,_,ht⟩⟩
 have hgt:=ht.lt
 have Ht:=lhd ht
 have Ha:=lhd ha
 clear ht ha
 go_enter Tryz.func203,Tryz.ntmps203
 go_wp2_with fail
 refine hlen.mono ?_
 rintro e w1 ⟨rfl,hb1⟩
 clear hlen
 have ht1:=Ht.out.below hb1 hgt
 have ha1:=Ha.out.below hb1 Ha.out.lt
 have hta:gt≠ga:=Bk.ne ht1 ha1 (by decide)
 have hgt1:=ht1.lt
 have c2:w1.cell? ⟨gt,2,none⟩=some (.int .i64 (-1)):=(ht1.cell 2).trans rfl
 have c3:w1.cell? ⟨gt,3,none⟩=some (.int .i64 v):=(ht1.cell 3).trans rfl
 have f3:=ht1.frozen 3
 have ht2:=ht1.set 3 (.int .i64 0)
 have ha2:=ha1.far (p:=⟨gt,3,none⟩) (fun e=>hta e.symm) (.int .i64 0)
 have hk2:Keep F w (w1.setCell ⟨gt,3,none⟩ (.int .i64 0)):=Keep.setCell (F:=F) (Keep.of_below hb1) (p:=⟨gt,3,none⟩) (.inl hF) _
 obtain ⟨W,hW⟩:∃W,w1.setCell ⟨gt,3,none⟩ (.int .i64 0)=W:=⟨_,rfl⟩
 have hsW:w1.heap.size=W.heap.size:=by rw [←hW];simp [World.setCell]
 rw [hW] at ht2 ha2 hk2
 have hs2:=hk2.size
 have HsW:=lhd hsW
 clear hsW
 have HW:=lhd hW
 have Ht2:=lhd ht2
 have Ha2:=lhd ha2
 have Hk2:=lhd hk2
 clear hb1 ht1 ha1 hW ht2 ha2 hk2
 go_wp2_with fail
 rw [HW.out]
 clear c2 c3 f3
 refine (BlockNew_any (some ⟨w1.heap.size,0,none⟩) 1 1 _ [b] (W.alloc (.cells #[.bool b] 4)) (Rd.made' W 4 1 1 #[.bool b] w1.heap.size rfl HsW.out) (Nat.le_refl _) (by decide)).mono ?_
 rintro e w3 ⟨rfl,hb3,hbl3⟩
 rw [World.size_alloc] at hb3
 have hbl:Below W.heap.size W w3:=((Below.refl _ _).alloc (Nat.le_refl _) _).trans (hbl3.mono (by simp))
 have ht3:=Ht2.out.below hbl Ht2.out.lt
 have ha3:=Ha2.out.below hbl Ha2.out.lt
 have hk3:Keep F w w3:=Hk2.out.trans (Keep.of_below hbl)
 have Ht3:=lhd ht3
 have Ha3:=lhd ha3
 have Hb3:=lhd hb3
 have Hk3:=lhd hk3
 have hgt3:=ht3.lt
 clear hbl3 hbl ht3 ha3 hb3 hk3
 rw [World.size_alloc]
 go_wp2_with fail
 refine (leaf_first gt ga (W.heap.size+1) 0 [b] w3 Ht3.out Ha3.out Hb3.out (by simp)).mono ?_
 rintro e w4 ⟨rfl,hk4,gl,cl,hl⟩
 have hV:=hl.toV
 have f2:=hV.tree.frozen 2
 have c2:w4.cell? ⟨gt,2,none⟩=some (.int .i64 (-1)):=(hV.tree.cell 2).trans rfl
 have hgt4:=hV.tree.lt
 have hV5:=hV.set_root 0
 have f3:=hV5.tree.frozen 3
 have c3:(w4.setCell ⟨gt,2,none⟩ (.int .i64 0)).cell? ⟨gt,3,none⟩=some (.int .i64 0):=(hV5.tree.cell 3).trans rfl
 have hV6:=hV5.set_visits 1
 obtain ⟨A5,c5,ha5,hm5⟩:=hl.arena
 have hgl:=hl.row.lt
 have hk5:Keep F w w4:=Hk3.out.trans' hk4 fun x _ e=>by
  rcases e with rfl | rfl
  · exact hFa
  · exact hF
 have hk6:Keep F w ((w4.setCell ⟨gt,2,none⟩ (.int .i64 0)).setCell ⟨gt,3,none⟩ (.int .i64 1)):=Keep.setCell (F:=F) (Keep.setCell (F:=F) hk5 (p:=⟨gt,2,none⟩) (.inl hF) _) (p:=⟨gt,3,none⟩) (.inl hF) _
 have har:ArenaE w4 (Gw F w.heap.size) ga [true] []:=⟨.inl hFa,A5,c5,none,0,ha5,own_mono hm5.own (Nat.zero_le _),World.ownsRow_nil _ _ _ _,fun x hx=>.inr (by have:=(hm5.own.lt x hx).1;have:=Hk3.out.size;omega),fun x hx=>by cases hx⟩
 have hk7:Keep (fun x=>x=gt) w4 ((w4.setCell ⟨gt,2,none⟩ (.int .i64 0)).setCell ⟨gt,3,none⟩ (.int .i64 1)):=Keep.setCell (F:=fun x=>x=gt) (Keep.setCell (F:=fun x=>x=gt) (Keep.refl _ _) (p:=⟨gt,2,none⟩) (.inl rfl) _) (p:=⟨gt,3,none⟩) (.inl rfl) _
 have har7:=har.keep hk7 fun x t cs hin hk _=>fun e=>by
  have e':x=gt:=e
  subst e'
  rw [(bk_inj hk hV.tree).1] at hin
  exact absurd hin (by decide)
 have HV6:=lhd hV6
 have Hk6:=lhd hk6
 have Har7:=lhd har7
 clear hV hV5 hV6 hl ha5 hm5 hk5 hk6 har hk7 har7 hk4
 go_wp2_with fail
 go_ret
 exact ⟨rfl,⟨.inl hF,ga,1,.inr (.inr ⟨by simp,by simp,gl,cl,_,.inr (by have:=Hk3.out.size;omega),.inr (by omega),HV6.out,Har7.out⟩)⟩,Hk6.out⟩
theorem insert_again (gt ga gl cl:Nat) (v:Int) (b:Bool) (l8:List Value) (F:Nat→Prop) (w:World) (hF:F gt) (hFl:F gl) (ht:Bk w gt 226 #[.pointer (some ⟨ga,0,none⟩),.slice (some ⟨gl,0,none⟩) 1 cl,.int .i64 (-1),.int .i64 v]) (hr:w.ownsRow 0 229 8 (.slice (some ⟨gl,0,none⟩) 1 cl) 1 l8) (ha:ArenaE w F ga [false] [0]):
 Calls Tryz.prog 203 #[.pointer (some ⟨gt,0,none⟩),.int .i64 0,.bool b] w fun e w'=>e=.returned (.int .i64 0)∧TreeE w' (Gw F w.heap.size) gt [b]∧Keep F w w':=by
 have hlen:=TreeLen_any gt [] w ⟨ga,v,.inl ⟨rfl,_,ht⟩⟩
 have hgt:=ht.lt
 have Ht:=lhd ht
 have Ha:=lhd ha
 have Hr:=lhd hr
 clear ht ha hr
 go_enter Tryz.func203,Tryz.ntmps203
 go_wp2_with fail
 refine hlen.mono ?_
 rintro e w1 ⟨rfl,hb1⟩
 clear hlen
 have ht1:=Ht.out.below hb1 hgt
 have ha1:=Ha.out.keep (G:=fun _=>False) (Keep.of_below hb1) (fun _ _ _ _ _ _ f=>f)
 have hr1:=own_below Hr.out hb1
 have hgt1:=ht1.lt
 have c2:w1.cell? ⟨gt,2,none⟩=some (.int .i64 (-1)):=(ht1.cell 2).trans rfl
 have c3:w1.cell? ⟨gt,3,none⟩=some (.int .i64 v):=(ht1.cell 3).trans rfl
 have f3:=ht1.frozen 3
 have ht2:=ht1.set 3 (.int .i64 0)
 have hkx:Keep (fun x=>x=gt) w1 (w1.setCell ⟨gt,3,none⟩ (.int .i64 0)):=Keep.setCell (F:=fun x=>x=gt) (Keep.refl _ _) (p:=⟨gt,3,none⟩) (.inl rfl) _
 have ha2:=ha1.keep hkx fun x t cs hin hk _=>fun e=>by
  have e':x=gt:=e
  subst e'
  rw [(bk_inj hk ht1).1] at hin
  exact absurd hin (by decide)
 have hr2:=own_same (w':=w1.setCell ⟨gt,3,none⟩ (.int .i64 0)) hr1 fun x cs _ hk=>hk.far (p:=⟨gt,3,none⟩) (Bk.ne hk ht1 (by decide)) _
 have hk2:Keep F w (w1.setCell ⟨gt,3,none⟩ (.int .i64 0)):=Keep.setCell (F:=F) (Keep.of_below hb1) (p:=⟨gt,3,none⟩) (.inl hF) _
 obtain ⟨W,hW⟩:∃W,w1.setCell ⟨gt,3,none⟩ (.int .i64 0)=W:=⟨_,rfl⟩
 have hsW:w1.heap.size=W.heap.size:=by rw [←hW];simp [World.setCell]
 rw [hW] at ht2 ha2 hk2 hr2
 have hs2:=hk2.size
 have HsW:=lhd hsW
 clear hsW
 have HW:=lhd hW
 have Ht2:=lhd ht2
 have Ha2:=lhd ha2
 have Hr2:=lhd hr2
 have Hk2:=lhd hk2
 clear hb1 ht1 ha1 hr1 hW ht2 ha2 hk2 hr2 hkx
 go_wp2_with fail
 rw [HW.out]
 clear c2 c3 f3
 refine (BlockNew_any (some ⟨w1.heap.size,0,none⟩) 1 1 _ [b] (W.alloc (.cells #[.bool b] 4)) (Rd.made' W 4 1 1 #[.bool b] w1.heap.size rfl HsW.out) (Nat.le_refl _) (by decide)).mono ?_
 rintro e w3 ⟨rfl,hb3,hbl3⟩
 rw [World.size_alloc] at hb3
 have hbl:Below W.heap.size W w3:=((Below.refl _ _).alloc (Nat.le_refl _) _).trans (hbl3.mono (by simp))
 have ht3:=Ht2.out.below hbl Ht2.out.lt
 have ha3:=Ha2.out.keep (G:=fun _=>False) (Keep.of_below hbl) (fun _ _ _ _ _ _ f=>f)
 have hr3:=own_below Hr2.out hbl
 have hk3:Keep F w w3:=Hk2.out.trans (Keep.of_below hbl)
 have Ht3:=lhd ht3
 have Ha3:=lhd ha3
 have Hb3:=lhd hb3
 have Hr3:=lhd hr3
 have Hk3:=lhd hk3
 have hgt3:=ht3.lt
 clear hbl3 hbl ht3 ha3 hb3 hk3 hr3
 rw [World.size_alloc]
 go_wp2_with fail
 refine (leaf_again F gt ga gl cl (W.heap.size+1) 0 l8 [b] w3 Ht3.out Hr3.out Ha3.out Hb3.out (by simp) hFl).mono ?_
 rintro e w4 ⟨rfl,hk4,hV,ha4⟩
 have f2:=hV.tree.frozen 2
 have c2:w4.cell? ⟨gt,2,none⟩=some (.int .i64 (-1)):=(hV.tree.cell 2).trans rfl
 have hgt4:=hV.tree.lt
 have hV5:=hV.set_root 0
 have f3:=hV5.tree.frozen 3
 have c3:(w4.setCell ⟨gt,2,none⟩ (.int .i64 0)).cell? ⟨gt,3,none⟩=some (.int .i64 0):=(hV5.tree.cell 3).trans rfl
 have hV6:=hV5.set_visits 1
 have hk6:Keep F w ((w4.setCell ⟨gt,2,none⟩ (.int .i64 0)).setCell ⟨gt,3,none⟩ (.int .i64 1)):=Keep.setCell (F:=F) (Keep.setCell (F:=F) (Hk3.out.trans hk4) (p:=⟨gt,2,none⟩) (.inl hF) _) (p:=⟨gt,3,none⟩) (.inl hF) _
 have hk7:Keep (fun x=>x=gt) w4 ((w4.setCell ⟨gt,2,none⟩ (.int .i64 0)).setCell ⟨gt,3,none⟩ (.int .i64 1)):=Keep.setCell (F:=fun x=>x=gt) (Keep.setCell (F:=fun x=>x=gt) (Keep.refl _ _) (p:=⟨gt,2,none⟩) (.inl rfl) _) (p:=⟨gt,3,none⟩) (.inl rfl) _
 have har7:=(ha4.keep hk7 fun x t cs hin hk _=>fun e=>by
  have e':x=gt:=e
  subst e'
  rw [(bk_inj hk hV.tree).1] at hin
  exact absurd hin (by decide)).mono (G:=Gw F w.heap.size) fun x _ f=>.inl f
 have HV6:=lhd hV6
 have Hk6:=lhd hk6
 have Har7:=lhd har7
 clear hV hV5 hV6 ha4 hk6 hk7 har7 hk4
 go_wp2_with fail
 go_ret
 exact ⟨rfl,⟨.inl hF,ga,1,.inr (.inr ⟨by simp,by simp,gl,cl,_,.inl hFl,.inr (by omega),HV6.out,Har7.out⟩)⟩,Hk6.out⟩
theorem insert_more (gt ga gl cl gb k:Nat) (v:Int) (b:Bool) (bs:List Bool) (F:Nat→Prop) (w:World) (hF:F gt) (hFl:F gl) (hFb:F gb) (h:LeafV w 0 gt ga gl cl gb 0 v bs) (ha:ArenaE w F ga [true] []) (hl:bs.length≤127) (hk:k≤bs.length) (hne:bs≠ []):
 Calls Tryz.prog 203 #[.pointer (some ⟨gt,0,none⟩),.int .i64 (k:Int),.bool b] w fun e w'=>e=.returned (.int .i64 0)∧TreeE w' F gt (insN bs k b)∧Keep F w w':=by
 have hlen:=TreeLen_any gt bs w ⟨ga,v,.inr ⟨hne,by omega,gl,cl,gb,h⟩⟩
 obtain ⟨n,hn⟩:∃n,bs.length=n:=⟨_,rfl⟩
 rw [hn] at hlen
 have hkn:¬((k:Int) > (n:Int)):=by omega
 have hk0:decide ((k:Int) < 0)=false:=by simp
 have hgt:=h.tree.lt
 have H:=lhd h
 have Ha:=lhd ha
 have Hl:=lhd hl
 have Hk:=lhd hk
 clear h ha hn hl hk
 go_enter Tryz.func203,Tryz.ntmps203
 go_wp2_with fail
 refine hlen.mono ?_
 rintro e w1 ⟨rfl,hb1⟩
 clear hlen
 have h1:=H.out.below hb1
 have ha1:=Ha.out.keep (G:=fun _=>False) (Keep.of_below hb1) (fun _ _ _ _ _ _ f=>f)
 have hgt1:=h1.tree.lt
 have c2:w1.cell? ⟨gt,2,none⟩=some (.int .i64 0):=(h1.tree.cell 2).trans rfl
 have c3:w1.cell? ⟨gt,3,none⟩=some (.int .i64 v):=(h1.tree.cell 3).trans rfl
 have f3:=h1.tree.frozen 3
 have hkx:Keep (fun x=>x=gt) w1 (w1.setCell ⟨gt,3,none⟩ (.int .i64 0)):=Keep.setCell (F:=fun x=>x=gt) (Keep.refl _ _) (p:=⟨gt,3,none⟩) (.inl rfl) _
 have ha2:=ha1.keep hkx fun x t cs hin hk _=>fun e=>by
  have e':x=gt:=e
  subst e'
  rw [(bk_inj hk h1.tree).1] at hin
  exact absurd hin (by decide)
 have h2:=h1.set_visits 0
 have hk2:Keep F w (w1.setCell ⟨gt,3,none⟩ (.int .i64 0)):=Keep.setCell (F:=F) (Keep.of_below hb1) (p:=⟨gt,3,none⟩) (.inl hF) _
 obtain ⟨W,hW⟩:∃W,w1.setCell ⟨gt,3,none⟩ (.int .i64 0)=W:=⟨_,rfl⟩
 rw [hW] at h2 ha2 hk2
 have HW:=lhd hW
 have H2:=lhd h2
 have Ha2:=lhd ha2
 have Hk2:=lhd hk2
 clear hb1 h1 ha1 hW h2 ha2 hk2 hkx
 go_wp2_with fail
 rw [HW.out]
 clear c2 c3 f3
 refine (insert_leaf gt ga gl cl gb k 0 b bs W H2.out Hl.out Hk.out).mono ?_
 rintro e w3 ⟨rfl,⟨v3,hV⟩,hk3⟩
 have f2:=hV.tree.frozen 2
 have c2:w3.cell? ⟨gt,2,none⟩=some (.int .i64 0):=(hV.tree.cell 2).trans rfl
 have hgt3:=hV.tree.lt
 have hV4:=hV.set_root 0
 have ha3:=Ha2.out.keep hk3 fun x t cs hin hk _=>fun e=>by
  rcases e with e | e | e
  · subst e
    rw [(bk_inj hk H2.out.tree).1] at hin
    exact absurd hin (by decide)
  · subst e
    obtain ⟨cu,hcu⟩:=own_bk H2.out.row
    rw [(bk_inj hk hcu).1] at hin
    exact absurd hin (by decide)
  · subst e
    rw [(bk_inj hk H2.out.blk).1] at hin
    exact absurd hin (by decide)
 have hkx:Keep (fun x=>x=gt) w3 (w3.setCell ⟨gt,2,none⟩ (.int .i64 0)):=Keep.setCell (F:=fun x=>x=gt) (Keep.refl _ _) (p:=⟨gt,2,none⟩) (.inl rfl) _
 have ha4:=ha3.keep hkx fun x t cs hin hk _=>fun e=>by
  have e':x=gt:=e
  subst e'
  rw [(bk_inj hk hV.tree).1] at hin
  exact absurd hin (by decide)
 have hk4:Keep F w w3:=Hk2.out.trans (hk3.mono fun x _ e=>by
  rcases e with rfl | rfl | rfl
  · exact hF
  · exact hFl
  · exact hFb)
 have hk5:Keep F w (w3.setCell ⟨gt,2,none⟩ (.int .i64 0)):=Keep.setCell (F:=F) hk4 (p:=⟨gt,2,none⟩) (.inl hF) _
 have HV4:=lhd hV4
 have Ha4:=lhd ha4
 have Hk5:=lhd hk5
 clear hV hV4 ha3 ha4 hk3 hk4 hk5 hkx
 go_wp2_with fail
 go_ret
 have hlI:(insN bs k b).length=bs.length+1:=insN_len _ _ Hk.out
 refine ⟨rfl,⟨hF,ga,v3,.inr (.inr ⟨fun e=>?_,?_,gl,cl,gb,hFl,hFb,HV4.out,Ha4.out⟩)⟩,Hk5.out⟩
 · rw [e] at hlI
   simp at hlI
 · have:=Hl.out
   omega
theorem TreeInsert_any (F:Nat→Prop) (gt k:Nat) (b:Bool) (bs:List Bool) (w:World) (h:TreeE w F gt bs) (hl:bs.length≤127) (hk:k≤bs.length):
 Calls Tryz.prog 203 #[.pointer (some ⟨gt,0,none⟩),.int .i64 (k:Int),.bool b] w fun e w'=>e=.returned (.int .i64 0)∧TreeE w' (Gw F w.heap.size) gt (insN bs k b)∧Keep F w w':=by
 obtain ⟨h0,ga,v,⟨rfl,h2,h3,h4⟩|⟨rfl,gl,cl,l8,h2,h3,h4,h5⟩|⟨h1,h2,gl,cl,gb,h3,h4,h5,h6⟩⟩:=h
 · obtain rfl:k=0:=by simpa using hk
   exact insert_empty gt ga 0 v b F w h0 h2 h3 h4
 · obtain rfl:k=0:=by simpa using hk
   exact insert_again gt ga gl cl v b l8 F w h0 h2 h3 h4 h5
 · refine (insert_more gt ga gl cl gb k v b bs F w h0 h3 h4 h5 h6 hl hk h1).mono ?_
   rintro e w' ⟨e1,e2,e3⟩
   exact ⟨e1,e2.mono fun x _ f=>.inl f,e3⟩
theorem drop_leaf (gt ga gl cl gb k:Nat) (v:Int) (bs:List Bool) (w:World) (h:LeafV w 0 gt ga gl cl gb 0 v bs) (hl:bs.length≤128) (hk:k < bs.length):
 Calls Tryz.prog 245 #[.pointer (some ⟨gt,0,none⟩),.int .i64 0,.int .i64 (k:Int)] w fun e w'=>e=.returned (.tuple #[.int .i64 0,.bool (bs.getD k false)])∧(∃v',LeafV w' 0 gt ga gl cl gb 0 v' (delN bs k))∧Keep (fun b=>b=gt∨b=gl∨b=gb) w w':=by
 obtain ⟨c0,c1,c2,c3,d0,d1,d2,d3,d4,d5,d6,d7⟩:=h.cells
 have hgl:=h.row.lt.2
 have hgt:=h.tree.lt
 have hgb:=h.blk.lt
 have hgt_gl:gt≠gl:=h.row.bk_ne h.tree (by decide)
 have hgb_gl:gb≠gl:=h.row.bk_ne h.blk (by decide)
 have hgt_gb:gt≠gb:=Bk.ne h.tree h.blk (by decide)
 have f3:=h.tree.frozen 3
 have hl':(delN bs k).length≤128:=by have:=delN_len bs hk;omega
 obtain ⟨n,hn⟩:∃n,bs.length=n:=⟨_,rfl⟩
 obtain ⟨o,ho⟩:∃o,bs.count true=o:=⟨_,rfl⟩
 have h1:=(h.set_visits (wrap64 (v+1))).below ((Below.refl _ _).alloc (Nat.le_refl _) (.cells #[.int .i64 (-1),.int .i64 (-1),.int .i64 0,.int .i64 (n:Int),.int .i64 (o:Int),.int .i64 0,.int .i64 0,.pointer (some ⟨gb,0,none⟩)] 229))
 have hk1:Keep (fun b=>b=gt∨b=gl∨b=gb) w ((w.setCell ⟨gt,3,none⟩ (.int .i64 (wrap64 (v+1)))).alloc (.cells #[.int .i64 (-1),.int .i64 (-1),.int .i64 0,.int .i64 (n:Int),.int .i64 (o:Int),.int .i64 0,.int .i64 0,.pointer (some ⟨gb,0,none⟩)] 229)):=
  (Keep.setCell (F:=fun b=>b=gt∨b=gl∨b=gb) (Keep.refl _ _) (p:=⟨gt,3,none⟩) (.inl (.inl rfl)) _).alloc _
 have hn1:=Bk.new (w.setCell ⟨gt,3,none⟩ (.int .i64 (wrap64 (v+1)))) 229 #[.int .i64 (-1),.int .i64 (-1),.int .i64 0,.int .i64 (n:Int),.int .i64 (o:Int),.int .i64 0,.int .i64 0,.pointer (some ⟨gb,0,none⟩)]
 rw [hn] at d3
 rw [ho] at d4
 obtain ⟨W,hW⟩:∃W,(w.setCell ⟨gt,3,none⟩ (.int .i64 (wrap64 (v+1)))).alloc (.cells #[.int .i64 (-1),.int .i64 (-1),.int .i64 0,.int .i64 (n:Int),.int .i64 (o:Int),.int .i64 0,.int .i64 0,.pointer (some ⟨gb,0,none⟩)] 229)=W:=⟨_,rfl⟩
 rw [hW] at h1 hk1 hn1
 have hsz:(w.setCell ⟨gt,3,none⟩ (.int .i64 (wrap64 (v+1)))).heap.size=w.heap.size:=by simp [World.setCell]
 rw [hsz] at hn1
 have x7:W.cell? ⟨w.heap.size,7,none⟩=some (.pointer (some ⟨gb,0,none⟩)):=(hn1.cell 7).trans rfl
 have hWs:=hn1.lt
 have H1:=lhd h1
 have Hk1:=lhd hk1
 have Hn1:=lhd hn1
 have HW:=lhd hW
 have Hn:=lhd hn
 have Hl:=lhd hl
 have Hk:=lhd hk
 have Hl':=lhd hl'
 clear h h1 hk1 hn1 hW hn ho hsz hl hk hl'
 go_enter Tryz.func245,Tryz.ntmps245
 go_wp2_with fail
 rw [HW.out]
 refine (BlockDelete_any gb bs k _ H1.out.blk Hl.out Hk.out).mono ?_
 rintro e w3 ⟨rfl,hb3,hk3⟩
 have ht3:=hk3.bk H1.out.tree hgt_gb
 have hr3:=own_same H1.out.row (w':=w3) fun x cs _ hb=>hk3.bk hb (fun e=>Bk.ne hb H1.out.blk (by decide) e)
 have hk13:=Hk1.out.trans (hk3.mono (G:=fun b=>b=gt∨b=gl∨b=gb) fun x _ e=>.inr (.inr e))
 have Hb3:=lhd hb3
 have Hk3:=lhd hk3
 have Ht3:=lhd ht3
 have Hr3:=lhd hr3
 have Hk13:=lhd hk13
 clear hb3 hk3 ht3 hr3 hk13 x7
 go_wp2_with fail
 refine (fix_leaf gt ga gl cl gb 0 0 _ (delN bs k) w3 Ht3.out Hr3.out Hb3.out Hl'.out).mono ?_
 rintro e w4 ⟨rfl,hk4,hr4⟩
 have ht4:=hk4.bk Ht3.out hgt_gl
 have hb4:=hk4.bk Hb3.out hgb_gl
 have hk14:=Hk13.out.trans (hk4.mono (G:=fun b=>b=gt∨b=gl∨b=gb) fun x _ e=>.inr (.inl e))
 have H4:=lhd (show LeafV w4 0 gt ga gl cl gb 0 _ (delN bs k) from ⟨ht4,hr4,hb4⟩)
 have Hk14:=lhd hk14
 clear ht4 hb4 hk14 hk4 hr4
 go_wp2_with fail
 go_ret2
 exact ⟨rfl,⟨_,H4.out⟩,Hk14.out⟩
theorem TreeDelete_any (F:Nat→Prop) (gt k:Nat) (bs:List Bool) (w:World) (h:TreeE w F gt bs) (hk:k < bs.length):
 Calls Tryz.prog 210 #[.pointer (some ⟨gt,0,none⟩),.int .i64 (k:Int)] w fun e w'=>e=.returned (.tuple #[.bool (bs.getD k false),.int .i64 0])∧TreeE w' (Gw F w.heap.size) gt (delN bs k)∧Keep F w w':=by
 have hhas:=TreeHas_any gt bs k w h.at hk
 have hF:=h.1
 obtain ⟨n,hn⟩:∃n,bs.length=n:=⟨_,rfl⟩
 obtain ⟨d,hd⟩:∃d,(delN bs k).length=d:=⟨_,rfl⟩
 obtain ⟨bb,hbb⟩:∃bb,bs.getD k false=bb:=⟨_,rfl⟩
 rw [hbb]
 have Hbb:=lhd hbb
 clear hbb
 have H:=lhd h
 have Hk:=lhd hk
 have Hd:=lhd hd
 clear h hk hd hn
 go_enter Tryz.func210,Tryz.ntmps210
 go_wp2_with fail
 refine hhas.mono ?_
 rintro e w1 ⟨rfl,hv1⟩
 clear hhas
 have h1:=H.out.vis hv1.1
 have hk1:Keep F w w1:=hv1.2.mono fun x _ e=>by rw [e];exact hF
 obtain ⟨_,ga,v,⟨h2,_,_,_⟩|⟨h2,gl,cl,l8,_,_,_,_⟩|⟨hne,hl,gl,cl,gb,hFl,hFb,hV,ha⟩⟩:=h1
 · have:=Hk.out
   rw [h2] at this
   simp at this
 · have:=Hk.out
   rw [h2] at this
   simp at this
 have c2:w1.cell? ⟨gt,2,none⟩=some (.int .i64 0):=(hV.tree.cell 2).trans rfl
 have hgt1:=hV.tree.lt
 have HV:=lhd hV
 have Ha:=lhd ha
 have Hk1:=lhd hk1
 have Hl:=lhd hl
 clear hV ha hk1 hv1 hl hne
 go_wp2_with fail
 refine (drop_leaf gt ga gl cl gb k v bs w1 HV.out Hl.out Hk.out).mono ?_
 rintro e w2 ⟨rfl,⟨v2,hV2⟩,hk2⟩
 rw [Hbb.out]
 have ha2:=Ha.out.keep hk2 fun x t cs hin hk _=>fun e=>by
  rcases e with e | e | e
  · subst e
    rw [(bk_inj hk HV.out.tree).1] at hin
    exact absurd hin (by decide)
  · subst e
    obtain ⟨cu,hcu⟩:=own_bk HV.out.row
    rw [(bk_inj hk hcu).1] at hin
    exact absurd hin (by decide)
  · subst e
    rw [(bk_inj hk HV.out.blk).1] at hin
    exact absurd hin (by decide)
 have hk12:Keep F w w2:=Hk1.out.trans (hk2.mono fun x _ e=>by
  rcases e with rfl | rfl | rfl
  · exact hF
  · exact hFl
  · exact hFb)
 have hV3:=hV2.set_root 0
 have hkx:Keep (fun x=>x=gt) w2 (w2.setCell ⟨gt,2,none⟩ (.int .i64 0)):=Keep.setCell (F:=fun x=>x=gt) (Keep.refl _ _) (p:=⟨gt,2,none⟩) (.inl rfl) _
 have ha3:=ha2.keep hkx fun x t cs hin hk _=>fun e=>by
  have e':x=gt:=e
  subst e'
  rw [(bk_inj hk hV2.tree).1] at hin
  exact absurd hin (by decide)
 have hk3:Keep F w (w2.setCell ⟨gt,2,none⟩ (.int .i64 0)):=Keep.setCell (F:=F) hk12 (p:=⟨gt,2,none⟩) (.inl hF) _
 have f2:=hV2.tree.frozen 2
 obtain ⟨c0,c1,c2,c3,d0,d1,d2,d3,d4,d5,d6,d7⟩:=hV2.cells
 rw [Hd.out] at d3
 have hgt2:=hV2.tree.lt
 have hgl2:=hV2.row.lt.2
 have hgt_gl:gt≠gl:=hV2.row.bk_ne hV2.tree (by decide)
 obtain ⟨W,hW⟩:∃W,w2.setCell ⟨gt,2,none⟩ (.int .i64 0)=W:=⟨_,rfl⟩
 rw [hW] at hV3 ha3 hk3
 have hsW:w2.heap.size=W.heap.size:=by rw [←hW];simp [World.setCell]
 have hgt3:=hV3.tree.lt
 have f2W:=hV3.tree.frozen 2
 have c2W:W.cell? ⟨gt,2,none⟩=some (.int .i64 0):=(hV3.tree.cell 2).trans rfl
 have HW:=lhd hW
 have HsW:=lhd hsW
 have HV3:=lhd hV3
 have Ha3:=lhd ha3
 have Hk3:=lhd hk3
 have hsz:=hk3.size
 clear hV2 ha2 hk12 hk2 hV3 ha3 hk3 hkx hW hsW d0 d1 d2 d4 d5 d6 d7 c3
 rcases Nat.eq_zero_or_pos d with hd0 | hd0
 · subst hd0
   have hnil:delN bs k= []:=List.eq_nil_of_length_eq_zero Hd.out
   obtain ⟨Fa,hFa,hFt,hFs,ha⟩:=Ha3.out.own
   have hgs:Bk (W.alloc (.cells #[.int .i64 0] 3)) w2.heap.size 3 #[.int .i64 0]:=by
    rw [HsW.out]
    exact Bk.new W _ _
   have ha4:=ha.keep (G:=fun _=>False) (Keep.of_below ((Below.refl _ _).alloc (Nat.le_refl _) (.cells #[.int .i64 0] 3))) (fun _ _ _ _ _ _ f=>f)
   have hV4:=HV3.out.below ((Below.refl _ _).alloc (Nat.le_refl _) (.cells #[.int .i64 0] 3))
   have Hgs:=lhd hgs
   have Ha4:=lhd ha4
   have HV4:=lhd hV4
   have HFt:=lhd hFt
   clear hgs ha4 ha hV4 hFt
   go_wp2_with fail
   rw [HW.out]
   refine (Free_any Fa ga w2.heap.size 0 [true] [] _ Ha4.out (by simp) Hgs.out (by simp)).mono ?_
   rintro e w5 ⟨rfl,ha5,hk5⟩
   have hty:∀b t cs,Bk (W.alloc (.cells #[.int .i64 0] 3)) b t cs→t≠217→t≠4→t≠3→b < W.heap.size→¬Fa b:=fun b t cs hk h1 h2 h3 hlt hf=>by
    have hk':Bk W b t cs:=by
        have:=(Below.heap_alloc W (.cells #[.int .i64 0] 3) b hlt)
        exact this.symm.trans hk
    rcases HFt.out b t cs hf hk' with e | e | e
    · exact h1 e
    · exact h2 e
    · exact h3 e
   have ht5:=hk5.bk HV4.out.tree (hty _ _ _ HV4.out.tree (by decide) (by decide) (by decide) HV3.out.tree.lt)
   have hr5:=own_same (w':=w5) HV4.out.row fun b cs hb hk=>hk5.bk hk (hty _ _ _ hk (by decide) (by decide) (by decide) (by
    injection hb with hb
    have e':gl=b:=hb
    rw [←e']
    exact HV3.out.row.lt.2))
   have c2':w5.cell? ⟨gt,2,none⟩=some (.int .i64 0):=(ht5.cell 2).trans rfl
   have f5:=ht5.frozen 2
   have hgt5:=ht5.lt
   have ht6:=ht5.set 2 (.int .i64 (-1))
   have hr6:=own_same (w':=w5.setCell ⟨gt,2,none⟩ (.int .i64 (-1))) hr5 fun b cs _ hk=>hk.far (p:=⟨gt,2,none⟩) (Bk.ne hk ht5 (by decide)) _
   have hkx:Keep (fun x=>x=gt) w5 (w5.setCell ⟨gt,2,none⟩ (.int .i64 (-1))):=Keep.setCell (F:=fun x=>x=gt) (Keep.refl _ _) (p:=⟨gt,2,none⟩) (.inl rfl) _
   have ha6:=(ha5.keep hkx fun x t cs hin hk _=>fun e=>by
    have e':x=gt:=e
    subst e'
    rw [(bk_inj hk ht5).1] at hin
    exact absurd hin (by decide)).mono (G:=Gw F w.heap.size) fun x _ f=>by
        rcases f with f | f
        · exact .inl (hFa x f)
        · simp at f
          exact .inr (by omega)
   have hk6:Keep F w (w5.setCell ⟨gt,2,none⟩ (.int .i64 (-1))):=Keep.setCell (F:=F) ((Hk3.out.alloc _).trans (hk5.mono fun x _ f=>hFa x f)) (p:=⟨gt,2,none⟩) (.inl hF) _
   have Ht6:=lhd ht6
   have Hr6:=lhd hr6
   have Ha6:=lhd ha6
   have Hk6:=lhd hk6
   clear ht5 hr5 ht6 hr6 hkx ha5 ha6 hk5 hk6 hty c0 c1 c2 d3 c2W f2W f2
   go_wp2_with fail
   go_ret2
   rw [hnil]
   exact ⟨rfl,⟨.inl hF,ga,_,.inr (.inl ⟨rfl,gl,cl,_,.inl hFl,Ht6.out,Hr6.out,Ha6.out⟩)⟩,Hk6.out⟩
 · have hdI:((d:Int)==0)=false:=by rw [beq_eq_false_iff_ne];omega
   go_wp2_with fail
   rw [HW.out]
   go_ret2
   refine ⟨rfl,⟨.inl hF,ga,_,.inr (.inr ⟨fun e=>?_,?_,gl,cl,gb,.inl hFl,.inl hFb,HV3.out,Ha3.out.mono fun x _ f=>.inl f⟩)⟩,Hk3.out⟩
   · have:=Hd.out
     rw [e] at this
     simp at this
     omega
   · have:=Hd.out
     have h1:=delN_len bs Hk.out
     have h2:=Hl.out
     omega
end Go.Proofs.YtipaccakmndkgaaGreatDoor
