/- The walks of the tree's Len, Visits, like, Rank and New. Conditions: at most 128 bits. The walks of bits.Select and block.Select: where a bit with so many like it ahead stands. Conditions: there is such a bit; the table of math/bits stands in its variable. The walks of sym's Is, Path, Bit. Conditions: a symbol (below 257). The walks of a block's and a tree's Get. Conditions: at most 128 bits. What the card's condition gives: the table of math/bits stands in its variable; and the door's own heap meets it. No conditions. -/
import Derived.Test.YtipaccakmndkgaaGreatDoorPsl8
import Derived.Test.YtipaccakmndkgaaGreatDoorPsl2
import Derived.Test.YtipaccakmndkgaaGreatDoorSht
import Derived.Laws.Bits64
import Derived.Test.YtipaccakmndkgaaGreatDoorRows
import Derived.LaidMore
import Derived.Lib.LaidTab
import Derived.ProofKit
import Derived.Stop.Joined
import Derived.SevenTiedAt
set_option linter.unusedVariables false
set_option linter.unusedSimpArgs false
set_option maxRecDepth 100000
set_option maxHeartbeats 1000000
namespace Go.Proofs.YtipaccakmndkgaaGreatDoor
open Go.RowKit
theorem LeafV.cells {w:World} {B gt ga gl cl gb:Nat} {rt v:Int} {bs:List Bool} (h:LeafV w B gt ga gl cl gb rt v bs):
 w.cell? ⟨gt,0,none⟩=some (.pointer (some ⟨ga,0,none⟩))∧w.cell? ⟨gt,1,none⟩=some (.slice (some ⟨gl,0,none⟩) 1 cl)∧w.cell? ⟨gt,2,none⟩=some (.int .i64 rt)∧w.cell? ⟨gt,3,none⟩=some (.int .i64 v)∧
 w.cell? ⟨gl,0,none⟩=some (.int .i64 (-1))∧w.cell? ⟨gl,1,none⟩=some (.int .i64 (-1))∧w.cell? ⟨gl,2,none⟩=some (.int .i64 0)∧w.cell? ⟨gl,3,none⟩=some (.int .i64 (bs.length:Int))∧w.cell? ⟨gl,4,none⟩=some (.int .i64 ((bs.count true:Nat):Int))∧w.cell? ⟨gl,5,none⟩=some (.int .i64 0)∧w.cell? ⟨gl,6,none⟩=some (.int .i64 0)∧w.cell? ⟨gl,7,none⟩=some (.pointer (some ⟨gb,0,none⟩)):=by
 have k:=fun j hj=>World.ownsRow.cellAt h.row j hj
 exact ⟨(h.tree.cell 0).trans rfl,(h.tree.cell 1).trans rfl,(h.tree.cell 2).trans rfl,(h.tree.cell 3).trans rfl,(k 0 (by omega)).trans rfl,(k 1 (by omega)).trans rfl,(k 2 (by omega)).trans rfl,(k 3 (by omega)).trans rfl,(k 4 (by omega)).trans rfl,(k 5 (by omega)).trans rfl,(k 6 (by omega)).trans rfl,(k 7 (by omega)).trans rfl⟩
theorem TreeLen_any (gt:Nat) (bs:List Bool) (w:World) (h:TreeAt w gt bs):
 Calls Tryz.prog 217 #[.pointer (some ⟨gt,0,none⟩)] w fun e w'=>e=.returned (.int .i64 (bs.length:Int))∧Below w.heap.size w w':=by
 obtain ⟨ga,v,⟨rfl,vl,h2⟩|⟨h1,h2,gl,cl,gb,h3⟩⟩:=h
 · have c2:w.cell? ⟨gt,2,none⟩=some (.int .i64 (-1)):=(h2.cell 2).trans rfl
   clear h2
   go_enter Tryz.func217,Tryz.ntmps217
   go_wp2
   go_ret
   exact ⟨rfl,Below.refl _ _⟩
 · obtain ⟨c0,c1,c2,c3,d0,d1,d2,d3,d4,d5,d6,d7⟩:=h3.cells
   clear h3
   go_enter Tryz.func217,Tryz.ntmps217
   go_wp2
   go_quiet (fail)
   go_wp2
   go_ret
   exact ⟨rfl,⟨rfl,rfl,rfl,Nat.le_refl _,fun _ _=>rfl⟩⟩
theorem TreeAt.visits {w:World} {gt:Nat} {bs:List Bool} (h:TreeAt w gt bs):∃v,w.cell? ⟨gt,3,none⟩=some (.int .i64 v):=by
 obtain ⟨ga,v,⟨rfl,vl,h2⟩|⟨h1,h2,gl,cl,gb,h3⟩⟩:=h
 · exact ⟨v,(h2.cell 3).trans rfl⟩
 · exact ⟨v,h3.cells.2.2.2.1⟩
theorem TreeVisits_any (gt:Nat) (v:Int) (w:World) (h:w.cell? ⟨gt,3,none⟩=some (.int .i64 v)):
 Calls Tryz.prog 195 #[.pointer (some ⟨gt,0,none⟩)] w fun e w'=>e=.returned (.int .i64 v)∧Below w.heap.size w w':=by
 go_enter Tryz.func195,Tryz.ntmps195
 go_wp2
 go_ret
 exact ⟨rfl,Below.refl _ _⟩
theorem like_any (n o:Nat) (b:Bool) (w:World) (hn:n≤128) (ho:o≤n):
 Calls Tryz.prog 238 #[.int .i64 (n:Int),.int .i64 (o:Int),.bool b] w fun e w'=>e=.returned (.int .i64 ((if b then o else n - o:Nat):Int))∧Below w.heap.size w w':=by
 cases b
 · go_enter Tryz.func238,Tryz.ntmps238
   go_wp2
   go_ret
   exact ⟨ret_i64 (by omega),Below.refl _ _⟩
 · go_enter Tryz.func238,Tryz.ntmps238
   go_wp2
   go_ret
   exact ⟨ret_i64 (by simp),Below.refl _ _⟩
theorem count_both (l:List Bool):l.count true+l.count false=l.length:=by
 induction l with
 | nil=>rfl
 | cons x l ih=>cases x <;> simp <;> omega
theorem TreeRank_any (gt:Nat) (bs:List Bool) (k:Nat) (b:Bool) (w:World) (h:TreeAt w gt bs) (hk:k≤bs.length):
 Calls Tryz.prog 199 #[.pointer (some ⟨gt,0,none⟩),.int .i64 (k:Int),.bool b] w fun e w'=>e=.returned (.int .i64 (((bs.take k).count b:Nat):Int))∧VisK (fun b=>b=gt) w w':=by
 have hbl:bs.length≤128:=by
  obtain ⟨ga,v,⟨rfl,vl,h2⟩|⟨h1,h2,h3⟩⟩:=h
  · simp
  · exact h2
 have hv0:∃cs,Bk w gt 226 cs∧3 < cs.size:=by
  obtain ⟨ga,v,⟨rfl,vl,h2⟩|⟨h1,h2,gl,cl,gb,h3⟩⟩:=h
  · exact ⟨_,h2,by simp⟩
  · exact ⟨_,h3.tree,by simp⟩
 obtain ⟨cs,hcs,hc3⟩:=hv0
 have hv1:=VisK.set_tree hcs 0
 have ht1:=h.vis hv1.1
 have hgl:=hcs.lt
 have c3:w.cell? ⟨gt,3,none⟩=some cs[3]:=by rw [hcs.cell 3];simp [hc3]
 have f3:=hcs.frozen 3
 have m1:max (k:Int) 0=(k:Int):=by omega
 have m2:min (k:Int) (bs.length:Int)=(k:Int):=by omega
 have HV:=lhd hv1
 have Hh:=lhd h
 have Hbl:=lhd hbl
 have Ht:=lhd ht1
 obtain ⟨N,hN⟩:∃N,bs.length=N:=⟨_,rfl⟩
 have HN:=lhd hN
 have Hk:=lhd hk
 clear h hbl hv1 ht1 hcs hN hk
 go_enter Tryz.func199,Tryz.ntmps199
 go_wp2_with fail
 clear c3 f3
 refine (TreeLen_any gt bs _ Ht.out).mono ?_
 rintro e w2 ⟨rfl,hb2⟩
 have hv2:=HV.out.below hb2
 have ht2:=Hh.out.vis hv2.1
 have HV2:=lhd hv2
 have Ht2:=lhd ht2
 clear hv2 ht2 HV Ht hb2 Hh
 rcases Nat.eq_zero_or_pos k with hk0 | hk0
 · subst hk0
   go_wp2_with fail
   go_ret
   exact ⟨rfl,HV2.out⟩
 · have hk1:¬((k:Int)=0):=by omega
   obtain ⟨ga,v,⟨hbe,_,_⟩|⟨hbe,hb2,gl,cl,gb,hl⟩⟩:=Ht2.out
   · have h1:=Hk.out
     rw [hbe] at h1
     simp at h1
     omega
   obtain ⟨c0,c1,c2,c3,d0,d1,d2,d3,d4,d5,d6,d7⟩:=hl.cells
   have hl2:=hl.row.lt
   have hgl2:=hl.tree.lt
   have hgt_gl:gt≠gl:=hl.row.bk_ne hl.tree (by decide)
   have f3:=hl.tree.frozen 3
   have Hl:=lhd hl
   have H2:=lhd hb2
   clear hl hb2 hbe
   go_wp2_with fail
   go_loopw [1,7,8] (fun x y z wr=>x=.int .i64 (k:Int)∧y=.int .i64 0∧z=.int .i64 0∧wr=w2) (fun _ _ _ _=>0)
   case atStart=>exact ⟨rfl,rfl,rfl,rfl⟩
   case round=>
    obtain ⟨rfl,rfl,rfl,rfl⟩:=hrel
    go_wp2_with fail
    have hgb:=Bk.ne Hl.out.blk Hl.out.tree (by decide)
    have hv3:=(VisK.set_tree Hl.out.tree (wrap64 (v+1))).alloc (.cells #[.int .i64 (-1),.int .i64 (-1),.int .i64 0,.int .i64 (bs.length:Int),.int .i64 ((bs.count true:Nat):Int),.int .i64 0,.int .i64 0,.pointer (some ⟨gb,0,none⟩)] 229)
    refine (BlockRank_any gb bs k _ ((Hl.out.blk.far hgb _).alloc _) H2.out (by rw [HN.out] at*;exact Hk.out)).mono ?_
    rintro e w4 ⟨rfl,hb4⟩
    have hv4:=(HV2.out.trans hv3).below hb4
    obtain ⟨q,hq⟩:∃q,List.count true (List.take k bs)=q:=⟨_,rfl⟩
    have hqk:q≤k:=by
        rw [←hq]
        exact Nat.le_trans List.count_le_length (by rw [List.length_take];omega)
    have hfin:(if b then q else k - q)=(bs.take k).count b:=by
        have h1:=count_both (bs.take k)
        have h2:(bs.take k).length=k:=by rw [List.length_take];have:=Hk.out;omega
        cases b
        · simp;omega
        · simp;omega
    rw [hq]
    have HF:=lhd hfin
    have HV4:=lhd hv4
    have hkN:k≤128:=Nat.le_trans Hk.out Hbl.out
    clear hq hfin hv3 hb4 hv4
    go_wp2_with fail
    refine (like_any k q b _ hkN hqk).mono ?_
    rintro e w5 ⟨rfl,hb5⟩
    rw [HF.out]
    have hv5:=HV4.out.below hb5
    have hcb:(bs.take k).count b≤128:=Nat.le_trans List.count_le_length (by rw [List.length_take];omega)
    obtain ⟨r,hr⟩:∃r,List.count b (List.take k bs)=r:=⟨_,rfl⟩
    rw [hr] at hcb⊢
    clear HF HV4
    go_wp2_with fail
    go_ret
    exact ⟨ret_i64 (by rw [hr] <;> omega),hv5⟩
theorem own0 (w:World) (B:Nat) (e:TypeId) (sz:Nat):w.ownsRow B e sz (.slice none 0 0) 0 []:=World.ownsRow_nil _ _ _ _
theorem TreeNew_any (A:Option Addr) (m c B:Nat) (bs:List Bool) (w:World) (hr:Rd w B 1 A m (bs.map Value.bool)) (hB:B≤w.heap.size) (hm:m≤128) (hmc:m≤c):
 Calls Tryz.prog 224 #[.slice A m c] w fun e w'=>∃gt,e=.returned (.pointer (some ⟨gt,0,none⟩))∧TreeB w' w.heap.size gt bs∧Below w.heap.size w w':=by
 have hbl:bs.length=m:=by simpa using hr.1
 have Hr:=lhd hr
 have Hbl:=lhd hbl
 clear hr hbl
 go_enter Tryz.func224,Tryz.ntmps224
 go_wp2_with fail
 refine (ArenaNew_any _).mono ?_
 rintro e w1 ⟨rfl,ha1,hb1⟩
 have Ha1:=lhd ha1
 have Hb1:=lhd hb1
 have hs1:=hb1.size
 clear ha1 hb1
 rcases Nat.eq_zero_or_pos m with h0 | h0
 · subst h0
   have hnil:bs= []:=List.eq_nil_of_length_eq_zero Hbl.out
   go_wp2_with fail
   go_ret
   have hbB:=Hb1.out.alloc hs1 (.cells #[.pointer (some ⟨w.heap.size,0,none⟩),.slice none 0 0,.int .i64 (-1),.int .i64 0] 226)
   exact ⟨_,rfl,⟨_,0,hs1,Nat.le_refl _,.inl ⟨hnil,Bk.new _ _ _,Ha1.out.alloc _⟩⟩,hbB⟩
 · have hq1:((m:Int)+128 - 1)/ 128=1:=by omega
   have hne:bs≠ []:=by
    intro e
    have:=Hbl.out
    rw [e] at this
    simp at this
    omega
   have hb2:=Hb1.out.alloc hs1 (.cells #[.pointer (some ⟨w.heap.size,0,none⟩),.slice none 0 0,.int .i64 (-1),.int .i64 0] 226)
   have ht2:=Bk.new w1 226 #[.pointer (some ⟨w.heap.size,0,none⟩),.slice none 0 0,.int .i64 (-1),.int .i64 0]
   have ha2:=Ha1.out.alloc (.cells #[.pointer (some ⟨w.heap.size,0,none⟩),.slice none 0 0,.int .i64 (-1),.int .i64 0] 226)
   have hr2:=((Hr.out.mono hB).below hb2).mono hb2.size
   obtain ⟨w2,hw2⟩:∃w2,w1.alloc (.cells #[.pointer (some ⟨w.heap.size,0,none⟩),.slice none 0 0,.int .i64 (-1),.int .i64 0] 226)=w2:=⟨_,rfl⟩
   have Ht2:=lhd ht2
   have Ha2:=lhd ha2
   have Hr2:=lhd hr2
   have Hb2:=lhd hb2
   clear ht2 ha2 hr2 hb2
   go_wp2_with fail
   rw [hw2] at Ht2 Ha2 Hr2 Hb2
   clear hw2
   refine (build_one w1.heap.size w.heap.size 0 A m c w2.heap.size bs w2 Ht2.out Ha2.out Hr2.out (Nat.le_refl _) hm hmc).mono ?_
   rintro e w3 ⟨rfl,hk3,gl,cl,gb,hl,hgb⟩
   have c2:=hl.tree.lt
   have f2:=hl.tree.frozen 2
   have c2':w3.cell? ⟨w1.heap.size,2,none⟩=some (.int .i64 (-1)):=(hl.tree.cell 2).trans rfl
   have Hl:=lhd hl
   have Hk3:=lhd hk3
   clear hl hk3
   go_wp2_with fail
   go_ret
   have hset:∀b t cs,t≠226→Bk w3 b t cs→Bk (w3.setCell ⟨w1.heap.size,2,none⟩ (.int .i64 0)) b t cs:=fun b t cs ht h=>h.far (Bk.ne h Hl.out.tree ht) _
   obtain ⟨A',c',h5,h6⟩:=Hl.out.arena
   have hk3:Below w.heap.size w2 w3:=Hk3.out.to_below Hb2.out.size (fun b hb e=>by rcases e with e | e <;> omega)
   have hb4:Below w.heap.size w w3:=Hb2.out.trans hk3
   have hs2:=Hb2.out.size
   refine ⟨_,rfl,⟨_,0,hs1,Nat.le_refl _,.inr ⟨hne,by rw [Hbl.out];exact hm,gl,cl,gb,by omega,Hl.out.tree.set 2 _,own_mono (own_same Hl.out.row fun b cs _ h=>hset _ _ _ (by decide) h) hs2,hset _ _ _ (by decide) Hl.out.blk,A',c',hset _ _ _ (by decide) h5,(made_same h6 fun b cs h=>hset _ _ _ (by decide) h).mono hs2⟩⟩,?_⟩
   exact hb4.setCell hs1 _
def TabW (w:World):Prop:=TabAt 1 Lib.deBruijn64tab w
theorem TabW.below {B:Nat} {w w':World} (h:TabW w) (k:Below B w w') (hB:1 < B):TabW w':=fun j hj=>(k.cell (p:=⟨1,j,none⟩) hB).trans (h j hj)
theorem TabW.pos {w:World} (h:TabW w):1 < w.heap.size:=by
 have h0:=h 0 (by decide)
 rcases Nat.lt_or_ge 1 w.heap.size with e | e
 · exact e
 · exfalso
   have:w.heap[1]?=none:=Array.getElem?_eq_none e
   simp [World.cell?,this] at h0
def sv (s:Nat):Value:=.int .i64 (s:Int)
def pathN (s lv:Nat):Nat:=s / 2 ^(9 - lv)
def bitB (s lv:Nat):Bool:=decide (s / 2 ^(8 - lv)% 2=1)
theorem SymIs_any (s:Nat) (w:World) (hs:s < 257):
 Calls Tryz.prog 152 #[.int .i64 (s:Int)] w fun e w'=>e=.returned (.bool true)∧Below w.heap.size w w':=by
 have h0:(0:Int)≤(s:Int):=by omega
 have h1:(s:Int) < 257:=by omega
 go_enter Tryz.func152,Tryz.ntmps152
 go_wp2
 go_ret
 exact ⟨rfl,Below.refl _ _⟩
theorem cast_shr (s k:Nat):(s:Int)/ 2 ^ k=((s / 2 ^ k:Nat):Int):=by push_cast;rfl
theorem and1 (q:Nat) (h:q < 257):bits .and .i64 (q:Int) 1=((q % 2:Nat):Int):=by
 have h1:=(bits_nat .i64 10 (by decide) (fun n h0 h1=>by rw [IntKind.wrap_i64];omega) q 1 (by omega) (by omega)).1
 rw [show ((1:Nat):Int)=1 from rfl] at h1
 rw [h1,Nat.and_one_is_mod]
theorem SymPath_any (s lv:Nat) (w:World) (hs:s < 257) (hl:lv≤9):
 Calls Tryz.prog 200 #[.int .i64 (s:Int),.int .i64 (lv:Int)] w fun e w'=>e=.returned (.int .i64 ((pathN s lv:Nat):Int))∧Below w.heap.size w w':=by
 have h0:¬((lv:Int) < 0):=by omega
 have h1:¬((lv:Int) > 9):=by omega
 go_enter Tryz.func200,Tryz.ntmps200
 go_wp2_with fail
 refine (SymIs_any s _ hs).mono ?_
 rintro e w1 ⟨rfl,hb⟩
 go_wp2_with fail
 go_ret
 exact ⟨ret_i64 (cast_shr _ _),hb⟩
theorem SymBit_any (s lv:Nat) (w:World) (hs:s < 257) (hl:lv < 9):
 Calls Tryz.prog 201 #[.int .i64 (s:Int),.int .i64 (lv:Int)] w fun e w'=>e=.returned (.bool (bitB s lv))∧Below w.heap.size w w':=by
 have h0:¬((lv:Int) < 0):=by omega
 have h1:¬((lv:Int)≥9):=by omega
 go_enter Tryz.func201,Tryz.ntmps201
 go_wp2_with fail
 refine (SymIs_any s _ hs).mono ?_
 rintro e w1 ⟨rfl,hb⟩
 go_wp2_with fail
 go_ret
 refine ⟨ret_bool ?_,hb⟩
 have hq:s / 2 ^(8 - lv) < 257:=Nat.lt_of_le_of_lt (Nat.div_le_self _ _) hs
 rw [cast_shr,and1 _ hq]
 unfold bitB
 generalize s / 2 ^(8 - lv)% 2=r
 by_cases h:r=1
 · subst h;rfl
 · have h2:((r:Int)==1)=false:=by simp;omega
   rw [h2]
   simp [h]
theorem BlockHas_any (gb:Nat) (l:List Bool) (k:Nat) (w:World) (hb:Bk w gb 254 (blkC l)) (hk:k < l.length):
 Calls Tryz.prog 237 #[.pointer (some ⟨gb,0,none⟩),.int .i64 (k:Int)] w fun e w'=>e=.returned (.int .i64 0)∧Below w.heap.size w w':=by
 have c0:w.cell? ⟨gb,0,none⟩=some (.int .i64 (l.length:Int)):=(hb.cell 0).trans rfl
 have hlt:=hb.lt
 have hkI:¬(k:Int) < 0:=by omega
 have hkJ:decide ((k:Int)≥(l.length:Int))=false:=by simp;omega
 clear hb
 go_enter Tryz.func237,Tryz.ntmps237
 go_wp2_with fail
 go_ret
 exact ⟨rfl,Below.refl _ _⟩
theorem w_bit (l:List Bool) (k:Nat):(if k < 64 then w0 l >>> k else w1 l >>>(k - 64))&&& 1=if l.getD k false then 1 else 0:=by
 by_cases h:k < 64
 · rw [if_pos h]
   have:=encW_bit (l.take 64) k
   rw [Nat.and_one_is_mod,Nat.shiftRight_eq_div_pow,←Nat.toNat_testBit,show (w0 l).testBit k=(l.take 64).getD k false from this]
   have e:(l.take 64).getD k false=l.getD k false:=by simp [List.getD_eq_getElem?_getD,List.getElem?_take,h]
   rw [e]
   cases l.getD k false <;> rfl
 · rw [if_neg h]
   have:=encW_bit (l.drop 64) (k - 64)
   rw [Nat.and_one_is_mod,Nat.shiftRight_eq_div_pow,←Nat.toNat_testBit,show (w1 l).testBit (k - 64)=(l.drop 64).getD (k - 64) false from this]
   have e:(l.drop 64).getD (k - 64) false=l.getD k false:=by simp [List.getD_eq_getElem?_getD,List.getElem?_drop,show 64+(k - 64)=k by omega]
   rw [e]
   cases l.getD k false <;> rfl
theorem bit_one (u k:Nat) (bb:Bool) (hu:u < 18446744073709551616) (h:u >>> k&&& 1=if bb then 1 else 0):(bits .and .u64 ((u:Int)/ 2 ^ k) 1==1)=bb:=by
 have e:=shr_and u k 1 (2 ^ k) hu (by omega) rfl
 have e2:((2 ^ k:Nat):Int)=(2:Int)^ k:=by push_cast;rfl
 rw [e2] at e
 have e3:bits .and .u64 ((u:Int)/ 2 ^ k) 1=((u >>> k&&& 1:Nat):Int):=e
 rw [e3,h]
 cases bb <;> rfl
theorem BlockGet_any (gb:Nat) (l:List Bool) (k:Nat) (w:World) (hb:Bk w gb 254 (blkC l)) (hl:l.length≤128) (hk:k < l.length):
 Calls Tryz.prog 197 #[.pointer (some ⟨gb,0,none⟩),.int .i64 (k:Int)] w fun e w'=>e=.returned (.tuple #[.bool (l.getD k false),.int .i64 0])∧Below w.heap.size w w':=by
 have Hb:=lhd hb
 have hwb:=w_bit l k
 obtain ⟨bb,hbb⟩:∃b,l.getD k false=b:=⟨_,rfl⟩
 rw [hbb] at hwb⊢
 clear hbb
 have b0:=w0_lt l
 have b1:=w1_lt l hl
 have hlt:=hb.lt
 clear hb
 go_enter Tryz.func197,Tryz.ntmps197
 go_wp2_with fail
 refine (BlockHas_any gb l k _ Hb.out hk).mono ?_
 rintro e w1' ⟨rfl,hb1⟩
 have hb2:=Hb.out.below hb1 Hb.out.lt
 have c1:w1'.cell? ⟨gb,1,none⟩=some (.int .u64 ((w0 l:Nat):Int)):=(hb2.cell 1).trans rfl
 have c2:w1'.cell? ⟨gb,2,none⟩=some (.int .u64 ((w1 l:Nat):Int)):=(hb2.cell 2).trans rfl
 have hlt2:=hb2.lt
 by_cases h64:k < 64
 · rw [if_pos h64] at hwb
   have e1:(k:Int).tdiv 64=0:=by rw [Int.tdiv_eq_ediv_of_nonneg (by omega)];omega
   have e2:(k:Int).tmod 64=(k:Int):=by rw [Int.tmod_eq_emod_of_nonneg (by omega)];omega
   have e3:IntKind.u64.wrap (k:Int)=(k:Int):=by rw [IntKind.wrap_u64];omega
   generalize w0 l=u at*
   have Hwb:=lhd hwb
   have Hb1:=lhd hb1
   clear hb1 hb2 c2 Hb hwb
   go_wp2_with fail
   go_ret2
   exact ⟨by rw [bit_one u k bb b0 Hwb.out];rfl,Hb1.out⟩
 · rw [if_neg h64] at hwb
   have e1:(k:Int).tdiv 64=1:=by rw [Int.tdiv_eq_ediv_of_nonneg (by omega)];omega
   have e2:(k:Int).tmod 64=((k - 64:Nat):Int):=by rw [Int.tmod_eq_emod_of_nonneg (by omega)];omega
   have e3:IntKind.u64.wrap ((k - 64:Nat):Int)=((k - 64:Nat):Int):=by rw [IntKind.wrap_u64];omega
   have hk64:k - 64 < 64:=by omega
   generalize w1 l=u at*
   generalize k - 64=k2 at*
   have Hwb:=lhd hwb
   have Hb1:=lhd hb1
   clear hb1 hb2 c1 Hb hwb
   go_wp2_with fail
   go_ret2
   exact ⟨by rw [bit_one u k2 bb b1 Hwb.out];rfl,Hb1.out⟩
theorem TreeHas_any (gt:Nat) (bs:List Bool) (k:Nat) (w:World) (h:TreeAt w gt bs) (hk:k < bs.length):
 Calls Tryz.prog 196 #[.pointer (some ⟨gt,0,none⟩),.int .i64 (k:Int)] w fun e w'=>e=.returned (.int .i64 0)∧VisK (fun b=>b=gt) w w':=by
 have hv0:∃cs,Bk w gt 226 cs∧3 < cs.size:=by
  obtain ⟨ga,v,⟨rfl,vl,h2⟩|⟨h1,h2,gl,cl,gb,h3⟩⟩:=h
  · exact ⟨_,h2,by simp⟩
  · exact ⟨_,h3.tree,by simp⟩
 obtain ⟨cs,hcs,hc3⟩:=hv0
 have hv1:=VisK.set_tree hcs 0
 have ht1:=h.vis hv1.1
 have hgl:=hcs.lt
 have c3:w.cell? ⟨gt,3,none⟩=some cs[3]:=by rw [hcs.cell 3];simp [hc3]
 have f3:=hcs.frozen 3
 have hkI:¬(k:Int) < 0:=by omega
 have HV:=lhd hv1
 have Ht:=lhd ht1
 obtain ⟨N,hN⟩:∃N,bs.length=N:=⟨_,rfl⟩
 have HN:=lhd hN
 have hkJ:¬(N≤k):=by omega
 clear h hv1 ht1 hcs hN hk
 go_enter Tryz.func196,Tryz.ntmps196
 go_wp2_with fail
 clear c3 f3
 refine (TreeLen_any gt bs _ Ht.out).mono ?_
 rintro e w2 ⟨rfl,hb2⟩
 rw [HN.out]
 have hv2:=HV.out.below hb2
 have HV2:=lhd hv2
 clear hv2 hb2 HV Ht
 go_wp2_with fail
 go_ret
 exact ⟨rfl,HV2.out⟩
theorem TreeGet_any (gt:Nat) (bs:List Bool) (k:Nat) (w:World) (h:TreeAt w gt bs) (hk:k < bs.length):
 Calls Tryz.prog 132 #[.pointer (some ⟨gt,0,none⟩),.int .i64 (k:Int)] w fun e w'=>e=.returned (.tuple #[.bool (bs.getD k false),.int .i64 0])∧VisK (fun b=>b=gt) w w':=by
 have Hh:=lhd h
 obtain ⟨bb,hbb⟩:∃b,bs.getD k false=b:=⟨_,rfl⟩
 rw [hbb]
 have Hbb:=lhd hbb
 have Hk:=lhd hk
 clear h hbb
 go_enter Tryz.func132,Tryz.ntmps132
 go_wp2_with fail
 refine (TreeHas_any gt bs k w Hh.out hk).mono ?_
 rintro e w2 ⟨rfl,hv2⟩
 have ht2:=Hh.out.vis hv2.1
 have HV2:=lhd hv2
 clear hv2 Hh
 obtain ⟨ga,v,⟨hbe,_,_⟩|⟨hbe,hb2,gl,cl,gb,hl⟩⟩:=ht2
 · rw [hbe] at hk
   simp at hk
 clear hk
 obtain ⟨c0,c1,c2,c3,d0,d1,d2,d3,d4,d5,d6,d7⟩:=hl.cells
 have hl2:=hl.row.lt
 have hgl2:=hl.tree.lt
 have hgt_gl:gt≠gl:=hl.row.bk_ne hl.tree (by decide)
 have f3:=hl.tree.frozen 3
 have Hl:=lhd hl
 have H2:=lhd hb2
 clear hl hb2 hbe
 go_wp2_with fail
 go_loopw [1,7,8] (fun x y z wr=>x=.int .i64 (k:Int)∧y=.int .i64 0∧wr=w2) (fun _ _ _ _=>0)
 case atStart=>exact ⟨rfl,rfl,rfl⟩
 case round=>
  obtain ⟨rfl,rfl,rfl⟩:=hrel
  go_wp2_with fail
  have hgb:=Bk.ne Hl.out.blk Hl.out.tree (by decide)
  have hbb:=H2.out
  have hv3:=(VisK.set_tree Hl.out.tree (wrap64 (v+1))).alloc (.cells #[.int .i64 (-1),.int .i64 (-1),.int .i64 0,.int .i64 (bs.length:Int),.int .i64 ((bs.count true:Nat):Int),.int .i64 0,.int .i64 0,.pointer (some ⟨gb,0,none⟩)] 229)
  refine (BlockGet_any gb bs k _ ((Hl.out.blk.far hgb _).alloc _) H2.out Hk.out).mono ?_
  rintro e w4 ⟨rfl,hb4⟩
  rw [Hbb.out]
  have hv4:=(HV2.out.trans hv3).below hb4
  have HV4:=lhd hv4
  clear hv3 hb4 hv4 hgb hbb
  go_wp2_with fail
  go_ret2
  exact ⟨rfl,HV4.out⟩
def tabLaid:List (String×DataW Unit):= [("math/bits.deBruijn64tab",Rows.laid_math_bits_deBruijn64tab)]
theorem gTab:Tryz.prog.globalNamed "math/bits.deBruijn64tab" =some 1:=by kernel_rfl
theorem tTab:(Tryz.prog.globals[1]?).map (·.type)=some 291:=by kernel_rfl
theorem door_met (os:Os) (args:Array Value):laidMetH Tryz.prog tabLaid ((World.doorLaid Tryz.prog 14 os).forCall (fun _ _=>0) ⟨#[],args, []⟩).memory:=
 laidMetH_of_parts3 (fuel:=8) (laidMet_of_run' 8 (by kernel_rfl) (by kernel_rfl)) (by kernel_rfl) (by kernel_rfl)
theorem tab_datum:(Rows.laid_math_bits_deBruijn64tab:DataW Unit)=Lib.tabData .u8 (Lib.deBruijn64tab.map fun n:Nat=>(n:Int)):=rfl
theorem tabW_of_laid {W:World} (h:laidMetH Tryz.prog tabLaid W):TabW W:=by
 rw [MakeChecks.laidMetH_plain _ _ _ (by kernel_rfl)] at h
 unfold tabLaid at h
 rw [tab_datum] at h
 have hT:=Lib.tabIs_of_head gTab tTab Tryz.underlying291 Tryz.underlying5 (by kernel_rfl) (by kernel_rfl) h
 intro j hj
 have:=hT.cell gTab j (by rw [List.length_map];exact hj)
 rw [this,List.getD_eq_getElem?_getD,List.getElem?_map,List.getD_eq_getElem?_getD]
 cases Lib.deBruijn64tab[j]? <;> rfl
end Go.Proofs.YtipaccakmndkgaaGreatDoor
