/- The walks of sym's Is, Path, Bit. Conditions: a symbol (below 257). The walks of a block's and a tree's Get. Conditions: at most 128 bits. What the card's condition gives: the table of math/bits stands in its variable; and the door's own heap meets it. No conditions. The walks of sym's Of and All (of one part), and of slices.Clone of ints. Conditions: at most 128 bytes, 2^30 ints. The walks of the tally's Of, Below, Add (of one) and New. Conditions: symbols below 257, at most 1000. -/
import Derived.Test.YtipaccakmndkgaaGreatDoorPfe8
import Derived.Test.YtipaccakmndkgaaGreatDoorRows
import Derived.LaidMore
import Derived.Lib.LaidTab
import Derived.ProofKit
import Derived.Stop.Joined
import Derived.SevenTiedAt
import Derived.Test.YtipaccakmndkgaaGreatDoorPfe3
namespace Go.Proofs.YtipaccakmndkgaaGreatDoor
open Go.RowKit
set_option linter.unusedVariables false
set_option linter.unusedSimpArgs false
def sv (s:Nat):Value:=.int .i64 (s:Int)
def pathN (s lv:Nat):Nat:=s / 2 ^(9 - lv)
def bitB (s lv:Nat):Bool:=decide (s / 2 ^(8 - lv)% 2=1)
set_option maxRecDepth 100000 in
theorem SymIs_any (s:Nat) (w:World) (hs:s < 257):
 Calls Tryz.prog 152 #[.int .i64 (s:Int)] w fun e w'=>e=.returned (.bool true)∧Below w.heap.size w w':=by
 have h0:(0:Int)≤(s:Int):=by omega
 have h1:(s:Int) < 257:=by omega
 go_enter Tryz.func152,Tryz.ntmps152
 go_wp2
 go_ret
 exact ⟨rfl,Below.refl _ _⟩
theorem cast_shr (s k:Nat):(s:Int)/ 2 ^ k=((s / 2 ^ k:Nat):Int):=by push_cast;rfl
theorem and1 (q:Nat) (h:q < 257):bits .and .i64 (q:Int) 1=((q % 2:Nat):Int):=by
 have h1:=(bits_nat .i64 10 (by decide) (fun n h0 h1=>by rw [IntKind.wrap_i64];omega) q 1 (by omega) (by omega)).1
 rw [show ((1:Nat):Int)=1 from rfl] at h1
 rw [h1,Nat.and_one_is_mod]
set_option maxRecDepth 100000 in
theorem SymPath_any (s lv:Nat) (w:World) (hs:s < 257) (hl:lv≤9):
 Calls Tryz.prog 200 #[.int .i64 (s:Int),.int .i64 (lv:Int)] w fun e w'=>e=.returned (.int .i64 ((pathN s lv:Nat):Int))∧Below w.heap.size w w':=by
 have h0:¬((lv:Int) < 0):=by omega
 have h1:¬((lv:Int) > 9):=by omega
 go_enter Tryz.func200,Tryz.ntmps200
 go_wp2_with fail
 refine (SymIs_any s _ hs).mono ?_
 rintro e w1 ⟨rfl,hb⟩
 go_wp2_with fail
 go_ret
 exact ⟨ret_i64 (cast_shr _ _),hb⟩
set_option maxRecDepth 100000 in
theorem SymBit_any (s lv:Nat) (w:World) (hs:s < 257) (hl:lv < 9):
 Calls Tryz.prog 201 #[.int .i64 (s:Int),.int .i64 (lv:Int)] w fun e w'=>e=.returned (.bool (bitB s lv))∧Below w.heap.size w w':=by
 have h0:¬((lv:Int) < 0):=by omega
 have h1:¬((lv:Int)≥9):=by omega
 go_enter Tryz.func201,Tryz.ntmps201
 go_wp2_with fail
 refine (SymIs_any s _ hs).mono ?_
 rintro e w1 ⟨rfl,hb⟩
 go_wp2_with fail
 go_ret
 refine ⟨ret_bool ?_,hb⟩
 have hq:s / 2 ^(8 - lv) < 257:=Nat.lt_of_le_of_lt (Nat.div_le_self _ _) hs
 rw [cast_shr,and1 _ hq]
 unfold bitB
 generalize s / 2 ^(8 - lv)% 2=r
 by_cases h:r=1
 · subst h;rfl
 · have h2:((r:Int)==1)=false:=by simp;omega
   rw [h2]
   simp [h]
end Go.Proofs.YtipaccakmndkgaaGreatDoor
namespace Go.Proofs.YtipaccakmndkgaaGreatDoor
open Go.RowKit
set_option linter.unusedVariables false
set_option linter.unusedSimpArgs false
set_option maxRecDepth 100000 in
theorem BlockHas_any (gb:Nat) (l:List Bool) (k:Nat) (w:World) (hb:Bk w gb 254 (blkC l)) (hk:k < l.length):
 Calls Tryz.prog 237 #[.pointer (some ⟨gb,0,none⟩),.int .i64 (k:Int)] w fun e w'=>e=.returned (.int .i64 0)∧Below w.heap.size w w':=by
 have c0:w.cell? ⟨gb,0,none⟩=some (.int .i64 (l.length:Int)):=(hb.cell 0).trans rfl
 have hlt:=hb.lt
 have hkI:¬(k:Int) < 0:=by omega
 have hkJ:decide ((k:Int)≥(l.length:Int))=false:=by simp;omega
 clear hb
 go_enter Tryz.func237,Tryz.ntmps237
 go_wp2_with fail
 go_ret
 exact ⟨rfl,Below.refl _ _⟩
theorem w_bit (l:List Bool) (k:Nat):(if k < 64 then w0 l >>> k else w1 l >>>(k - 64))&&& 1=if l.getD k false then 1 else 0:=by
 by_cases h:k < 64
 · rw [if_pos h]
   have:=encW_bit (l.take 64) k
   rw [Nat.and_one_is_mod,Nat.shiftRight_eq_div_pow,←Nat.toNat_testBit,show (w0 l).testBit k=(l.take 64).getD k false from this]
   have e:(l.take 64).getD k false=l.getD k false:=by simp [List.getD_eq_getElem?_getD,List.getElem?_take,h]
   rw [e]
   cases l.getD k false <;> rfl
 · rw [if_neg h]
   have:=encW_bit (l.drop 64) (k - 64)
   rw [Nat.and_one_is_mod,Nat.shiftRight_eq_div_pow,←Nat.toNat_testBit,show (w1 l).testBit (k - 64)=(l.drop 64).getD (k - 64) false from this]
   have e:(l.drop 64).getD (k - 64) false=l.getD k false:=by simp [List.getD_eq_getElem?_getD,List.getElem?_drop,show 64+(k - 64)=k by omega]
   rw [e]
   cases l.getD k false <;> rfl
theorem bit_one (u k:Nat) (bb:Bool) (hu:u < 18446744073709551616) (h:u >>> k&&& 1=if bb then 1 else 0):(bits .and .u64 ((u:Int)/ 2 ^ k) 1==1)=bb:=by
 have e:=shr_and u k 1 (2 ^ k) hu (by omega) rfl
 have e2:((2 ^ k:Nat):Int)=(2:Int)^ k:=by push_cast;rfl
 rw [e2] at e
 have e3:bits .and .u64 ((u:Int)/ 2 ^ k) 1=((u >>> k&&& 1:Nat):Int):=e
 rw [e3,h]
 cases bb <;> rfl
set_option maxRecDepth 100000 in
set_option maxHeartbeats 1000000 in
theorem BlockGet_any (gb:Nat) (l:List Bool) (k:Nat) (w:World) (hb:Bk w gb 254 (blkC l)) (hl:l.length≤128) (hk:k < l.length):
 Calls Tryz.prog 197 #[.pointer (some ⟨gb,0,none⟩),.int .i64 (k:Int)] w fun e w'=>e=.returned (.tuple #[.bool (l.getD k false),.int .i64 0])∧Below w.heap.size w w':=by
 have Hb:=Lib.hid hb
 have hwb:=w_bit l k
 obtain ⟨bb,hbb⟩:∃b,l.getD k false=b:=⟨_,rfl⟩
 rw [hbb] at hwb⊢
 clear hbb
 have b0:=w0_lt l
 have b1:=w1_lt l hl
 have hlt:=hb.lt
 clear hb
 go_enter Tryz.func197,Tryz.ntmps197
 go_wp2_with fail
 refine (BlockHas_any gb l k _ Hb.out hk).mono ?_
 rintro e w1' ⟨rfl,hb1⟩
 have hb2:=Hb.out.below hb1 Hb.out.lt
 have c1:w1'.cell? ⟨gb,1,none⟩=some (.int .u64 ((w0 l:Nat):Int)):=(hb2.cell 1).trans rfl
 have c2:w1'.cell? ⟨gb,2,none⟩=some (.int .u64 ((w1 l:Nat):Int)):=(hb2.cell 2).trans rfl
 have hlt2:=hb2.lt
 by_cases h64:k < 64
 · rw [if_pos h64] at hwb
   have e1:(k:Int).tdiv 64=0:=by rw [Int.tdiv_eq_ediv_of_nonneg (by omega)];omega
   have e2:(k:Int).tmod 64=(k:Int):=by rw [Int.tmod_eq_emod_of_nonneg (by omega)];omega
   have e3:IntKind.u64.wrap (k:Int)=(k:Int):=by rw [IntKind.wrap_u64];omega
   generalize w0 l=u at*
   have Hwb:=Lib.hid hwb
   have Hb1:=Lib.hid hb1
   clear hb1 hb2 c2 Hb hwb
   go_wp2_with fail
   go_ret2
   exact ⟨by rw [bit_one u k bb b0 Hwb.out];rfl,Hb1.out⟩
 · rw [if_neg h64] at hwb
   have e1:(k:Int).tdiv 64=1:=by rw [Int.tdiv_eq_ediv_of_nonneg (by omega)];omega
   have e2:(k:Int).tmod 64=((k - 64:Nat):Int):=by rw [Int.tmod_eq_emod_of_nonneg (by omega)];omega
   have e3:IntKind.u64.wrap ((k - 64:Nat):Int)=((k - 64:Nat):Int):=by rw [IntKind.wrap_u64];omega
   have hk64:k - 64 < 64:=by omega
   generalize w1 l=u at*
   generalize k - 64=k2 at*
   have Hwb:=Lib.hid hwb
   have Hb1:=Lib.hid hb1
   clear hb1 hb2 c1 Hb hwb
   go_wp2_with fail
   go_ret2
   exact ⟨by rw [bit_one u k2 bb b1 Hwb.out];rfl,Hb1.out⟩
set_option maxRecDepth 100000 in
set_option maxHeartbeats 1000000 in
theorem TreeHas_any (gt:Nat) (bs:List Bool) (k:Nat) (w:World) (h:TreeAt w gt bs) (hk:k < bs.length):
 Calls Tryz.prog 196 #[.pointer (some ⟨gt,0,none⟩),.int .i64 (k:Int)] w fun e w'=>e=.returned (.int .i64 0)∧VisK (fun b=>b=gt) w w':=by
 have hv0:∃cs,Bk w gt 226 cs∧3 < cs.size:=by
  obtain ⟨ga,v,⟨rfl,vl,h2⟩|⟨h1,h2,gl,cl,gb,h3⟩⟩:=h
  · exact ⟨_,h2,by simp⟩
  · exact ⟨_,h3.tree,by simp⟩
 obtain ⟨cs,hcs,hc3⟩:=hv0
 have hv1:=VisK.set_tree hcs 0
 have ht1:=h.vis hv1.1
 have hgl:=hcs.lt
 have c3:w.cell? ⟨gt,3,none⟩=some cs[3]:=by rw [hcs.cell 3];simp [hc3]
 have f3:=hcs.frozen 3
 have hkI:¬(k:Int) < 0:=by omega
 have HV:=Lib.hid hv1
 have Ht:=Lib.hid ht1
 obtain ⟨N,hN⟩:∃N,bs.length=N:=⟨_,rfl⟩
 have HN:=Lib.hid hN
 have hkJ:¬(N≤k):=by omega
 clear h hv1 ht1 hcs hN hk
 go_enter Tryz.func196,Tryz.ntmps196
 go_wp2_with fail
 clear c3 f3
 refine (TreeLen_any gt bs _ Ht.out).mono ?_
 rintro e w2 ⟨rfl,hb2⟩
 rw [HN.out]
 have hv2:=HV.out.below hb2
 have HV2:=Lib.hid hv2
 clear hv2 hb2 HV Ht
 go_wp2_with fail
 go_ret
 exact ⟨rfl,HV2.out⟩
set_option maxRecDepth 100000 in
set_option maxHeartbeats 1000000 in
theorem TreeGet_any (gt:Nat) (bs:List Bool) (k:Nat) (w:World) (h:TreeAt w gt bs) (hk:k < bs.length):
 Calls Tryz.prog 132 #[.pointer (some ⟨gt,0,none⟩),.int .i64 (k:Int)] w fun e w'=>e=.returned (.tuple #[.bool (bs.getD k false),.int .i64 0])∧VisK (fun b=>b=gt) w w':=by
 have Hh:=Lib.hid h
 obtain ⟨bb,hbb⟩:∃b,bs.getD k false=b:=⟨_,rfl⟩
 rw [hbb]
 have Hbb:=Lib.hid hbb
 have Hk:=Lib.hid hk
 clear h hbb
 go_enter Tryz.func132,Tryz.ntmps132
 go_wp2_with fail
 refine (TreeHas_any gt bs k w Hh.out hk).mono ?_
 rintro e w2 ⟨rfl,hv2⟩
 have ht2:=Hh.out.vis hv2.1
 have HV2:=Lib.hid hv2
 clear hv2 Hh
 obtain ⟨ga,v,⟨hbe,_,_⟩|⟨hbe,hb2,gl,cl,gb,hl⟩⟩:=ht2
 · rw [hbe] at hk
   simp at hk
 clear hk
 obtain ⟨c0,c1,c2,c3,d0,d1,d2,d3,d4,d5,d6,d7⟩:=hl.cells
 have hl2:=hl.row.lt
 have hgl2:=hl.tree.lt
 have hgt_gl:gt≠gl:=hl.row.bk_ne hl.tree (by decide)
 have f3:=hl.tree.frozen 3
 have Hl:=Lib.hid hl
 have H2:=Lib.hid hb2
 clear hl hb2 hbe
 go_wp2_with fail
 go_loopw [1,7,8] (fun x y z wr=>x=.int .i64 (k:Int)∧y=.int .i64 0∧wr=w2) (fun _ _ _ _=>0)
 case atStart=>exact ⟨rfl,rfl,rfl⟩
 case round=>
  obtain ⟨rfl,rfl,rfl⟩:=hrel
  go_wp2_with fail
  have hgb:=Bk.ne Hl.out.blk Hl.out.tree (by decide)
  have hbb:=H2.out
  have hv3:=(VisK.set_tree Hl.out.tree (wrap64 (v+1))).alloc (.cells #[.int .i64 (-1),.int .i64 (-1),.int .i64 0,.int .i64 (bs.length:Int),.int .i64 ((bs.count true:Nat):Int),.int .i64 0,.int .i64 0,.pointer (some ⟨gb,0,none⟩)] 229)
  refine (BlockGet_any gb bs k _ ((Hl.out.blk.far hgb _).alloc _) H2.out Hk.out).mono ?_
  rintro e w4 ⟨rfl,hb4⟩
  rw [Hbb.out]
  have hv4:=(HV2.out.trans hv3).below hb4
  have HV4:=Lib.hid hv4
  clear hv3 hb4 hv4 hgb hbb
  go_wp2_with fail
  go_ret2
  exact ⟨rfl,HV4.out⟩
end Go.Proofs.YtipaccakmndkgaaGreatDoor
namespace Go.Proofs.YtipaccakmndkgaaGreatDoor
open Go.RowKit
set_option linter.unusedVariables false
set_option linter.unusedSimpArgs false
def tabLaid:List (String×DataW Unit):= [("math/bits.deBruijn64tab",Rows.laid_math_bits_deBruijn64tab)]
theorem gTab:Tryz.prog.globalNamed "math/bits.deBruijn64tab" =some 1:=by kernel_rfl
theorem tTab:(Tryz.prog.globals[1]?).map (·.type)=some 291:=by kernel_rfl
theorem door_met (os:Os) (args:Array Value):laidMetH Tryz.prog tabLaid ((World.doorLaid Tryz.prog 14 os).forCall (fun _ _=>0) ⟨#[],args, []⟩).memory:=
 laidMetH_of_parts3 (fuel:=8) (laidMet_of_run' 8 (by kernel_rfl) (by kernel_rfl)) (by kernel_rfl) (by kernel_rfl)
theorem tab_datum:(Rows.laid_math_bits_deBruijn64tab:DataW Unit)=Lib.tabData .u8 (Lib.deBruijn64tab.map fun n:Nat=>(n:Int)):=rfl
theorem tabW_of_laid {W:World} (h:laidMetH Tryz.prog tabLaid W):TabW W:=by
 rw [MakeChecks.laidMetH_plain _ _ _ (by kernel_rfl)] at h
 unfold tabLaid at h
 rw [tab_datum] at h
 have hT:=Lib.tabIs_of_head gTab tTab Tryz.underlying291 Tryz.underlying5 (by kernel_rfl) (by kernel_rfl) h
 intro j hj
 have:=hT.cell gTab j (by rw [List.length_map];exact hj)
 rw [this,List.getD_eq_getElem?_getD,List.getElem?_map,List.getD_eq_getElem?_getD]
 cases Lib.deBruijn64tab[j]? <;> rfl
end Go.Proofs.YtipaccakmndkgaaGreatDoor
namespace Go.Proofs.YtipaccakmndkgaaGreatDoor
open Go.RowKit
set_option linter.unusedVariables false
set_option linter.unusedSimpArgs false
theorem int_info:(Tryz.prog.info? 3).map (fun i=>(i.zero,i.size,i.bytes))=some (some (.int .i64 0),1,8):=by kernel_rfl
theorem oneCell_sv (l:List Nat):∀u∈l.map sv,u.oneCell'=true:=by
 intro u hu
 obtain ⟨x,_,rfl⟩:=List.mem_map.1 hu
 rfl
def symB (t:List UInt8):List Nat:=t.map (fun c=>c.toNat+1)
def symL (t:List UInt8):List Nat:=symB t++ [0]
theorem symL_len (t:List UInt8):(symL t).length=t.length+1:=by simp [symL,symB]
theorem symL_lt (t:List UInt8):∀s∈symL t,s < 257:=by
 intro s hs
 unfold symL symB at hs
 rcases List.mem_append.1 hs with h | h
 · obtain ⟨c,_,rfl⟩:=List.mem_map.1 h
   have:=c.toNat_lt
   omega
 · simp at h
   omega
set_option maxRecDepth 100000 in
theorem SymOf_any (c:UInt8) (w:World):
 Calls Tryz.prog 55 #[.int .u8 (c.toNat:Int)] w fun e w'=>e=.returned (.int .i64 ((c.toNat+1:Nat):Int))∧Below w.heap.size w w':=by
 have hc:=c.toNat_lt
 have h64:IntKind.i64.wrap (c.toNat:Int)=(c.toNat:Int):=by rw [IntKind.wrap_i64];omega
 go_enter Tryz.func55,Tryz.ntmps55
 go_wp2
 go_ret
 exact ⟨ret_i64 (by omega),Below.refl _ _⟩
set_option maxRecDepth 100000 in
set_option maxHeartbeats 1000000 in
theorem SymAll_any (gs g0:Nat) (A:Option Addr) (m c B:Nat) (t:List UInt8) (w:World) (hs:Bk w gs 23 #[.slice A m c]) (hr:Rd w B 1 A m (t.map bv)) (hB:B≤w.heap.size) (hm:m≤1000):
 Calls Tryz.prog 115 #[.slice (some ⟨gs,0,none⟩) 1 1] w fun e w'=>∃A' c',e=.returned (.slice A' (m+1) c')∧Made w' w.heap.size 3 1 A' (m+1) c' ((symL t).map sv)∧Below w.heap.size w w':=by
 obtain ⟨i0,hi0,hz0,hz1,hz2⟩:=info_parts int_info
 have htl:t.length=m:=by simpa using hr.1
 have c0:w.cell? ⟨gs,0,none⟩=some (.slice A m c):=(hs.cell 0).trans rfl
 have hgs:=hs.lt
 have Hr:=Lib.hid (hr.mono hB)
 have Htl:=Lib.hid htl
 clear hs hr htl
 go_enter Tryz.func115,Tryz.ntmps115
 go_wp2_with fail
 go_loopw [3,10] (fun v i wr=>∃k:Nat,k≤1∧i=.int .i64 k∧wr.ownsRow w.heap.size 3 1 v (if k=0 then 0 else m) ((if k=0 then [] else symB t).map sv)∧Below w.heap.size w wr) (fun _ i _=>1 -(intOf i).toNat)
 case atStart=>exact ⟨0,by omega,rfl,World.ownsRow_nil _ _ _ _,Below.refl _ _⟩
 case round=>
  obtain ⟨k,hk,rfl,hown,hb⟩:=hrel
  have hsz:=hb.size
  rcases k with _ | k
  · have d0:wr.cell? ⟨gs,0,none⟩=some (.slice A m c):=(hb.cell hgs).trans c0
    have Hown:=Lib.hid hown
    have Hb:=Lib.hid hb
    clear hown hb
    go_wp2_with fail
    obtain ⟨W,hW⟩:∃W,W=wr:=⟨_,rfl⟩
    subst hW
    go_loopw [3,16] (fun v i wr2=>∃k:Nat,k≤m∧i=.int .i64 k∧wr2.ownsRow w.heap.size 3 1 v k ((symB (t.take k)).map sv)∧Below w.heap.size w wr2) (fun _ i _=>m -(intOf i).toNat)
    case atStart=>exact ⟨0,by omega,rfl,Hown.out,Hb.out⟩
    case round=>
        obtain ⟨k,hk,rfl,hown,hb⟩:=hrel
        have hsz:=hb.size
        by_cases hlt:k < m
        · have hkl:k < t.length:=by rw [Htl.out];exact hlt
          obtain ⟨x,hx⟩:∃x,t[k]?=some x:=⟨t[k],List.getElem?_eq_getElem hkl⟩
          obtain ⟨b,off,u,rfl,hbl,hu,hc⟩:=(Hr.out.below hb).get hlt
          rw [List.getElem?_map,hx] at hu
          simp at hu
          subst hu
          have htk:t.take (k+1)=t.take k++ [x]:=by rw [List.take_add_one,hx];rfl
          unfold bv at hc
          have HTK:=Lib.hid htk
          have Hown2:=Lib.hid hown
          clear htk hx hown
          go_wp2_with fail
          refine (SymOf_any x _).mono ?_
          rintro e w1 ⟨rfl,hb1⟩
          have hown1:=own_below Hown2.out hb1
          have hb2:=hb.trans (hb1.mono hsz)
          have hsz2:=hb2.size
          have Hown3:=Lib.hid hown1
          clear hown1
          go_wp2_with (at_builtin;refine wpList_push _ rfl (.tmp 20) (.tmp 23) _ rfl w.heap.size 3 i0 (.int .i64 0) 1 8 Tryz.underlying22 hi0 hz0 hz1 hz2 rfl (by decide) _ k _ rfl Hown3.out rfl rfl (by simp [Value.oneCell']) (by unfold maxLen;omega) (by omega) hsz2 ?_;intro v2 w2 hown2 hg2 hs2 hat2)
          have hb3:=below_grown hb2 Hown3.out hg2 hsz2
          clear hg2 hat2
          go_roundw
          case rel=>
           refine ⟨k+1,by omega,by go_num,?_,hb3⟩
           rw [HTK.out,symB,List.map_append,List.map_append]
           exact hown2
          case measure=>simp [intOf];omega
        · have hkm:k=m:=by omega
          subst hkm
          rw [List.take_of_length_le (by rw [Htl.out];omega)] at hown
          have Hown2:=Lib.hid hown
          clear hown
          go_wp2_with fail
          go_roundw
          case rel=>exact ⟨1,by omega,by go_num,Hown2.out,hb⟩
          case measure=>simp [intOf]
  · have hk0:k=0:=by omega
    subst hk0
    rw [if_neg (by omega),if_neg (by omega)] at hown
    have Hown:=Lib.hid hown
    have hlS:(symL t).map sv=(symB t).map sv++ [.int .i64 0]:=by simp [symL,sv]
    have HlS:=Lib.hid hlS
    clear hown hlS
    go_wp2_with (at_builtin;refine wpList_push _ rfl (.tmp 27) (.tmp 28) _ rfl w.heap.size 3 i0 (.int .i64 0) 1 8 Tryz.underlying22 hi0 hz0 hz1 hz2 rfl (by decide) _ m _ rfl Hown.out rfl rfl (by simp [Value.oneCell']) (by unfold maxLen;omega) (by omega) hsz ?_;intro v2 w2 hown2 hg2 hs2 hat2)
    have hb3:=below_grown hb Hown.out hg2 hsz
    obtain ⟨A',c',rfl,hm'⟩:=made_of_own hown2
    go_ret
    exact ⟨A',c',rfl,by rw [HlS.out];exact hm',hb3⟩
set_option maxRecDepth 100000 in
set_option maxHeartbeats 1000000 in
theorem CloneInts_any (A:Option Addr) (n c B:Nat) (l:List Nat) (w:World) (hr:Rd w B 1 A n (l.map sv)) (hB:B≤w.heap.size) (hn:n≤1073741824):
 Calls Tryz.prog 116 #[.slice A n c] w fun e w'=>∃A' c',e=.returned (.slice A' n c')∧Made w' w.heap.size 3 1 A' n c' (l.map sv)∧Below w.heap.size w w':=by
 obtain ⟨i0,hi0,hz0,hz1,hz2⟩:=info_parts int_info
 have q22:∀(w:World) (a:Option Addr) (n c:Nat),(binOp .eql 22 (.slice a n c) (.slice none 0 0)).run Tryz.prog w=.ok (.bool a.isNone) w:=fun w a n c=>Lib.run_eql_slice_nil w _ _ a n c _ _ Tryz.underlying22
 rcases A with _ | a
 · have hn0:n=0:=by
    rcases Nat.eq_zero_or_pos n with h | h
    · exact h
    · obtain ⟨_,_,h,_⟩:=hr.2 h
      cases h
   subst hn0
   have hl:l= []:=by
    have:=hr.1
    simp only [List.length_map,Nat.zero_mul] at this
    exact List.eq_nil_of_length_eq_zero this
   subst hl
   go_enter Tryz.func116,Tryz.ntmps116
   go_wp2
   go_ret
   exact ⟨none,0,rfl,⟨World.ownsRow_nil _ _ _ _,Rd.nil _ _ _ _,Nat.le_refl _,Nat.zero_le _⟩,Below.refl _ _⟩
 · have Hr:=Lib.hid hr
   clear hr
   go_enter Tryz.func116,Tryz.ntmps116
   go_wp2_with (at_builtin;refine wpList_append_rd _ rfl (.tmp 5) (.tmp 6) _ rfl w.heap.size 3 i0 (.int .i64 0) 1 8 Tryz.underlying22 hi0 hz0 hz1 hz2 rfl (by decide) (.slice (some ⟨w.heap.size,0,none⟩) 0 0) 0 [] rfl (own_empty w 3 1) w.heap.size (some a) n c _ rfl ((Hr.out.mono hB).alloc (Nat.le_refl _) _) (oneCell_sv _) (by unfold maxLen;omega) (by omega) (by simp) ?_;intro v5 w5 hown5 hg5 hat5)
   have hB5:=below_grown ((Below.refl w.heap.size w).alloc (Nat.le_refl _) _) (own_empty w 3 1) hg5 (by simp)
   rw [Nat.zero_add,List.nil_append] at hown5
   obtain ⟨A',c',rfl,hm⟩:=made_of_own hown5
   go_wp2
   go_ret
   exact ⟨A',c',rfl,hm,hB5⟩
end Go.Proofs.YtipaccakmndkgaaGreatDoor
namespace Go.Proofs.YtipaccakmndkgaaGreatDoor
open Go.RowKit
set_option linter.unusedVariables false
set_option linter.unusedSimpArgs false
@[irreducible] def tcells (L:List Nat):Array Value:=Array.ofFn (n:=258) fun i=>.int .i64 (((if i.val < 257 then L.count i.val else L.length):Nat):Int)
theorem tcells_of (L:List Nat) {s:Nat} (h:s < 257):(tcells L)[s]?=some (.int .i64 ((L.count s:Nat):Int)):=by
 unfold tcells
 rw [Array.getElem?_ofFn,dif_pos (by omega),if_pos h]
theorem tcells_all (L:List Nat):(tcells L)[257]?=some (.int .i64 ((L.length:Nat):Int)):=by
 unfold tcells
 rw [Array.getElem?_ofFn,dif_pos (by omega)]
 rfl
theorem tcells_size (L:List Nat):(tcells L).size=258:=by unfold tcells;simp
theorem tcells_ext (cs:Array Value) (L:List Nat) (h0:cs.size=258) (h1:∀s,s < 257→cs[s]?=some (.int .i64 ((L.count s:Nat):Int))) (h2:cs[257]?=some (.int .i64 ((L.length:Nat):Int))):cs=tcells L:=by
 apply Array.ext_getElem?
 intro i
 rcases Nat.lt_or_ge i 257 with h | h
 · rw [h1 i h,tcells_of L h]
 · rcases Nat.eq_or_lt_of_le h with h | h
   · rw [←h,h2,tcells_all]
   · rw [Array.getElem?_eq_none (by omega),Array.getElem?_eq_none (by rw [tcells_size];omega)]
theorem tcells_add (L:List Nat) (s:Nat) (hs:s < 257):((tcells L).setIfInBounds s (.int .i64 (((L.count s+1:Nat)):Int))).setIfInBounds 257 (.int .i64 ((L.length+1:Nat):Int))=tcells (L++ [s]):=by
 apply tcells_ext
 · simp [tcells_size]
 · intro i hi
   rw [Array.getElem?_setIfInBounds_ne (by omega)]
   by_cases e:s=i
   · subst e
     rw [Array.getElem?_setIfInBounds_self_of_lt (by rw [tcells_size];omega)]
     simp
   · rw [Array.getElem?_setIfInBounds_ne e,tcells_of L hi]
     have: [s].count i=0:=by simp [e]
     rw [List.count_append,this]
     rfl
 · rw [Array.getElem?_setIfInBounds_self_of_lt (by simp [tcells_size])]
   simp
set_option maxRecDepth 100000 in
theorem TallyOf_any (gt:Nat) (L:List Nat) (s:Nat) (w:World) (h:Bk w gt 232 (tcells L)) (hs:s < 257):
 Calls Tryz.prog 161 #[.pointer (some ⟨gt,0,none⟩),.int .i64 (s:Int)] w fun e w'=>e=.returned (.int .i64 ((L.count s:Nat):Int))∧Below w.heap.size w w':=by
 have H:=Lib.hid h
 clear h
 go_enter Tryz.func161,Tryz.ntmps161
 go_wp2_with fail
 refine (SymIs_any s _ hs).mono ?_
 rintro e w1 ⟨rfl,hb⟩
 have c0:w1.cell? ⟨gt,s,none⟩=some (.int .i64 ((L.count s:Nat):Int)):=((H.out.below hb H.out.lt).cell s).trans (tcells_of L hs)
 have h0:¬((s:Int) < 0):=by omega
 have h1:((s:Int) < 257):=by omega
 clear H
 go_wp2_with fail
 go_ret
 exact ⟨rfl,hb⟩
theorem countP_step (L:List Nat) (k:Nat):L.countP (fun x=>decide (x < k+1))=L.countP (fun x=>decide (x < k))+L.count k:=by
 induction L with
 | nil=>rfl
 | cons x l ih=>
   rw [List.countP_cons,List.countP_cons,List.count_cons,ih]
   by_cases h1:x < k
   · have h2:x < k+1:=by omega
     have h3:x≠k:=by omega
     simp [h1,h2,h3]
     omega
   · by_cases h2:x=k
     · subst h2
       simp
       omega
     · have h3:¬x < k+1:=by omega
       simp [h1,h2,h3]
set_option maxRecDepth 100000 in
theorem TallyBelow_any (gt:Nat) (L:List Nat) (s:Nat) (w:World) (h:Bk w gt 232 (tcells L)) (hs:s < 257) (hl:L.length≤1000):
 Calls Tryz.prog 162 #[.pointer (some ⟨gt,0,none⟩),.int .i64 (s:Int)] w fun e w'=>e=.returned (.int .i64 ((L.countP (fun x=>decide (x < s)):Nat):Int))∧Below w.heap.size w w':=by
 have H:=Lib.hid h
 clear h
 have m1:max (s:Int) 0=(s:Int):=by omega
 have m2:min (s:Int) 257=(s:Int):=by omega
 go_enter Tryz.func162,Tryz.ntmps162
 go_wp2_with fail
 go_loopw [5,10] (fun v i wr=>∃k:Nat,k≤s∧i=.int .i64 k∧v=.int .i64 ((L.countP (fun x=>decide (x < k)):Nat):Int)∧Below w.heap.size w wr) (fun _ i _=>s -(intOf i).toNat)
 case atStart=>exact ⟨0,by omega,rfl,by simp,Below.refl _ _⟩
 case round=>
  obtain ⟨k,hk,rfl,rfl,hb⟩:=hrel
  have hsz:=hb.size
  by_cases hlt:k < s
  · go_wp2_with fail
    refine (TallyOf_any gt L k wr (H.out.below hb H.out.lt) (by omega)).mono ?_
    rintro e w1 ⟨rfl,hb1⟩
    have hb2:=hb.trans (hb1.mono hsz)
    have hst:=countP_step L k
    have hbd:L.countP (fun x=>decide (x < k+1))≤1000:=Nat.le_trans List.countP_le_length hl
    obtain ⟨p,hp⟩:∃p,L.countP (fun x=>decide (x < k))=p:=⟨_,rfl⟩
    obtain ⟨q,hq⟩:∃q,L.count k=q:=⟨_,rfl⟩
    rw [hst] at hbd
    rw [hp,hq] at hst hbd
    rw [hq]
    try rw [hp]
    have HS:=Lib.hid hst
    clear hst hp hq
    go_wp2_with fail
    go_roundw
    case rel=>exact ⟨k+1,by omega,by go_num,by rw [HS.out];exact i64_eq (by omega),hb2⟩
    case measure=>simp [intOf];omega
  · have hks:k=s:=by omega
    subst hks
    go_wp2_with fail
    go_ret
    exact ⟨rfl,hb⟩
set_option maxRecDepth 100000 in
set_option maxHeartbeats 1000000 in
theorem TallyAdd_any (gt:Nat) (L:List Nat) (s:Nat) (w:World) (h:Bk w gt 232 (tcells L)) (hs:s < 257) (hl:L.length≤1000):
 Calls Tryz.prog 136 #[.pointer (some ⟨gt,0,none⟩),.int .i64 (s:Int),.int .i64 1] w fun e w'=>e=.returned (.int .i64 0)∧Bk w' gt 232 (tcells (L++ [s]))∧Keep (fun b=>b=gt) w w':=by
 have H:=Lib.hid h
 clear h
 have h0:¬((s:Int) < 0):=by omega
 have h1:((s:Int) < 257):=by omega
 obtain ⟨q,hq⟩:∃q,L.count s=q:=⟨_,rfl⟩
 obtain ⟨n,hn⟩:∃n,L.length=n:=⟨_,rfl⟩
 have hql:q≤1000:=by rw [←hq];exact Nat.le_trans List.count_le_length hl
 rw [hn] at hl
 have hadd:=tcells_add L s hs
 rw [hq,hn] at hadd
 have HA:=Lib.hid hadd
 have HQ:=Lib.hid hq
 have HN:=Lib.hid hn
 clear hadd hq hn
 go_enter Tryz.func136,Tryz.ntmps136
 go_wp2_with fail
 refine (SymIs_any s _ hs).mono ?_
 rintro e w1 ⟨rfl,hb⟩
 have hbk:=H.out.below hb H.out.lt
 have c0:w1.cell? ⟨gt,s,none⟩=some (.int .i64 (q:Int)):=by rw [←HQ.out];exact (hbk.cell s).trans (tcells_of L hs)
 have c1:w1.cell? ⟨gt,257,none⟩=some (.int .i64 (n:Int)):=by rw [←HN.out];exact (hbk.cell 257).trans (tcells_all L)
 have n1:¬((1:Int) < -(q:Int)):=by omega
 have n2:¬((1:Int) > 2147483648 -(n:Int)):=by omega
 have HB:=Lib.hid hb
 have Hbk:=Lib.hid hbk
 clear hb hbk H
 go_wp2_with fail
 refine wp_region_any (by kernel_rfl) ?_
 refine wpAny_keep [33,34,35,36,37,38,39,40,41,42,43] (fun b=>b=gt) 11 [5,11] (fun w2=>Bk w2 gt 232 (tcells L)) (fun _ w2=>Bk w2 gt 232 ((tcells L).setIfInBounds s (.int .i64 ((q+1:Nat):Int)))) [is (.pointer (some ⟨gt,0,none⟩)),is (.int .i64 (s:Int)),is (.pointer (some ⟨gt,0,none⟩)),is (.pointer (some ⟨gt,0,none⟩)),is (.pointer (some ⟨gt,s,none⟩)),is (.int .i64 (q:Int)),is (.int .i64 1),is (.int .i64 ((q+1:Nat):Int)),is (.pointer (some ⟨gt,0,none⟩)),is (.pointer (some ⟨gt,0,none⟩)),is (.pointer (some ⟨gt,s,none⟩)),anyV] _ _ rfl (by kernel_rfl) (by kernel_rfl) (Hbk.out) (fun w2 w3 h _ hg=>Bk.below h hg h.lt) (fun _ _ _ h k=>Bk.below h k h.lt) (by repeat' (first | exact stbk_is _ _ | exact stbk_any _ |(refine List.forall_mem_cons.2 ⟨?_,?_⟩)|(intro p hp;cases hp))) ?_ ?_
 · refine steps_of ?_
   refine steps_cons (step_on3 rfl rfl fun ev _ _ _ _ _ hold _ _ _ _ hK=>?_) ?_
   · have e0:ev (.tmp 0)=.pointer (some ⟨gt,0,none⟩):=hold 0 (by kernel_rfl)
     go_simp
     exact hK _ _ (kstep_grow (Below.refl _ _)) rfl
   refine steps_cons (step_on3 rfl rfl fun ev _ _ _ _ _ hold _ _ _ _ hK=>?_) ?_
   · have e1:ev (.tmp 1)=.int .i64 (s:Int):=hold 1 (by kernel_rfl)
     go_simp
     exact hK _ _ (kstep_grow (Below.refl _ _)) rfl
   refine steps_cons (step_on3 rfl rfl fun _ _ _ _ _ _ _ hval _ _ _ hK=>?_) ?_
   · have e33:_=_:=hval 0 33 (by kernel_rfl) rfl
     go_simp
     exact hK _ _ (kstep_grow (Below.refl _ _)) rfl
   refine steps_cons (step_on3 rfl rfl fun _ _ _ _ _ _ _ hval _ _ _ hK=>?_) ?_
   · have e35:_=_:=hval 2 35 (by kernel_rfl) rfl
     go_simp
     exact hK _ _ (kstep_grow (Below.refl _ _)) rfl
   refine steps_cons (step_on3 rfl rfl fun _ _ _ _ _ _ _ hval _ _ _ hK=>?_) ?_
   · have e36:_=_:=hval 3 36 (by kernel_rfl) rfl
     have e34:_=_:=hval 1 34 (by kernel_rfl) rfl
     go_simp
     exact hK _ _ (kstep_grow (Below.refl _ _)) rfl
   refine steps_cons (step_on3 rfl rfl fun _ w5 _ hU _ _ _ hval _ _ _ hK=>?_) ?_
   · have hpre:=hU rfl
     have e37:_=_:=hval 4 37 (by kernel_rfl) rfl
     have c38:w5.cell? ⟨gt,s,none⟩=some (.int .i64 (q:Int)):=by rw [←HQ.out];exact (hpre.cell s).trans (tcells_of L hs)
     go_simp
     exact hK _ _ (kstep_grow (Below.refl _ _)) rfl
   refine steps_cons (step_on3 rfl rfl fun ev _ _ _ _ _ hold _ _ _ _ hK=>?_) ?_
   · have e2:ev (.tmp 2)=.int .i64 1:=hold 2 (by kernel_rfl)
     go_simp
     exact hK _ _ (kstep_grow (Below.refl _ _)) rfl
   refine steps_cons (step_on3 rfl rfl fun _ _ _ _ _ _ _ hval _ _ _ hK=>?_) ?_
   · have e38:_=_:=hval 5 38 (by kernel_rfl) rfl
     have e39:_=_:=hval 6 39 (by kernel_rfl) rfl
     go_simp
     exact hK _ _ (kstep_grow (Below.refl _ _)) (i64_eq (by rw [IntKind.wrap_i64];omega))
   refine steps_cons (step_on3 rfl rfl fun _ _ _ _ _ _ _ hval _ _ _ hK=>?_) ?_
   · have e33:_=_:=hval 0 33 (by kernel_rfl) rfl
     go_simp
     exact hK _ _ (kstep_grow (Below.refl _ _)) rfl
   refine steps_cons (step_on3 rfl rfl fun _ _ _ _ _ _ _ hval _ _ _ hK=>?_) ?_
   · have e41:_=_:=hval 8 41 (by kernel_rfl) rfl
     go_simp
     exact hK _ _ (kstep_grow (Below.refl _ _)) rfl
   refine steps_cons (step_on3 rfl rfl fun _ _ _ _ _ _ _ hval _ _ _ hK=>?_) ?_
   · have e42:_=_:=hval 9 42 (by kernel_rfl) rfl
     have e34:_=_:=hval 1 34 (by kernel_rfl) rfl
     go_simp
     exact hK _ _ (kstep_grow (Below.refl _ _)) rfl
   refine steps_cons (step_on3 rfl rfl fun _ w5 _ hU _ _ _ hval _ _ _ hK=>?_) ?_
   · have hpre:=hU rfl
     have e43:_=_:=hval 10 43 (by kernel_rfl) rfl
     have e40:_=_:=hval 7 40 (by kernel_rfl) rfl
     have c43:w5.cell? ⟨gt,s,none⟩=some (.int .i64 (q:Int)):=by rw [←HQ.out];exact (hpre.cell s).trans (tcells_of L hs)
     have f43:=hpre.frozen s
     go_simp
     exact hK (.bool true) _ (kstep_keep (Keep.setCell (F:=fun b=>b=gt) (Keep.refl _ _) (p:=⟨gt,s,none⟩) (.inl rfl) _)) (hpre.set s _)
   exact steps_nil
 · intro ev w6 hS hval hall
   replace hS:Keep (fun b=>b=gt) w1 w6:=⟨hS.os,hS.tape,hS.output,hS.size,hS.block⟩
   obtain ⟨vJ,pJ⟩:∃vJ0,(fun _ w2=>Bk w2 gt 232 ((tcells L).setIfInBounds s (.int .i64 ((q+1:Nat):Int)))) vJ0 w6:=hall 11 (by decide)
   simp only [putsOf,List.foldl_cons,List.foldl_nil,Act.put,List.setIfInBounds_toArray,List.set_cons_zero,List.set_cons_succ]
   clear hval hall
   have c257:w6.cell? ⟨gt,257,none⟩=some (.int .i64 (n:Int)):=by
    refine (pJ.cell 257).trans ?_
    rw [Array.getElem?_setIfInBounds_ne (by omega),←HN.out]
    exact tcells_all L
   have f257:=pJ.frozen 257
   have PJ:=Lib.hid pJ
   have HS:=Lib.hid hS
   have hglt:=pJ.lt
   clear pJ hS
   go_wp2_with fail
   go_ret
   refine ⟨rfl,?_,?_⟩
   · rw [←HA.out]
     exact PJ.out.set 257 _
   · exact ((Keep.of_below HB.out).trans HS.out).setCell (.inl rfl) _
theorem tcells_nil:tcells []=Tryz.zeroCells232:=by kernel_rfl
set_option maxRecDepth 100000 in
set_option maxHeartbeats 1000000 in
theorem TallyNew_any (A:Option Addr) (m c B:Nat) (L:List Nat) (w:World) (hr:Rd w B 1 A m (L.map sv)) (hB:B≤w.heap.size) (hm:m≤1000) (hL:∀s∈L,s < 257):
 Calls Tryz.prog 160 #[.slice A m c] w fun e w'=>∃gt,e=.returned (.tuple #[.pointer (some ⟨gt,0,none⟩),.int .i64 0])∧w.heap.size≤gt∧Bk w' gt 232 (tcells L)∧Below w.heap.size w w':=by
 have hll:L.length=m:=by simpa using hr.1
 have Hr:=Lib.hid hr
 have HL:=Lib.hid hL
 have Hll:=Lib.hid hll
 have HB:=Lib.hid hB
 clear hr hL hll
 go_enter Tryz.func160,Tryz.ntmps160
 go_wp2_with fail
 obtain ⟨gt,hgt⟩:∃gt,w.heap.size=gt:=⟨_,rfl⟩
 have hbk0:Bk (w.alloc (.cells Tryz.zeroCells232 232)) gt 232 (tcells (L.take 0)):=by
  rw [List.take_zero,tcells_nil,←hgt]
  exact Bk.new _ _ _
 have hb0:=(Below.refl w.heap.size w).alloc (Nat.le_refl _) (.cells Tryz.zeroCells232 232)
 try rw [hgt]
 go_loopw [12] (fun i wr=>∃k:Nat,k≤m∧i=.int .i64 k∧Bk wr gt 232 (tcells (L.take k))∧Below w.heap.size w wr) (fun i _=>m -(intOf i).toNat)
 case atStart=>exact ⟨0,by omega,rfl,hbk0,hb0⟩
 case round=>
  obtain ⟨k,hk,rfl,hbk,hb⟩:=hrel
  have hsz:=hb.size
  by_cases hlt:k < m
  · have hkl:k < L.length:=by rw [Hll.out];exact hlt
    obtain ⟨s,hs⟩:∃s,L[k]?=some s:=⟨L[k],List.getElem?_eq_getElem hkl⟩
    obtain ⟨b,off,u,rfl,hbl,hu,hc⟩:=((Hr.out.mono HB.out).below hb).get hlt
    rw [List.getElem?_map,hs] at hu
    simp at hu
    subst hu
    have hs257:s < 257:=HL.out s (List.mem_of_getElem? hs)
    have htk:L.take (k+1)=L.take k++ [s]:=by rw [List.take_add_one,hs];rfl
    have htl:(L.take k).length≤1000:=by rw [List.length_take];omega
    unfold sv at hc
    have HTK:=Lib.hid htk
    have Hbk:=Lib.hid hbk
    clear htk hbk hs
    go_wp2_with fail
    refine (TallyAdd_any gt (L.take k) s _ Hbk.out hs257 htl).mono ?_
    rintro e w1 ⟨rfl,hb1,hk1⟩
    have hb2:Below w.heap.size w w1:=hb.trans (hk1.to_below hsz (fun b hb e=>by omega))
    rw [←HTK.out] at hb1
    have Hb1:=Lib.hid hb1
    clear hb1 hk1
    go_wp2_with fail
    go_roundw
    case rel=>exact ⟨k+1,by omega,by go_num,Hb1.out,hb2⟩
    case measure=>simp [intOf];omega
  · have hkm:k=m:=by omega
    subst hkm
    rw [List.take_of_length_le (by rw [Hll.out];omega)] at hbk
    have Hbk:=Lib.hid hbk
    clear hbk
    go_wp2_with fail
    go_ret2
    exact ⟨gt,rfl,by omega,Hbk.out,hb⟩
end Go.Proofs.YtipaccakmndkgaaGreatDoor
