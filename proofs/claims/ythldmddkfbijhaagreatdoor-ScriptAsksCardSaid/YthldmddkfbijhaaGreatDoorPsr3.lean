/- Lemmas of the walk. Conditions: each its own. -/
import Derived.Test.YthldmddkfbijhaaGreatDoorPsr1
import Derived.Test.YthldmddkfbijhaaGreatDoorPsr2
import Derived.Test.YthldmddkfbijhaaGreatDoorProg
set_option linter.all false
set_option maxRecDepth 100000
set_option maxHeartbeats 4000000
namespace Go.Proofs.YthldmddkfbijhaaGreatDoor
section
open Go.RowKit
theorem aGn:(Tryz.prog.info? 205).map (fun i=>(i.zero,i.size,i.bytes))=some (some (.agg #[.int .i64 0,.int .i64 0,.int .i64 0,.int .i64 0,.int .i64 0,.int .i64 0,.int .i64 0,.pointer none]),8,64):=by kernel_rfl
theorem xB {w:World} {g sz:Nat} {e:TypeId} {cs:Array Value} (h:Bk w g e cs) (hs:cs.size=sz):Rd w w.heap.size sz (some ⟨g,0,none⟩) 1 cs.toList:=by
 refine ⟨by simp [hs],fun _=>⟨g,0,rfl,h.lt,fun i u hu=>?_⟩⟩;rw [zBi,h.cell i];rw [<-hu];simp
structure Leaf (w:World) (B gt ga gl cl gb:Nat) (rt v:Int) (bs:List Bool):Prop where
 tree:Bk w gt 202 #[ga,.slice (some ⟨gl,0,none⟩) 1 cl,.int .i64 rt,.int .i64 v]
 row:RowS B gl cl gb (bs.length:Int) ((bs.count true:Nat):Int) w
 blk:Bk w gb 230 (iI bs)
 arena:∃A c,Bk w ga 221 #[.slice A 1 c,.slice none 0 0,.int .i64 268435456]/\Made w B 4 1 A 1 c [.bool true]
theorem aJK {w:World} {B:Nat} {A:Option Addr} {c:Nat} {xs:List Value} {e:TypeId} {sz:Nat} (h:w.ownsRow B e sz (.slice A 1 c) 1 xs):∃gl,A=some ⟨gl,0,none⟩:=by
 obtain ⟨g,cap,hv,_,_⟩:=World.ownsRow.form h oM;injection hv with hv;exact ⟨g,hv⟩
theorem aJV {w w':World} {B B' gl cl gb:Nat} {x y:Int} {A:Option Addr} {n c:Nat} {xs:List Value} (hr:RowS B gl cl gb x y w) (k:Keep (fun b=>b=gl) w w') (h:Made w B' 4 1 A n c xs):Made w' B' 4 1 A n c xs:=by
 have ho:w'.ownsRow B' 4 1 (.slice A n c) n xs:=by refine ⟨h.own.1,?_⟩;rcases h.own.2 with h1 |⟨g',cap,cur,h1,h2,h3,h4⟩;exact .inl h1;refine .inr ⟨g',cap,cur,h1,h2,(k.block g' (lt_of_block h3) (fun e'=>?_)).trans h3,h4⟩;exact hr.bk_ne (t:=4) h3 dC e'
 exact ⟨ho,Rd.of_own ho,h.cap,h.max⟩
theorem aEr (gt ga gb:Nat) (v:Int) (bs:List Bool) (w:World) (ht:Bk w gt 202 #[ga,.slice none 0 0,.int .i64 (-1),.int .i64 v]) (ha:Bk w ga 221 #[.slice none 0 0,.slice none 0 0,.int .i64 268435456]) (hb:Bk w gb 230 (iI bs)) (hl:bs.length<=128):
 Calls Tryz.prog 246 #[gt,.agg #[.int .i64 (-1),.int .i64 (-1),.int .i64 0,.int .i64 0,.int .i64 0,.int .i64 0,.int .i64 0,gb]] w fun e w'=>e=.returned (.int .i64 0)/\Keep (fun b=>b=ga∨b=gt) w w'/\∃gl cl,Leaf w' w.heap.size gt ga gl cl gb (-1) v bs:=by
 obtain ⟨i0,hi0,hz0,hz1,hz2⟩:=info_parts aGn;have hgt:=ht.lt;have hga:=ha.lt;have hgb:=hb.lt;have hta:gt≠ga:=Bk.ne ht ha dC;have htb:gt≠gb:=Bk.ne ht hb dC;have hab:ga≠gb:=Bk.ne ha hb dC;have q0:w.cell? ⟨gt,0,none⟩=some (.pointer (some ⟨ga,0,none⟩)):=(ht.cell 0).trans rfl;obtain ⟨Ht,Ha,Hb⟩:=hqq3 ht ha hb;clear ht ha hb;go_enter Tryz.func246,Tryz.ntmps246;go_wp2_with fail;obtain ⟨nb,hnb⟩:=eqx w.heap.size;refine (aEY ga _ (Ha.out.alloc _)).mono ?_;rintro e w1 ⟨rfl,hk1,A1,c1,ha1,hm1⟩;have hn1:Bk w1 nb 205 #[.int .i64 (-1),.int .i64 (-1),.int .i64 0,.int .i64 0,.int .i64 0,.int .i64 0,.int .i64 0,gb]:=by rw [<-hnb];exact hk1.bk (Bk.new w _ _) (fun h=>absurd (show w.heap.size=ga from h) oM)
 have ht1:=hk1.bk (Ht.out.alloc _) (fun h=>hta h);have hb1:=hk1.bk (Hb.out.alloc _) (fun h=>hab h.symm);have hs1:=hk1.size;rw [World.size_alloc] at hs1 hm1;have q1:w1.cell? ⟨gt,1,none⟩=some (.slice none 0 0):=(ht1.cell 1).trans rfl;have HK1:=lhd hk1;clear hk1;go_wp2_with fail;refine wp_region_any kR ?_;refine bH [22,23,24,25,26,27,28,29,30,31] (fun b=>b=gt) 10 [4,10] (fun w2=>Bk w2 gt 202 #[ga,.slice none 0 0,.int .i64 (-1),.int .i64 v]) (fun _ w2=>∃A c,Bk w2 gt 202 #[ga,.slice A 1 c,.int .i64 (-1),.int .i64 v]/\Made w2 (nb+1) 205 8 A 1 c (aAH 0 0 gb)) [is gt,is gt,is gt,is (.pointer (some ⟨gt,1,none⟩)),is (.slice none 0 0),is (.agg #[.int .i64 (-1),.int .i64 (-1),.int .i64 0,.int .i64 0,.int .i64 0,.int .i64 0,.int .i64 0,gb]),nS (fun b=>b=gt) 205 #[.int .i64 (-1),.int .i64 (-1),.int .i64 0,.int .i64 0,.int .i64 0,.int .i64 0,.int .i64 0,gb] fun g=>.slice (some ⟨g,0,none⟩) 1 1,kH (nb+1) 205 8 1 (aAH 0 0 gb),is gt,is (.pointer (some ⟨gt,1,none⟩)),cR] _ _ rfl kR kR (ht1) (fun w2 w3 h _ hg=>Bk.below h hg h.lt) (fun _ _ _ ⟨A,c,h1,h2⟩ k=>⟨A,c,Bk.below h1 k h1.lt,h2.below k⟩) (by repeat' (first | exact iR _ _ | exact fZ _ | exact pX _ _ _ _ | exact lJ (fun b hb=>by subst hb;omega) _ _ _ _ |(refine zAe.2 ⟨?_,?_⟩)|(intro p hp;cases hp))) ?_ ?_
 · refine aM ?_;refine pH3 0 (.pointer (some ⟨gt,0,none⟩)) ?_;refine pH3 0 (.pointer (some ⟨gt,0,none⟩)) ?_;refine pV3 1 23 ?_;refine pV3 2 24 ?_;refine sC3 (fun _ w5 _ hU _ _ _ hval _ _ _ hK=>?_) ?_
   · have hpre:=hU rfl;have e25:_=_:=hval 3 25 kR rfl;have c26:w5.cell? ⟨gt,1,none⟩=some (.slice none 0 0):=(hpre.cell 1).trans rfl;go_simp;exact kq hK rfl
   refine sC3 (fun ev w5 hS _ _ _ hold _ _ _ _ hK=>?_) ?_
   · replace hS:Keep (fun b=>b=gt) w1 w5:=kD hS;have e3:ev (.tmp 3)=.pointer (some ⟨nb,0,none⟩):=hold 3 kR;have hn5:=hS.bk hn1 (fun h=>absurd (show nb=gt from h) oM);have x0:w5.cell? ⟨nb,0,none⟩=some (.int .i64 (-1)):=(hn5.cell 0).trans rfl;have x1:w5.cell? ⟨nb,1,none⟩=some (.int .i64 (-1)):=(hn5.cell 1).trans rfl;have x2:w5.cell? ⟨nb,2,none⟩=some (.int .i64 0):=(hn5.cell 2).trans rfl;have x3:w5.cell? ⟨nb,3,none⟩=some (.int .i64 0):=(hn5.cell 3).trans rfl;have x4:w5.cell? ⟨nb,4,none⟩=some (.int .i64 0):=(hn5.cell 4).trans rfl;have x5:w5.cell? ⟨nb,5,none⟩=some (.int .i64 0):=(hn5.cell 5).trans rfl;have x6:w5.cell? ⟨nb,6,none⟩=some (.int .i64 0):=(hn5.cell 6).trans rfl;have x7:w5.cell? ⟨nb,7,none⟩=some (.pointer (some ⟨gb,0,none⟩)):=(hn5.cell 7).trans rfl;go_simp;exact kq hK rfl
   refine sC3 (fun _ w5 hS _ _ _ _ hval _ _ _ hK=>?_) ?_
   · replace hS:Keep (fun b=>b=gt) w1 w5:=kD hS;have e27:_=_:=hval 5 27 kR rfl;go_simp;exact hK _ _ (aJ (bR.alloc nL _)) ⟨_,rfl,Bk.new _ _ _,fun h=>by have:=hS.size;have h0:w5.heap.size=gt:=h;omega⟩
   refine sC3 (fun ev w5 hS _ _ _ _ hval _ _ ha hK=>?_) ?_;replace hS:Keep (fun b=>b=gt) w1 w5:=kD hS;have e26:_=_:=hval 4 26 kR rfl;have p28:(nS (fun b=>b=gt) 205 #[.int .i64 (-1),.int .i64 (-1),.int .i64 0,.int .i64 0,.int .i64 0,.int .i64 0,.int .i64 0,gb] fun g=>.slice (some ⟨g,0,none⟩) 1 1) (ev (.tmp 28)) w5:=hval 6 28 kR rfl;obtain ⟨g28,e28,hb28,hn28⟩:=p28;subst ha;have hw5:nb+1<=w5.heap.size:=(by have:=hS.size;omega);refine dS w5 (.tmp 26) (.tmp 28) _ rfl (nb+1) 205 i0 _ 8 64 Tryz.underlying200 hi0 hz0 hz1 hz2 rfl dC (.slice none 0 0) 0 [] e26 (World.ownsRow_nil _ _ _ _) w5.heap.size (some ⟨g28,0,none⟩) 1 1 _ e28 (xB hb28 rfl) (by simp [Value.oneCell']) (by unfold maxLen;omega) oM hw5 ?_;intro v6 w6 hown6 hg6 hat6;rw [zBi,List.nil_append] at hown6;obtain ⟨A9,c9,rfl,hm9⟩:=aS hown6;exact hK _ _ (aJ ⟨hg6.os,hg6.tape,hg6.output,hg6.size,fun k hk=>hg6.block k hk (by simp [Value.ownBlock])⟩) ⟨A9,c9,rfl,hm9⟩;refine pV3 0 22 ?_;refine pV3 8 30 ?_;refine sC3 (fun ev w5 _ hU _ _ _ hval _ _ _ hK=>?_) ?_
   · have hpre:=hU rfl;have e31:_=_:=hval 9 31 kR rfl;have p29:(kH (nb+1) 205 8 1 (aAH 0 0 gb)) (ev (.tmp 29)) w5:=hval 7 29 kR rfl;obtain ⟨A9,c9,e29,hm9⟩:=p29;have c31:w5.cell? ⟨gt,1,none⟩=some (.slice none 0 0):=(hpre.cell 1).trans rfl;have f31:=hpre.frozen 1;go_simp;exact hK (.bool true) _ (aW (Keep.setCell (F:=fun b=>b=gt) (Keep.refl _ _) (p:=⟨gt,1,none⟩) (.inl rfl) _)) ⟨A9,c9,hpre.set 1 _,hm9.keepF (Keep.setCell (F:=fun b=>b=gt) (Keep.refl _ _) (p:=⟨gt,1,none⟩) (.inl rfl) _) (fun b hb=>by subst hb;omega)⟩
   exact aC
 · intro ev w6 hS hval hall;replace hS:Keep (fun b=>b=gt) w1 w6:=kD hS;obtain ⟨vJ,pJ⟩:∃vJ0,(fun _ w2=>∃A c,Bk w2 gt 202 #[ga,.slice A 1 c,.int .i64 (-1),.int .i64 v]/\Made w2 (nb+1) 205 8 A 1 c (aAH 0 0 gb)) vJ0 w6:=hall 10 dC;simp only [aI,zq1,zq2,Act.put,zq3,zq4,zq5];clear hval hall;obtain ⟨A9,c9,ht6,hm6⟩:=pJ;obtain ⟨gl,rfl⟩:=aJK hm6.own;have hr6:RowS (nb+1) gl c9 gb 0 0 w6:=hm6.own;have hb6:=hS.bk hb1 (fun h=>htb h.symm);have ha6:=hS.bk ha1 (fun h=>hta h.symm);have hm16:=hm1.keepF hS (fun b hb=>by subst hb;omega);have HS:=lhd hS;have hgl:=hr6.lt;clear hS hm6;go_wp2_with fail;refine (rS gt ga gl c9 gb (nb+1) (-1) v bs w6 ht6 hr6 hb6 hl).mono ?_;rintro e w7 ⟨rfl,hk7,hr7⟩;have ht7:=hk7.bk ht6 (fun h=>absurd (show gt=gl from h) oM);have hb7:=hk7.bk hb6 (fun h=>absurd (show gb=gl from h) oM);have ha7:=hk7.bk ha6 (fun h=>absurd (show ga=gl from h) oM);have hm7:Made w7 w.heap.size 4 1 A1 1 c1 [.bool true]:=(aJV hr6 hk7 hm16).mono oM;have hkeep:Keep (fun b=>b=ga∨b=gt) w w7:=(by have k1:Keep (fun b=>b=ga∨b=gt) w w1:=(Keep.of_below (bR.alloc nL _)).trans (HK1.out.mono (fun b _ e=>.inl e));have k2:=k1.trans (HS.out.mono (fun b _ e=>.inr e));exact k2.trans' hk7 (fun b hb e=>absurd (show b=gl from e) oM));go_wp2_with fail;go_ret;rw [hnb] at*
   exact ⟨rfl,hkeep,gl,c9,ht7,bF hr7 oM,hb7,A1,c1,ha7,hm7⟩
theorem xN (gt ga gb:Nat) (v:Int) (bs:List Bool) (w:World) (ht:Bk w gt 202 #[ga,.slice none 0 0,.int .i64 (-1),.int .i64 v]) (ha:Bk w ga 221 #[.slice none 0 0,.slice none 0 0,.int .i64 268435456]) (hb:Bk w gb 230 (iI bs)) (hl:bs.length<=128):
 Calls Tryz.prog 212 #[gt,gb] w fun e w'=>e=.returned (.int .i64 0)/\Keep (fun b=>b=ga∨b=gt) w w'/\∃gl cl,Leaf w' w.heap.size gt ga gl cl gb (-1) v bs:=by
 go_enter Tryz.func212,Tryz.ntmps212;go_wp2_with fail;refine (aEr gt ga gb v bs w ht ha hb hl).mono ?_;rintro e w1 ⟨rfl,hk,gl,cl,h⟩;go_wp2_with fail;go_ret;exact ⟨rfl,hk,gl,cl,h⟩
def aGK (B:Nat) (bs:List Bool):Value->World->Prop:=fun v w=>∃gb,v=.tuple #[.pointer (some ⟨gb,0,none⟩),.int .i64 0]/\Bk w gb 230 (iI bs)/\B<=gb
def aI0 (B:Nat) (bs:List Bool):Value->World->Prop:=fun v w=>∃gb,v=.pointer (some ⟨gb,0,none⟩)/\Bk w gb 230 (iI bs)/\B<=gb
theorem aF2 (B:Nat) (bs:List Bool):yS (fun _=>False) (aGK B bs):=fun _ _ _ ⟨gb,h1,h2,h3⟩ k=>⟨gb,h1,k.bk h2 (fun h=>h),h3⟩
theorem aF3 (B:Nat) (bs:List Bool):yS (fun _=>False) (aI0 B bs):=fun _ _ _ ⟨gb,h1,h2,h3⟩ k=>⟨gb,h1,k.bk h2 (fun h=>h),h3⟩
theorem Leaf.mono {w:World} {B B' gt ga gl cl gb:Nat} {rt v:Int} {bs:List Bool} (h:Leaf w B gt ga gl cl gb rt v bs) (hB:B'<=B):Leaf w B' gt ga gl cl gb rt v bs:=by
 obtain ⟨A,c,h1,h2⟩:=h.arena;exact ⟨h.tree,bF h.row hB,h.blk,A,c,h1,h2.mono hB⟩
theorem aGJ (gt ga:Nat) (v:Int) (A:Option Addr) (m c B:Nat) (bs:List Bool) (w:World) (ht:Bk w gt 202 #[ga,.slice none 0 0,.int .i64 (-1),.int .i64 v]) (ha:Bk w ga 221 #[.slice none 0 0,.slice none 0 0,.int .i64 268435456]) (hr:Rd w B 1 A m (bs.map Value.bool)) (hB:B<=w.heap.size) (hm:m<=128) (hmc:m<=c):
 Calls Tryz.prog 258 #[gt,.slice A m c,.int .i64 0,.int .i64 1,.int .i64 1] w fun e w'=>e=.returned (.int .i64 0)/\Keep (fun b=>b=ga∨b=gt) w w'/\∃gl cl gb,Leaf w' w.heap.size gt ga gl cl gb (-1) v bs/\w.heap.size<=gb:=by
 have hbl:bs.length=m:=by simpa using hr.1
 have hd1:((m:Int)*1).tdiv 1=(m:Int):=by rw [Int.mul_one,Int.tdiv_one]
 have hgt:=ht.lt;have hga:=ha.lt;obtain ⟨Ht,Ha,Hr,Hbl,HW⟩:=hqq5 ht ha (hr.mono hB) hbl (Below.refl w.heap.size w);clear ht ha hr hbl;go_enter Tryz.func258,Tryz.ntmps258;go_wp2_with fail;refine wp_region_any kR ?_;refine bH [20,21,22,23,24,25,26,27,28,29,30,31,32,33,34,19,35,36,11,12] (fun _=>False) 19 [] (fun _=>True) (cR) [is (.slice A m c),is (.slice A m c),is (m:Int),is (.int .i64 0),is (.int .i64 0),is (.int .i64 1),is (.int .i64 0),is (.slice A m c),is (m:Int),is (.int .i64 1),is (m:Int),is (.int .i64 1),is (m:Int),is (.slice A m c),aGK w.heap.size bs,aGK w.heap.size bs,aI0 w.heap.size bs,is (.int .i64 0),aI0 w.heap.size bs,cR] _ _ rfl kR kR (trivial) (fun _ _ _ _ _=>trivial) (fun _ _ _ _ _=>trivial) (by repeat' (first | exact iR _ _ | exact fZ _ | exact aF2 _ _ | exact aF3 _ _ |(refine zAe.2 ⟨?_,?_⟩)|(intro p hp;cases hp))) ?_ ?_
 · refine aM ?_;refine pH3 1 (.slice A m c) ?_;refine pH3 1 (.slice A m c) ?_;refine pV3 1 21 ?_;refine pH3 2 (.int .i64 0) ?_;refine sC3 (fun _ _ _ _ _ _ _ hval _ _ _ hK=>?_) ?_
   · have e22:_=_:=hval 2 22 kR rfl;have e23:_=_:=hval 3 23 kR rfl;go_simp;exact hK _ _ (aJ bR) (dD (by simp [IntKind.wrap_i64] <;> omega))
   refine pH3 4 (.int .i64 1) ?_;refine sC3 (fun _ _ _ _ _ _ _ hval _ _ _ hK=>?_) ?_
   · have e24:_=_:=hval 4 24 kR rfl;have e25:_=_:=hval 5 25 kR rfl;go_simp;exact hK _ _ (aJ bR) (dD (by simp [IntKind.wrap_i64] <;> omega))
   refine pH3 1 (.slice A m c) ?_;refine pV3 7 27 ?_;refine pH3 3 (.int .i64 1) ?_;refine sC3 (fun _ _ _ _ _ _ _ hval _ _ _ hK=>?_) ?_
   · have e28:_=_:=hval 8 28 kR rfl;have e29:_=_:=hval 9 29 kR rfl;go_simp;exact hK _ _ (aJ bR) (dD (by simp [IntKind.wrap_i64] <;> omega))
   refine pH3 4 (.int .i64 1) ?_;refine sC3 (fun _ _ _ _ _ _ _ hval _ _ _ hK=>?_) ?_
   · have e30:_=_:=hval 10 30 kR rfl;have e31:_=_:=hval 11 31 kR rfl;go_simp;exact hK _ _ (aJ bR) (dD (by simp [IntKind.wrap_i64] <;> omega))
   refine sC3 (fun _ _ _ _ _ _ _ hval _ _ _ hK=>?_) ?_
   · have e20:_=_:=hval 0 20 kR rfl;have e26:_=_:=hval 6 26 kR rfl;have e32:_=_:=hval 12 32 kR rfl;go_simp;exact kq hK rfl
   refine sC3 (fun _ w5 hS _ _ _ _ hval _ _ _ hK=>?_) ?_
   · replace hS:Keep (fun _=>False) w w5:=kD hS;have e33:_=_:=hval 13 33 kR rfl;go_simp;have hr5:=hS.rd Hr.out nL (fun _ _ h=>h);refine (nE A m c w.heap.size bs w5 hr5 hS.size hm).mono ?_;rintro e w8 ⟨rfl,hb8,hk8⟩;exact hK _ _ (aJ hk8) ⟨_,rfl,hb8,hS.size⟩
   refine sC3 (fun ev w5 _ _ _ _ _ hval _ _ _ hK=>?_) ?_
   · have p34:(aGK w.heap.size bs) (ev (.tmp 34)) w5:=hval 14 34 kR rfl;go_simp;exact hK _ _ (aJ bR) p34
   refine sC3 (fun ev w5 _ _ _ _ _ hval _ _ ha hK=>?_) ?_
   · have p19:(aGK w.heap.size bs) (ev (.tmp 19)) w5:=hval 15 19 kR rfl;go_simp;obtain ⟨gb,e19,hb9,hg9⟩:=p19;subst ha;rw [e19];go_simp;exact hK _ _ (aJ bR) ⟨gb,rfl,hb9,hg9⟩
   refine sC3 (fun ev w5 _ _ _ _ _ hval _ _ ha hK=>?_) ?_
   · have p19:(aGK w.heap.size bs) (ev (.tmp 19)) w5:=hval 15 19 kR rfl;go_simp;obtain ⟨gb,e19,hb9,hg9⟩:=p19;subst ha;rw [e19];go_simp;exact kq hK rfl
   refine sC3 (fun ev w5 _ _ _ _ _ hval _ _ _ hK=>?_) ?_
   · have p35:(aI0 w.heap.size bs) (ev (.tmp 35)) w5:=hval 16 35 kR rfl;go_simp;exact hK _ _ (aJ bR) p35
   refine sC3 (fun _ _ _ _ _ _ _ hval _ _ _ hK=>?_) ?_
   · have e36:_=_:=hval 17 36 kR rfl;go_simp;exact hK _ _ (aJ bR) trivial
   exact aC
 · intro ev w6 hS hval hall;replace hS:Keep (fun _=>False) w w6:=kD hS;have p11:(aI0 w.heap.size bs) (ev (.tmp 11)) w6:=hval 18 11 rfl;have e36:ev (.tmp 36)=.int .i64 0:=hval 17 36 rfl;obtain ⟨vJ,pJ⟩:∃vJ0,(cR) vJ0 w6:=hall 19 dC;simp only [aI,zq1,zq2,Act.put,zq3,zq4,zq5];rw [e36];clear hval hall;obtain ⟨gb,e11,hb6,hg6⟩:=p11;rw [e11];have ht6:=hS.bk Ht.out (fun h=>h);have ha6:=hS.bk Ha.out (fun h=>h);have hs6:=hS.size;have HS:=lhd hS;clear hS;go_wp2_with fail;refine (xN gt ga gb v bs w6 ht6 ha6 hb6 (by rw [Hbl.out];exact hm)).mono ?_;rintro e w7 ⟨rfl,hk7,gl,cl,h7⟩;go_wp2_with fail;go_ret;exact ⟨rfl,(HS.out.mono (fun _ _ h=>h.elim)).trans hk7,gl,cl,gb,h7.mono hs6,hg6⟩
theorem aA {w w':World} {B:Nat} {e:TypeId} {sz n:Nat} {v:Value} {xs:List Value} (h:w.ownsRow B e sz v n xs) (hs:∀b cs,v.ownBlock=some b->Bk w b e cs->Bk w' b e cs):w'.ownsRow B e sz v n xs:=by
 refine ⟨h.1,?_⟩;rcases h.2 with h1 |⟨g,cap,cur,h1,h2,h3,h4⟩;exact .inl h1;exact .inr ⟨g,cap,cur,h1,h2,hs g cur (by rw [h1];rfl) h3,h4⟩
theorem oR {w w':World} {B:Nat} {e:TypeId} {sz n c:Nat} {A:Option Addr} {xs:List Value} (h:Made w B e sz A n c xs) (hs:∀b cs,Bk w b e cs->Bk w' b e cs):Made w' B e sz A n c xs:=by
 have h1:=aA (w':=w') h.own fun b cs _=>hs b cs;exact ⟨h1,Rd.of_own h1,h.cap,h.max⟩
structure VisF (F:Nat->Prop) (w w':World):Prop where
 os:w'.os=w.os
 tape:w'.tape=w.tape
 output:w'.output=w.output
 size:w.heap.size<=w'.heap.size
 block:∀b,b < w.heap.size->¬F b->w'.heap[b]?=w.heap[b]?∨(∃cs v,Bk w b 202 cs/\Bk w' b 202 (cs.setIfInBounds 3 (.int .i64 v)))∨(∃cs v,Bk w b 154 cs/\Bk w' b 154 (cs.setIfInBounds 10 (.int .i64 v)))
abbrev Vis:World->World->Prop:=VisF (fun _=>False)
theorem Vis.refl (w:World):Vis w w:=⟨rfl,rfl,rfl,zAs _,fun _ _ _=>.inl rfl⟩
theorem VisF.of_vis {F:Nat->Prop} {w w':World} (h:Vis w w'):VisF F w w':=⟨h.os,h.tape,h.output,h.size,fun b hb _=>h.block b hb (fun x=>x)⟩
theorem VisF.of_keep {F:Nat->Prop} {w w':World} (h:Keep F w w'):VisF F w w':=⟨h.os,h.tape,h.output,h.size,fun b hb hn=>.inl (h.block b hb hn)⟩
theorem VisF.to_vis {F:Nat->Prop} {w w':World} (h:VisF F w w') (hf:∀b,b < w.heap.size->¬F b):Vis w w':=⟨h.os,h.tape,h.output,h.size,fun b hb _=>h.block b hb (hf b hb)⟩
theorem set_set (cs:Array Value) (i:Nat) (u v:Value):(cs.setIfInBounds i u).setIfInBounds i v=cs.setIfInBounds i v:=by
 apply Array.ext
 · simp
 · intro j h1 h2;simp [Array.getElem_setIfInBounds]
theorem aR {w:World} {g:Nat} {t t':TypeId} {cs cs':Array Value} (h:Bk w g t cs) (h':Bk w g t' cs'):t=t'/\cs=cs':=by
 unfold Bk at h h';rw [h] at h';injection h' with h';injection h' with h1 h2;exact ⟨h2,h1⟩
theorem VisF.trans {F:Nat->Prop} {w w1 w':World} (h:VisF F w w1) (k:VisF F w1 w'):VisF F w w':=by
 refine ⟨k.os.trans h.os,k.tape.trans h.tape,k.output.trans h.output,zAk h.size k.size,fun b hb hn=>?_⟩;have hb1:b < w1.heap.size:=zAl hb h.size;rcases h.block b hb hn with e1 |⟨cs,v,e1,e2⟩|⟨cs,v,e1,e2⟩<;> rcases k.block b hb1 hn with f1 |⟨cs',v',f1,f2⟩|⟨cs',v',f1,f2⟩;exact .inl (f1.trans e1);exact .inr (.inl ⟨cs',v',e1.symm.trans f1,f2⟩);exact .inr (.inr ⟨cs',v',e1.symm.trans f1,f2⟩);exact .inr (.inl ⟨cs,v,e1,f1.trans e2⟩);obtain ⟨_,rfl⟩:=aR e2 f1;rw [set_set] at f2;exact .inr (.inl ⟨cs,v',e1,f2⟩);exact absurd (aR e2 f1).1 dC;exact .inr (.inr ⟨cs,v,e1,f1.trans e2⟩);exact absurd (aR e2 f1).1 dC;obtain ⟨_,rfl⟩:=aR e2 f1;rw [set_set] at f2;exact .inr (.inr ⟨cs,v',e1,f2⟩)
theorem Vis.trans {w w1 w':World} (h:Vis w w1) (k:Vis w1 w'):Vis w w':=VisF.trans h k
theorem Vis.of_below {w w':World} (h:Below w.heap.size w w'):Vis w w':=⟨h.os,h.tape,h.output,h.size,fun b hb _=>.inl (h.block b hb)⟩
theorem Vis.set_tree {w:World} {g:Nat} {cs:Array Value} (h:Bk w g 202 cs) (v:Int):Vis w (w.setCell ⟨g,3,none⟩ (.int .i64 v)):=by
 refine ⟨rfl,rfl,rfl,by simp [World.setCell],fun b hb _=>?_⟩;by_cases e:b=g;subst e;exact .inr (.inl ⟨cs,v,h,h.set 3 _⟩);exact .inl (heap_setCell_other w ⟨g,3,none⟩ b _ (fun x=>e x))
theorem Vis.set_wave {w:World} {g:Nat} {cs:Array Value} (h:Bk w g 154 cs) (v:Int):Vis w (w.setCell ⟨g,10,none⟩ (.int .i64 v)):=by
 refine ⟨rfl,rfl,rfl,by simp [World.setCell],fun b hb _=>?_⟩;by_cases e:b=g;subst e;exact .inr (.inr ⟨cs,v,h,h.set 10 _⟩);exact .inl (heap_setCell_other w ⟨g,10,none⟩ b _ (fun x=>e x))
theorem VisF.put {F:Nat->Prop} {w w1:World} (h:VisF F w w1) {p:Addr} (hp:F p.block∨w.heap.size<=p.block) (u:Value):VisF F w (w1.setCell p u):=by
 refine ⟨h.os,h.tape,h.output,by simpa [World.setCell] using h.size,fun b hb hn=>?_⟩;have e:(w1.setCell p u).heap[b]?=w1.heap[b]?:=heap_setCell_other w1 p b u (fun x=>by
  rcases hp with hp | hp;rw [<-x] at hp;exact hn hp
  · omega)
 rcases h.block b hb hn with e1 |⟨cs,v,e1,e2⟩|⟨cs,v,e1,e2⟩;exact .inl (e.trans e1);exact .inr (.inl ⟨cs,v,e1,e.trans e2⟩);exact .inr (.inr ⟨cs,v,e1,e.trans e2⟩)
theorem Vis.fresh {w w1:World} (h:Vis w w1) {p:Addr} (hp:w.heap.size<=p.block) (u:Value):Vis w (w1.setCell p u):=VisF.put h (.inr hp) u
theorem Vis.alloc {w w1:World} (h:Vis w w1) (o:Obj):Vis w (w1.alloc o):=h.trans (Vis.of_below (bR.alloc nL _))
theorem Vis.below {w w1 w2:World} (h:Vis w w1) (k:Below w1.heap.size w1 w2):Vis w w2:=h.trans (Vis.of_below k)
theorem VisF.bk {F:Nat->Prop} {w w':World} {g:Nat} {t:TypeId} {cs:Array Value} (h:VisF F w w') (hb:Bk w g t cs) (h1:t≠202) (h2:t≠154) (hn:¬F g):Bk w' g t cs:=by
 rcases h.block g hb.lt hn with e1 |⟨cs',v,e1,e2⟩|⟨cs',v,e1,e2⟩;exact e1.trans hb;exact absurd (aR hb e1).1 h1;exact absurd (aR hb e1).1 h2
theorem VisF.tree {F:Nat->Prop} {w w':World} {g:Nat} {a b c:Value} {v:Int} (h:VisF F w w') (hb:Bk w g 202 #[a,b,c,.int .i64 v]) (hn:¬F g):∃v',Bk w' g 202 #[a,b,c,.int .i64 v']:=by
 rcases h.block g hb.lt hn with e1 |⟨cs',v',e1,e2⟩|⟨cs',v',e1,e2⟩;exact ⟨v,e1.trans hb⟩;obtain ⟨_,rfl⟩:=aR hb e1;exact ⟨v',e2⟩;exact absurd (aR hb e1).1 dC
theorem VisF.wave {F:Nat->Prop} {w w':World} {g:Nat} {cs:Array Value} (h:VisF F w w') (hb:Bk w g 154 cs) (hn:¬F g):Bk w' g 154 cs∨∃v',Bk w' g 154 (cs.setIfInBounds 10 (.int .i64 v')):=by
 rcases h.block g hb.lt hn with e1 |⟨cs',v',e1,e2⟩|⟨cs',v',e1,e2⟩;exact .inl (e1.trans hb);exact absurd (aR hb e1).1 dC;obtain ⟨_,rfl⟩:=aR hb e1;exact .inr ⟨v',e2⟩
theorem Vis.bk {w w':World} {g:Nat} {t:TypeId} {cs:Array Value} (h:Vis w w') (hb:Bk w g t cs) (h1:t≠202) (h2:t≠154):Bk w' g t cs:=VisF.bk h hb h1 h2 (fun x=>x)
theorem Vis.tree {w w':World} {g:Nat} {a b c:Value} {v:Int} (h:Vis w w') (hb:Bk w g 202 #[a,b,c,.int .i64 v]):∃v',Bk w' g 202 #[a,b,c,.int .i64 v']:=VisF.tree h hb (fun x=>x)
theorem Vis.wave {w w':World} {g:Nat} {cs:Array Value} (h:Vis w w') (hb:Bk w g 154 cs):Bk w' g 154 cs∨∃v',Bk w' g 154 (cs.setIfInBounds 10 (.int .i64 v')):=VisF.wave h hb (fun x=>x)
def VisK (F:Nat->Prop) (w w':World):Prop:=Vis w w'/\Keep F w w'
theorem VisK.refl (F:Nat->Prop) (w:World):VisK F w w:=⟨Vis.refl w,Keep.refl F w⟩
theorem vR {F:Nat->Prop} {w:World}:VisK F w w:=VisK.refl F w
theorem VisK.trans {F:Nat->Prop} {w w1 w':World} (h:VisK F w w1) (k:VisK F w1 w'):VisK F w w':=⟨h.1.trans k.1,h.2.trans k.2⟩
theorem VisK.below {F:Nat->Prop} {w w1 w':World} (h:VisK F w w1) (k:Below w1.heap.size w1 w'):VisK F w w':=⟨h.1.trans (Vis.of_below k),h.2.trans (Keep.of_below k)⟩
theorem VisK.of_below {F:Nat->Prop} {w w':World} (k:Below w.heap.size w w'):VisK F w w':=(VisK.refl F w).below k
theorem VisK.alloc {F:Nat->Prop} {w w1:World} (h:VisK F w w1) (o:Obj):VisK F w (w1.alloc o):=h.below (bR.alloc nL _)
theorem VisK.set_tree {w:World} {g:Nat} {cs:Array Value} (h:Bk w g 202 cs) (v:Int):VisK (fun b=>b=g) w (w.setCell ⟨g,3,none⟩ (.int .i64 v)):=⟨Vis.set_tree h v,Keep.setCell (F:=fun b=>b=g) (Keep.refl _ _) (p:=⟨g,3,none⟩) (.inl rfl) _⟩
theorem VisK.mono {F G:Nat->Prop} {w w':World} (h:VisK F w w') (hf:∀b,F b->G b):VisK G w w':=⟨h.1,h.2.mono fun b _=>hf b⟩
theorem Vis.own {w w':World} {B:Nat} {e:TypeId} {sz n:Nat} {v:Value} {xs:List Value} (k:Vis w w') (h:w.ownsRow B e sz v n xs) (h1:e≠202) (h2:e≠154):w'.ownsRow B e sz v n xs:=
 aA h fun b cs _ hb=>k.bk hb h1 h2
theorem Vis.made {w w':World} {B:Nat} {e:TypeId} {sz n c:Nat} {A:Option Addr} {xs:List Value} (k:Vis w w') (h:Made w B e sz A n c xs) (h1:e≠202) (h2:e≠154):Made w' B e sz A n c xs:=
 oR h fun b cs hb=>k.bk hb h1 h2
def RdT (w:World) (t:TypeId) (A:Option Addr) (n:Nat) (xs:List Value):Prop:=
 xs.length=n/\(0 < n->∃b off cs,A=some ⟨b,off,none⟩/\Bk w b t cs/\∀j u,xs[j]?=some u->cs[off+j]?=some u)
theorem RdT.rd {w:World} {t:TypeId} {A:Option Addr} {n:Nat} {xs:List Value} (h:RdT w t A n xs):Rd w w.heap.size 1 A n xs:=by
 refine ⟨by rw [h.1,zBl],fun hn=>?_⟩;obtain ⟨b,off,cs,e,hb,hc⟩:=h.2 hn;exact ⟨b,off,e,hb.lt,fun j u hu=>(hb.cell _).trans (hc j u hu)⟩
theorem RdT.same {w w':World} {t:TypeId} {A:Option Addr} {n:Nat} {xs:List Value} (h:RdT w t A n xs) (hs:∀b cs,Bk w b t cs->Bk w' b t cs):RdT w' t A n xs:=by
 refine ⟨h.1,fun hn=>?_⟩;obtain ⟨b,off,cs,e,hb,hc⟩:=h.2 hn;exact ⟨b,off,cs,e,hs b cs hb,hc⟩
structure LeafV (w:World) (B gt ga gl cl gb:Nat) (rt v:Int) (bs:List Bool):Prop where
 tree:Bk w gt 202 #[ga,.slice (some ⟨gl,0,none⟩) 1 cl,.int .i64 rt,.int .i64 v]
 row:RowS B gl cl gb (bs.length:Int) ((bs.count true:Nat):Int) w
 blk:Bk w gb 230 (iI bs)
theorem Leaf.toV {w:World} {B gt ga gl cl gb:Nat} {rt v:Int} {bs:List Bool} (h:Leaf w B gt ga gl cl gb rt v bs):LeafV w 0 gt ga gl cl gb rt v bs:=⟨h.tree,bF h.row (zAp _),h.blk⟩
theorem LeafV.vis {w w':World} {B gt ga gl cl gb:Nat} {rt v:Int} {bs:List Bool} (h:LeafV w B gt ga gl cl gb rt v bs) (k:Vis w w'):∃v',LeafV w' B gt ga gl cl gb rt v' bs:=by
 obtain ⟨v',h1⟩:=k.tree h.tree;exact ⟨v',h1,k.own h.row dC dC,k.bk h.blk dC dC⟩
def TreeAt (w:World) (gt:Nat) (bs:List Bool):Prop:=
 ∃(ga:Nat) (v:Int),(bs= []/\∃vl,Bk w gt 202 #[ga,vl,.int .i64 (-1),.int .i64 v])∨(bs≠ []/\bs.length<=128/\∃gl cl gb,LeafV w 0 gt ga gl cl gb 0 v bs)
theorem TreeAt.vis {w w':World} {gt:Nat} {bs:List Bool} (h:TreeAt w gt bs) (k:Vis w w'):TreeAt w' gt bs:=by
 obtain ⟨ga,v,⟨h1,vl,h2⟩|⟨h1,h2,gl,cl,gb,h3⟩⟩:=h;obtain ⟨v',h4⟩:=k.tree h2;exact ⟨ga,v',.inl ⟨h1,vl,h4⟩⟩;obtain ⟨v',h4⟩:=h3.vis k;exact ⟨ga,v',.inr ⟨h1,h2,gl,cl,gb,h4⟩⟩
theorem TreeAt.same {w w':World} {gt:Nat} {bs:List Bool} (h:TreeAt w gt bs) (k:∀b t cs,t∈ [202,221,205,230,4]->Bk w b t cs->Bk w' b t cs):TreeAt w' gt bs:=by
 obtain ⟨ga,v,⟨h1,vl,h2⟩|⟨h1,h2,gl,cl,gb,h3⟩⟩:=h;exact ⟨ga,v,.inl ⟨h1,vl,k _ _ _ dC h2⟩⟩;exact ⟨ga,v,.inr ⟨h1,h2,gl,cl,gb,k _ _ _ dC h3.tree,aA h3.row fun b cs _ hb=>k _ _ _ dC hb,k _ _ _ dC h3.blk⟩⟩
theorem TreeAt.below {w w':World} {gt:Nat} {bs:List Bool} (h:TreeAt w gt bs) (k:Below w.heap.size w w'):TreeAt w' gt bs:=h.same fun b t cs _ hb=>hb.below k hb.lt
theorem TreeAt.lt {w:World} {gt:Nat} {bs:List Bool} (h:TreeAt w gt bs):gt < w.heap.size:=by
 obtain ⟨ga,v,⟨h1,vl,h2⟩|⟨h1,h2,gl,cl,gb,h3⟩⟩:=h;exact h2.lt;exact h3.tree.lt
def TreeB (w:World) (B gt:Nat) (bs:List Bool):Prop:=
 ∃(ga:Nat) (v:Int),B<=gt/\B<=ga/\((bs= []/\Bk w gt 202 #[ga,.slice none 0 0,.int .i64 (-1),.int .i64 v]/\Bk w ga 221 #[.slice none 0 0,.slice none 0 0,.int .i64 268435456])∨(bs≠ []/\bs.length<=128/\∃gl cl gb,B<=gb/\Leaf w B gt ga gl cl gb 0 v bs))
theorem TreeB.at {w:World} {B gt:Nat} {bs:List Bool} (h:TreeB w B gt bs):TreeAt w gt bs:=by
 obtain ⟨ga,v,_,_,⟨h1,h2,h3⟩|⟨h1,h2,gl,cl,gb,_,h3⟩⟩:=h;exact ⟨ga,v,.inl ⟨h1,_,h2⟩⟩;exact ⟨ga,v,.inr ⟨h1,h2,gl,cl,gb,h3.toV⟩⟩
theorem TreeB.keep {w w':World} {F:Nat->Prop} {B gt:Nat} {bs:List Bool} (h:TreeB w B gt bs) (k:Keep F w w') (hf:∀b,F b->b < B):TreeB w' B gt bs:=by
 obtain ⟨ga,v,l1,l2,⟨h1,h2,h3⟩|⟨h1,h2,gl,cl,gb,l3,h3⟩⟩:=h;exact ⟨ga,v,l1,l2,.inl ⟨h1,k.bk h2 (fun f=>by have:=hf _ f;omega),k.bk h3 (fun f=>by have:=hf _ f;omega)⟩⟩;obtain ⟨A,c,h4,h5⟩:=h3.arena;exact ⟨ga,v,l1,l2,.inr ⟨h1,h2,gl,cl,gb,l3,k.bk h3.tree (fun f=>by have:=hf _ f;omega),tN h3.row k hf,k.bk h3.blk (fun f=>by have:=hf _ f;omega),A,c,k.bk h4 (fun f=>by have:=hf _ f;omega),h5.keepF k hf⟩⟩
theorem TreeB.below {w w':World} {B gt:Nat} {bs:List Bool} (h:TreeB w B gt bs) (k:Below w.heap.size w w'):TreeB w' B gt bs:=h.keep (F:=fun _=>False) (Keep.of_below k) (fun _ f=>f.elim)
theorem TreeB.mono {w:World} {B B' gt:Nat} {bs:List Bool} (h:TreeB w B gt bs) (hB:B'<=B):TreeB w B' gt bs:=by
 obtain ⟨ga,v,l1,l2,⟨h1,h2,h3⟩|⟨h1,h2,gl,cl,gb,l3,h3⟩⟩:=h;exact ⟨ga,v,by omega,by omega,.inl ⟨h1,h2,h3⟩⟩;exact ⟨ga,v,by omega,by omega,.inr ⟨h1,h2,gl,cl,gb,by omega,h3.mono hB⟩⟩
theorem LeafV.cells {w:World} {B gt ga gl cl gb:Nat} {rt v:Int} {bs:List Bool} (h:LeafV w B gt ga gl cl gb rt v bs):
 w.cell? ⟨gt,0,none⟩=some (.pointer (some ⟨ga,0,none⟩))/\w.cell? ⟨gt,1,none⟩=some (.slice (some ⟨gl,0,none⟩) 1 cl)/\w.cell? ⟨gt,2,none⟩=some (.int .i64 rt)/\w.cell? ⟨gt,3,none⟩=some (.int .i64 v)/\
 w.cell? ⟨gl,0,none⟩=some (.int .i64 (-1))/\w.cell? ⟨gl,1,none⟩=some (.int .i64 (-1))/\w.cell? ⟨gl,2,none⟩=some (.int .i64 0)/\w.cell? ⟨gl,3,none⟩=some (.int .i64 (bs.length:Int))/\w.cell? ⟨gl,4,none⟩=some (.int .i64 ((bs.count true:Nat):Int))/\w.cell? ⟨gl,5,none⟩=some (.int .i64 0)/\w.cell? ⟨gl,6,none⟩=some (.int .i64 0)/\w.cell? ⟨gl,7,none⟩=some (.pointer (some ⟨gb,0,none⟩)):=by
 have k:=fun j hj=>World.ownsRow.cellAt h.row j hj;exact ⟨(h.tree.cell 0).trans rfl,(h.tree.cell 1).trans rfl,(h.tree.cell 2).trans rfl,(h.tree.cell 3).trans rfl,(k 0 oM).trans rfl,(k 1 oM).trans rfl,(k 2 oM).trans rfl,(k 3 oM).trans rfl,(k 4 oM).trans rfl,(k 5 oM).trans rfl,(k 6 oM).trans rfl,(k 7 oM).trans rfl⟩
theorem eR (gt:Nat) (bs:List Bool) (w:World) (h:TreeAt w gt bs):
 Calls Tryz.prog 178 #[gt] w fun e w'=>e=.returned (.int .i64 (bs.length:Int))/\Below w.heap.size w w':=by
 obtain ⟨ga,v,⟨rfl,vl,h2⟩|⟨h1,h2,gl,cl,gb,h3⟩⟩:=h
 · have c2:w.cell? ⟨gt,2,none⟩=some (.int .i64 (-1)):=(h2.cell 2).trans rfl;clear h2;go_enter Tryz.func178,Tryz.ntmps178;go_wp2;go_ret;exact ⟨rfl,Below.refl _ _⟩
 · obtain ⟨c0,c1,c2,c3,d0,d1,d2,d3,d4,d5,d6,d7⟩:=h3.cells;clear h3;go_enter Tryz.func178,Tryz.ntmps178;go_wp2;go_quiet (fail);go_wp2;go_ret;exact ⟨rfl,⟨rfl,rfl,rfl,zAs _,fun _ _=>rfl⟩⟩
theorem TreeAt.visits {w:World} {gt:Nat} {bs:List Bool} (h:TreeAt w gt bs):∃v,w.cell? ⟨gt,3,none⟩=some (.int .i64 v):=by
 obtain ⟨ga,v,⟨rfl,vl,h2⟩|⟨h1,h2,gl,cl,gb,h3⟩⟩:=h;exact ⟨v,(h2.cell 3).trans rfl⟩;exact ⟨v,h3.cells.2.2.2.1⟩
theorem fS (gt:Nat) (v:Int) (w:World) (h:w.cell? ⟨gt,3,none⟩=some (.int .i64 v)):
 Calls Tryz.prog 164 #[gt] w fun e w'=>e=.returned (.int .i64 v)/\Below w.heap.size w w':=by
 go_enter Tryz.func164,Tryz.ntmps164;go_wp2;go_ret;exact ⟨rfl,Below.refl _ _⟩
theorem xL (n o:Nat) (b:Bool) (w:World) (hn:n<=128) (ho:o<=n):
 Calls Tryz.prog 209 #[(n:Int),(o:Int),.bool b] w fun e w'=>e=.returned (.int .i64 ((if b then o else n - o:Nat):Int))/\Below w.heap.size w w':=by
 cases b
 · go_enter Tryz.func209,Tryz.ntmps209;go_wp2;go_ret;exact ⟨fL oM,Below.refl _ _⟩
 · go_enter Tryz.func209,Tryz.ntmps209;go_wp2;go_ret;exact ⟨fL (by simp),Below.refl _ _⟩
theorem qL (l:List Bool):l.count true+l.count false=l.length:=by
 induction l with
 | nil=>rfl
 | cons x l ih=>cases x <;> simp <;> omega
theorem aBJ (gt:Nat) (bs:List Bool) (k:Nat) (b:Bool) (w:World) (h:TreeAt w gt bs) (hk:k<=bs.length):
 Calls Tryz.prog 168 #[gt,(k:Int),.bool b] w fun e w'=>e=.returned (.int .i64 (((bs.take k).count b:Nat):Int))/\VisK (fun b=>b=gt) w w':=by
 have hbl:bs.length<=128:=by
  obtain ⟨ga,v,⟨rfl,vl,h2⟩|⟨h1,h2,h3⟩⟩:=h
  · simp
  exact h2
 have hv0:∃cs,Bk w gt 202 cs/\3 < cs.size:=by obtain ⟨ga,v,⟨rfl,vl,h2⟩|⟨h1,h2,gl,cl,gb,h3⟩⟩:=h;exact ⟨_,h2,by simp⟩;exact ⟨_,h3.tree,by simp⟩
 obtain ⟨cs,hcs,hc3⟩:=hv0;have hv1:=VisK.set_tree hcs 0;have ht1:=h.vis hv1.1;have hgl:=hcs.lt;have c3:w.cell? ⟨gt,3,none⟩=some cs[3]:=by rw [hcs.cell 3];simp [hc3]
 have f3:=hcs.frozen 3;have m1:max (k:Int) 0=(k:Int):=oM;have m2:min (k:Int) (bs.length:Int)=(k:Int):=oM;obtain ⟨HV,Hh,Hbl,Ht⟩:=hqq4 hv1 h hbl ht1;obtain ⟨N,hN⟩:=eqx bs.length;obtain ⟨HN,Hk⟩:=hqq2 hN hk;clear h hbl hv1 ht1 hcs hN hk;go_enter Tryz.func168,Tryz.ntmps168;go_wp2_with fail;clear c3 f3;refine (eR gt bs _ Ht.out).mono ?_;rintro e w2 ⟨rfl,hb2⟩;have hv2:=HV.out.below hb2;have ht2:=Hh.out.vis hv2.1;obtain ⟨HV2,Ht2⟩:=hqq2 hv2 ht2;clear hv2 ht2 HV Ht hb2 Hh;rcases zBa k with hk0 | hk0
 · subst hk0;go_wp2_with fail;go_ret;exact ⟨rfl,HV2.out⟩
 · have hk1:¬((k:Int)=0):=oM;obtain ⟨ga,v,⟨hbe,_,_⟩|⟨hbe,hb2,gl,cl,gb,hl⟩⟩:=Ht2.out;have h1:=Hk.out;rw [hbe] at h1;simp at h1;omega;obtain ⟨c0,c1,c2,c3,d0,d1,d2,d3,d4,d5,d6,d7⟩:=hl.cells;have hl2:=hl.row.lt;have hgl2:=hl.tree.lt;have hgt_gl:gt≠gl:=hl.row.bk_ne hl.tree dC;have f3:=hl.tree.frozen 3;obtain ⟨Hl,H2⟩:=hqq2 hl hb2;clear hl hb2 hbe;go_wp2_with fail;go_loopw [1,7,8] (fun x y z wr=>x=.int .i64 (k:Int)/\y=.int .i64 0/\z=.int .i64 0/\wr=w2) (fun _ _ _ _=>0)
   case atStart=>exact ⟨rfl,rfl,rfl,rfl⟩
   case round=>obtain ⟨rfl,rfl,rfl,rfl⟩:=hrel;go_wp2_with fail;have hgb:=Bk.ne Hl.out.blk Hl.out.tree dC;have hv3:=(VisK.set_tree Hl.out.tree (wrap64 (v+1))).alloc (.cells #[.int .i64 (-1),.int .i64 (-1),.int .i64 0,(bs.length:Int),.int .i64 ((bs.count true:Nat):Int),.int .i64 0,.int .i64 0,gb] 205);refine (aAs gb bs k _ ((Hl.out.blk.far hgb _).alloc _) H2.out (by rw [HN.out] at*;exact Hk.out)).mono ?_;rintro e w4 ⟨rfl,hb4⟩;have hv4:=(HV2.out.trans hv3).below hb4;obtain ⟨q,hq⟩:=eqx (List.count true (List.take k bs));have hqk:q<=k:=(by rw [<-hq];exact zAk zBv (by rw [zAj];omega));have hfin:(if b then q else k - q)=(bs.take k).count b:=(by have h1:=qL (bs.take k);have h2:(bs.take k).length=k:=(by rw [zAj];have:=Hk.out;omega);cases b;simp;omega;simp;omega);rw [hq];obtain ⟨HF,HV4⟩:=hqq2 hfin hv4;have hkN:k<=128:=zAk Hk.out Hbl.out;clear hq hfin hv3 hb4 hv4;go_wp2_with fail;refine (xL k q b _ hkN hqk).mono ?_;rintro e w5 ⟨rfl,hb5⟩;rw [HF.out];have hv5:=HV4.out.below hb5;have hcb:(bs.take k).count b<=128:=zAk zBv (by rw [zAj];omega);obtain ⟨r,hr⟩:=eqx (List.count b (List.take k bs));rw [hr] at hcb⊢;clear HF HV4;go_wp2_with fail;go_ret;exact ⟨fL (by rw [hr] <;> omega),hv5⟩
theorem kP (w:World) (B:Nat) (e:TypeId) (sz:Nat):w.ownsRow B e sz (.slice none 0 0) 0 []:=World.ownsRow_nil _ _ _ _
theorem aDe (A:Option Addr) (m c B:Nat) (bs:List Bool) (w:World) (hr:Rd w B 1 A m (bs.map Value.bool)) (hB:B<=w.heap.size) (hm:m<=128) (hmc:m<=c):
 Calls Tryz.prog 231 #[.slice A m c] w fun e w'=>∃gt,e=.returned (.pointer (some ⟨gt,0,none⟩))/\TreeB w' w.heap.size gt bs/\Below w.heap.size w w':=by
 have hbl:bs.length=m:=by simpa using hr.1
 obtain ⟨Hr,Hbl⟩:=hqq2 hr hbl;clear hr hbl;go_enter Tryz.func231,Tryz.ntmps231;go_wp2_with fail;refine (tC _).mono ?_;rintro e w1 ⟨rfl,ha1,hb1⟩;obtain ⟨Ha1,Hb1⟩:=hqq2 ha1 hb1;have hs1:=hb1.size;clear ha1 hb1;rcases zBa m with h0 | h0
 · subst h0;have hnil:bs= []:=zBk Hbl.out;go_wp2_with fail;go_ret;have hbB:=Hb1.out.alloc hs1 (.cells #[w.heap.size,.slice none 0 0,.int .i64 (-1),.int .i64 0] 202);exact ⟨_,rfl,⟨_,0,hs1,zAs _,.inl ⟨hnil,Bk.new _ _ _,Ha1.out.alloc _⟩⟩,hbB⟩
 · have hq1:((m:Int)+128 - 1)/ 128=1:=oM;have hne:bs≠ []:=(by intro e;have:=Hbl.out;rw [e] at this;simp at this;omega);have hb2:=Hb1.out.alloc hs1 (.cells #[w.heap.size,.slice none 0 0,.int .i64 (-1),.int .i64 0] 202);have ht2:=Bk.new w1 202 #[w.heap.size,.slice none 0 0,.int .i64 (-1),.int .i64 0];have ha2:=Ha1.out.alloc (.cells #[w.heap.size,.slice none 0 0,.int .i64 (-1),.int .i64 0] 202);have hr2:=((Hr.out.mono hB).below hb2).mono hb2.size;obtain ⟨w2,hw2⟩:=eqx (w1.alloc (.cells #[w.heap.size,.slice none 0 0,.int .i64 (-1),.int .i64 0] 202));obtain ⟨Ht2,Ha2,Hr2,Hb2⟩:=hqq4 ht2 ha2 hr2 hb2;clear ht2 ha2 hr2 hb2;go_wp2_with fail;rw [hw2] at Ht2 Ha2 Hr2 Hb2;clear hw2;refine (aGJ w1.heap.size w.heap.size 0 A m c w2.heap.size bs w2 Ht2.out Ha2.out Hr2.out nL hm hmc).mono ?_;rintro e w3 ⟨rfl,hk3,gl,cl,gb,hl,hgb⟩;have c2:=hl.tree.lt;have f2:=hl.tree.frozen 2;have c2':w3.cell? ⟨w1.heap.size,2,none⟩=some (.int .i64 (-1)):=(hl.tree.cell 2).trans rfl;obtain ⟨Hl,Hk3⟩:=hqq2 hl hk3;clear hl hk3;go_wp2_with fail;go_ret;have hset:∀b t cs,t≠202->Bk w3 b t cs->Bk (w3.setCell ⟨w1.heap.size,2,none⟩ (.int .i64 0)) b t cs:=fun b t cs ht h=>h.far (Bk.ne h Hl.out.tree ht) _;obtain ⟨A',c',h5,h6⟩:=Hl.out.arena;have hk3:Below w.heap.size w2 w3:=Hk3.out.to_below Hb2.out.size (fun b hb e=>by rcases e with e | e <;> omega);have hb4:Below w.heap.size w w3:=Hb2.out.trans hk3;have hs2:=Hb2.out.size;refine ⟨_,rfl,⟨_,0,hs1,zAs _,.inr ⟨hne,by rw [Hbl.out];exact hm,gl,cl,gb,by omega,Hl.out.tree.set 2 _,bF (aA Hl.out.row fun b cs _ h=>hset _ _ _ dC h) hs2,hset _ _ _ dC Hl.out.blk,A',c',hset _ _ _ dC h5,(oR h6 fun b cs h=>hset _ _ _ dC h).mono hs2⟩⟩,?_⟩;exact hb4.setCell hs1 _
end
section
def aN (l:List Nat) (p:Nat):Int:=match l[p]? with
 | some x=>(x:Int)
 | none=>-1
theorem aKs {l:List Nat} {p:Nat} (h:p < l.length):aN l p=(l[p]:Int):=by
 unfold aN;rw [zAa h]
theorem lA {l:List Nat} {p x:Nat} (h:l[p]?=some x):aN l p=(x:Int):=by
 unfold aN;rw [h]
theorem nK {l:List Nat} {p:Nat} (h:l.length<=p):aN l p=-1:=by
 unfold aN;rw [zBg h]
theorem kA {l:List Nat} {p:Nat} (h:p < l.length):0<=aN l p:=by
 rw [aKs h];omega
section
variable (a : Nat -> Int)
def eqW (w i j:Nat):Prop:=∀m,m < w->a (i+m)=a (j+m)
def ltW (w i j:Nat):Prop:=∃k,k < w/\(∀m,m < k->a (i+m)=a (j+m))/\a (i+k) < a (j+k)
variable {a}
theorem eqW.symm {w i j:Nat} (h:eqW a w i j):eqW a w j i:=fun m hm=>(h m hm).symm
theorem eqW.trans {w i j k:Nat} (h:eqW a w i j) (h':eqW a w j k):eqW a w i k:=fun m hm=>(h m hm).trans (h' m hm)
theorem eqW.refl (w i:Nat):eqW a w i i:=fun _ _=>rfl
theorem oS (w i j:Nat):ltW a w i j∨eqW a w i j∨ltW a w j i:=by
 induction w with
 | zero=>exact .inr (.inl fun m hm=>absurd hm oM)
 | succ w ih=>
   rcases ih with ⟨k,h1,h2⟩| h |⟨k,h1,h2⟩;exact .inl ⟨k,by omega,h2⟩;rcases Int.lt_trichotomy (a (i+w)) (a (j+w)) with h1 | h1 | h1;exact .inl ⟨w,by omega,h,h1⟩;refine .inr (.inl fun m hm=>?_);rcases zBe m w with h2 | h2;exact h m h2;have:m=w:=oM;subst this;exact h1;exact .inr (.inr ⟨w,by omega,h.symm,h1⟩);exact .inr (.inr ⟨k,by omega,h2⟩)
theorem ltW.not_eq {w i j:Nat} (h:ltW a w i j):¬eqW a w i j:=by
 obtain ⟨k,h1,h2,h3⟩:=h;intro he;have:=he k h1;omega
theorem ltW.trans {w i j k:Nat} (h:ltW a w i j) (h':ltW a w j k):ltW a w i k:=by
 obtain ⟨p,p1,p2,p3⟩:=h;obtain ⟨q,q1,q2,q3⟩:=h';rcases Nat.lt_trichotomy p q with e | e | e;exact ⟨p,p1,fun m hm=>(p2 m hm).trans (q2 m oM),by rw [<-q2 p e];exact p3⟩;subst e;exact ⟨p,p1,fun m hm=>(p2 m hm).trans (q2 m hm),Int.lt_trans p3 q3⟩;exact ⟨q,q1,fun m hm=>(p2 m oM).trans (q2 m hm),by rw [p2 q e];exact q3⟩
theorem ltW.irrefl {w i:Nat} (h:ltW a w i i):False:=h.not_eq (eqW.refl _ _)
theorem ltW.asymm {w i j:Nat} (h:ltW a w i j) (h':ltW a w j i):False:=(h.trans h').irrefl
theorem ltW.eq_right {w i j k:Nat} (h:ltW a w i j) (h':eqW a w j k):ltW a w i k:=by
 obtain ⟨p,p1,p2,p3⟩:=h;exact ⟨p,p1,fun m hm=>(p2 m hm).trans (h' m oM),by rw [<-h' p p1];exact p3⟩
theorem ltW.eq_left {w i j k:Nat} (h':eqW a w i j) (h:ltW a w j k):ltW a w i k:=by
 obtain ⟨p,p1,p2,p3⟩:=h;exact ⟨p,p1,fun m hm=>(h' m oM).trans (p2 m hm),by rw [h' p p1];exact p3⟩
theorem ltW.le_right {w i j k:Nat} (h:ltW a w i j) (h':¬ltW a w k j):ltW a w i k:=by
 rcases oS (a:=a) w j k with h1 | h1 | h1;exact h.trans h1;exact h.eq_right h1;exact absurd h1 h'
theorem aEK (w i j:Nat):eqW a (w+w) i j↔eqW a w i j/\eqW a w (i+w) (j+w):=by
 constructor
 · intro h;refine ⟨fun m hm=>h m oM,fun m hm=>?_⟩;have:=h (w+m) oM;rwa [<-Nat.add_assoc,<-Nat.add_assoc] at this
 · intro ⟨h1,h2⟩ m hm;rcases zBe m w with h | h;exact h1 m h
   · have:=h2 (m - w) oM;rwa [show i+w+(m - w)=i+m by omega,show j+w+(m - w)=j+m by omega] at this
theorem aEw (w i j:Nat):ltW a (w+w) i j↔ltW a w i j∨(eqW a w i j/\ltW a w (i+w) (j+w)):=by
 constructor
 · intro ⟨k,h1,h2,h3⟩;rcases zBe k w with h | h;exact .inl ⟨k,h,h2,h3⟩
   · refine .inr ⟨fun m hm=>h2 m oM,k - w,by omega,fun m hm=>?_,?_⟩
     · have:=h2 (w+m) oM;rwa [<-Nat.add_assoc,<-Nat.add_assoc] at this
     · rwa [show i+w+(k - w)=i+k by omega,show j+w+(k - w)=j+k by omega]
 · rintro (⟨k,h1,h2,h3⟩|⟨h0,k,h1,h2,h3⟩);exact ⟨k,by omega,h2,h3⟩
   · refine ⟨w+k,by omega,fun m hm=>?_,by rwa [<-Nat.add_assoc,<-Nat.add_assoc]⟩;rcases zBe m w with h | h;exact h0 m h
     · have:=h2 (m - w) oM;rwa [show i+w+(m - w)=i+m by omega,show j+w+(m - w)=j+m by omega] at this
def RankOk (a r:Nat->Int) (w:Nat):Prop:=∀i j,r i < r j↔ltW a w i j
theorem RankOk.eq {r:Nat->Int} {w:Nat} (h:RankOk a r w) (i j:Nat):r i=r j↔eqW a w i j:=by
 constructor;intro e;rcases oS (a:=a) w i j with h1 | h1 | h1;have:=(h i j).2 h1;omega;exact h1;have:=(h j i).2 h1;omega;intro e;have h1:¬(r i < r j):=fun x=>((h i j).1 x).not_eq e;have h2:¬(r j < r i):=fun x=>((h j i).1 x).not_eq e.symm;omega
def kQ (r:Nat->Int) (w i j:Nat):Int:=if r i≠r j then r i - r j else r (i+w) - r (j+w)
theorem vS {r:Nat->Int} {w:Nat} (h:RankOk a r w) (i j:Nat):kQ r w i j < 0↔ltW a (w+w) i j:=by
 unfold kQ;rw [aEw];by_cases e:r i=r j
 · rw [zBw (by simpa using e)];have h1:¬ltW a w i j:=fun x=>by have:=(h i j).2 x;omega
   have h2:=(h.eq i j).1 e;have h3:=h (i+w) (j+w);constructor;intro h4;exact .inr ⟨h2,h3.1 oM⟩;rintro (h4 |⟨_,h4⟩);exact absurd h4 h1;have:=h3.2 h4;omega
 rw [zBx e];have h3:=h i j;constructor;intro h4;exact .inl (h3.1 oM);rintro (h4 |⟨h4,_⟩);have:=h3.2 h4;omega;exact absurd ((h.eq i j).2 h4) e
theorem aJO {r:Nat->Int} {w:Nat} (h:RankOk a r w) (i j:Nat):kQ r w i j=0↔eqW a (w+w) i j:=by
 unfold kQ;rw [aEK];by_cases e:r i=r j;rw [zBw (by simpa using e)];constructor;intro h4;exact ⟨(h.eq i j).1 e,(h.eq _ _).1 oM⟩;intro ⟨_,h4⟩;have:=(h.eq _ _).2 h4;omega;rw [zBx e];constructor;intro h4;exact absurd (show r i=r j by omega) e;intro ⟨h4,_⟩;exact absurd ((h.eq i j).2 h4) e
def cN (o:Nat->Nat->Int) (f:Nat->Nat):Nat->Nat
 | 0=>0
 | i+1=>cN o f i+(if o (f i) (f (i+1))≠0 then 1 else 0)
theorem aJ8 (o:Nat->Nat->Int) (f:Nat->Nat) (i:Nat):cN o f i<=cN o f (i+1)/\cN o f (i+1)<=cN o f i+1:=by
 show cN o f i<=cN o f i+_/\cN o f i+_<=cN o f i+1;split <;> omega
theorem uO (o:Nat->Nat->Int) (f:Nat->Nat) (i d:Nat):cN o f i<=cN o f (i+d)/\cN o f (i+d)<=cN o f i+d:=by
 induction d with
 | zero=>exact ⟨zAs _,zAs _⟩
 | succ d ih=>
   have:=aJ8 o f (i+d);rw [<-Nat.add_assoc];omega
theorem aBC {o:Nat->Nat->Int} {f:Nat->Nat} {w n:Nat} (ho:∀i j,o i j=0↔eqW a w i j) (hs:∀i,i+1 < n->¬ltW a w (f (i+1)) (f i)) (i d:Nat) (hn:i+d < n):
 (cN o f i < cN o f (i+d)↔ltW a w (f i) (f (i+d)))/\¬ltW a w (f (i+d)) (f i):=by
 induction d with
 | zero=>exact ⟨⟨fun h=>absurd h (by simp),fun h=>h.irrefl.elim⟩,fun h=>h.irrefl⟩
 | succ d ih=>
   obtain ⟨h1,h2⟩:=ih oM;have h3:=hs (i+d) oM;have hm:=uO o f i d;have he:cN o f (i+(d+1))=cN o f (i+d)+(if o (f (i+d)) (f (i+d+1))≠0 then 1 else 0):=rfl;rw [show i+(d+1)=i+d+1 from rfl] at he⊢;have h4:¬ltW a w (f (i+d+1)) (f i):=fun h=>h3 (h.le_right h2);refine ⟨?_,h4⟩;by_cases hz:o (f (i+d)) (f (i+d+1))=0;have hq:=(ho _ _).1 hz;rw [he,zBw (by simpa using hz),zBq,h1];exact ⟨fun h=>h.eq_right hq,fun h=>h.eq_right hq.symm⟩;rw [he,zBx hz];refine ⟨fun _=>?_,fun _=>by omega⟩;have h5:ltW a w (f (i+d)) (f (i+d+1)):=(by rcases oS (a:=a) w (f (i+d)) (f (i+d+1)) with h | h | h;exact h;exact absurd ((ho _ _).2 h) hz;exact absurd h h3);rcases oS (a:=a) w (f i) (f (i+d)) with h | h | h;exact h.trans h5;exact ltW.eq_left h h5;exact absurd h h2
end
theorem aFu {l:List Nat} {w i j:Nat} (hw:l.length<=w) (hi:i < l.length) (hj:j < l.length) (hij:i≠j):¬eqW (aN l) w i j:=by
 intro h;rcases zBe i j with e | e;have h1:=h (l.length - j) oM;rw [nK (show l.length<=j+(l.length - j) by omega)] at h1;have:=kA (l:=l) (p:=i+(l.length - j)) oM;omega;have h1:=h (l.length - i) oM;rw [nK (show l.length<=i+(l.length - i) by omega)] at h1;have:=kA (l:=l) (p:=j+(l.length - i)) oM;omega
theorem aGh {l R:List Nat} {o:Nat->Nat->Int} {f:Nat->Nat} {w:Nat} (hw:0 < w) (ho:∀i j,o i j=0↔eqW (aN l) w i j) (hs:∀i,i+1 < l.length->¬ltW (aN l) w (f (i+1)) (f i))
 (hlen:R.length=l.length) (hR:∀i,i < l.length->R[f i]?=some (cN o f i)) (hsur:∀p,p < l.length->∃i,i < l.length/\f i=p):RankOk (aN l) (aN R) w:=by
 have main:∀i j,i < l.length->j < l.length->(aN R (f i) < aN R (f j)↔ltW (aN l) w (f i) (f j)):=by intro i j hi hj;rw [lA (hR i hi),lA (hR j hj)];rcases zBe i j with e | e;have:=(aBC ho hs i (j - i) oM).1;rw [show i+(j - i)=j by omega] at this;rw [<-this];omega;have h1:=aBC ho hs j (i - j) oM;rw [show j+(i - j)=i by omega] at h1;have h2:=(uO o f j (i - j)).1;rw [show j+(i - j)=i by omega] at h2;exact ⟨fun h=>absurd h oM,fun h=>absurd h h1.2⟩
 intro p q;rcases zBe p l.length with hp | hp;obtain ⟨i,hi,rfl⟩:=hsur p hp;rcases zBe q l.length with hq | hq;obtain ⟨j,hj,rfl⟩:=hsur q hq;exact main i j hi hj;have h1:=kA (l:=R) (p:=f i) (by rw [hlen];exact hp);have h2:=nK (l:=R) (p:=q) (by rw [hlen];exact hq);refine ⟨fun h=>absurd h oM,fun ⟨k,k1,k2,k3⟩=>?_⟩;exfalso;have h3:=kA (l:=l) (p:=f i) hp;rcases k with _ | k;rw [zBq,zBq,nK hq] at k3;omega;have:=k2 0 oM;rw [zBq,zBq,nK hq] at this;omega;have h2:=nK (l:=R) (p:=p) (by rw [hlen];exact hp);rcases zBe q l.length with hq | hq;have h1:=kA (l:=R) (p:=q) (by rw [hlen];exact hq);refine ⟨fun _=>⟨0,hw,fun m hm=>absurd hm oM,?_⟩,fun _=>by omega⟩;rw [zBq,zBq,nK hp];have:=kA (l:=l) (p:=q) hq;omega;have h1:=nK (l:=R) (p:=q) (by rw [hlen];exact hq);refine ⟨fun h=>absurd h oM,fun ⟨k,k1,k2,k3⟩=>?_⟩;rw [nK oM,nK oM] at k3;exact absurd k3 oM
theorem aKZ {a:Nat->Int} {o:Nat->Nat->Int} {f:Nat->Nat} {w n:Nat} (ho:∀i j,o i j=0↔eqW a w i j) (hs:∀i,i+1 < n->¬ltW a w (f (i+1)) (f i)) (hn:0 < n) (hl:cN o f (n - 1)=n - 1) (i j:Nat) (hij:i < j) (hj:j < n):ltW a w (f i) (f j):=by
 have h1:=uO o f 0 i;have h2:=uO o f i (j - i);have h3:=uO o f j (n - 1 - j);have h0:cN o f 0=0:=rfl;rw [zBi] at h1;rw [show i+(j - i)=j by omega] at h2;rw [show j+(n - 1 - j)=n - 1 by omega] at h3;have h4:=(aBC ho hs i (j - i) oM).1;rw [show i+(j - i)=j by omega] at h4;exact h4.1 oM
theorem aJ9 {o:Nat->Nat->Int} {f:Nat->Nat} {n:Nat} (h:∀i,i+1 < n->o (f i) (f (i+1))≠0) (i:Nat) (hi:i < n):cN o f i=i:=by
 induction i with
 | zero=>rfl
 | succ i ih=>
   show cN o f i+_=_;rw [zBx (h i hi),ih oM]
theorem aEe (l:List Nat):RankOk (aN l) (aN l) 1:=by
 intro i j;constructor;intro h;exact ⟨0,by omega,fun m hm=>absurd hm oM,h⟩;rintro ⟨k,h1,_,h3⟩;have:k=0:=oM;subst this;exact h3
end
end Go.Proofs.YthldmddkfbijhaaGreatDoor
