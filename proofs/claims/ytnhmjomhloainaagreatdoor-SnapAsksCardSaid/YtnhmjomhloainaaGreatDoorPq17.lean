/- Parts of the walk, joined from several texts. Conditions: what each lemma says. -/
import Derived.Test.YtnhmjomhloainaaGreatDoorPq16
import Derived.RangeFuncNested
import Derived.RangeFuncBound
import Derived.RangeFuncCalls
import Derived.RangeFuncLeaves
import Derived.Shelf.Abstract
import Derived.Shelf.RegionOpen
import Derived.OwnWalkIn
import Derived.TacticsInMore
import Derived.LoopNIn
import Derived.LoopIn
import Derived.RangeFuncFrom
set_option linter.all false
set_option maxRecDepth 100000
set_option maxHeartbeats 4000000
namespace Go.Proofs.YtnhmjomhloainaaGreatDoor
open Go.RowKit
theorem Gw.gw {F:Nat->Prop} {n m:Nat} (h:n<=m):∀b,Gw (Gw F n) m b->Gw F n b:=fun b hb=>by
 rcases hb with hb | hb;exact hb;exact .inr oM
theorem aCc (gt gk gb:Nat) (lv p:Int) (F:Nat->Prop) (bs:List Bool) (k:Nat) (b:Bool) (w:World) (ht:TreeE w F gt bs) (hk:Bk w gk 3 #[.int .i64 (k:Int)]) (hb:Bk w gb 4 #[.bool b]) (hl:bs.length<=127) (hkl:k<=bs.length):
 Calls Tryz.prog 199 #[.agg #[.pointer (some ⟨gt,0,none⟩),.int .i64 lv,.int .i64 p],.pointer (some ⟨gk,0,none⟩),.pointer (some ⟨gb,0,none⟩)] w fun e w'=>e=.returned (.tuple #[])/\TreeE w' (Gw F w.heap.size) gt (aQ bs k b)/\Keep F w w':=by
 have c1:w.cell? ⟨gk,0,none⟩=some (.int .i64 (k:Int)):=(hk.cell 0).trans rfl;have c2:w.cell? ⟨gb,0,none⟩=some (.bool b):=(hb.cell 0).trans rfl;have l1:=hk.lt;have l2:=hb.lt;have Ht:=lhd ht;clear ht hk hb;go_enter Tryz.func199,Tryz.ntmps199;go_wp2_with fail;refine (vY F gt k b bs _ (Ht.out.below (bR.alloc nL _)) hl hkl).mono ?_;rintro e w1 ⟨rfl,h1,h2⟩;have h3:Keep F w w1:=(Keep.of_below (bR.alloc nL _)).trans h2;have H1:=lhd (h1.mono (G:=Gw F w.heap.size) fun x _ f=>by
  rcases f with f | f;exact .inl f
  · simp at f;exact .inr oM)
 have H3:=lhd h3;clear h1 h2 h3;go_wp2_with fail;go_end0;exact ⟨rfl,H1.out,H3.out⟩
theorem aCh (gt gk gn:Nat) (lv p:Int) (x:Value) (F:Nat->Prop) (bs:List Bool) (k:Nat) (w:World) (ht:TreeE w F gt bs) (hk:Bk w gk 3 #[.int .i64 (k:Int)]) (hn:Bk w gn 4 #[x]) (hFn:¬F gn) (hkl:k < bs.length):
 Calls Tryz.prog 238 #[.agg #[.pointer (some ⟨gt,0,none⟩),.int .i64 lv,.int .i64 p],.pointer (some ⟨gk,0,none⟩),.pointer (some ⟨gn,0,none⟩)] w fun e w'=>e=.returned (.tuple #[])/\∃w1,TreeE w1 (Gw F w.heap.size) gt (aI bs k)/\Keep F w w1/\Bk w1 gn 4 #[x]/\w'=w1.setCell ⟨gn,0,none⟩ (.bool (bs.getD k false)):=by
 have c1:w.cell? ⟨gk,0,none⟩=some (.int .i64 (k:Int)):=(hk.cell 0).trans rfl;have l1:=hk.lt;have l2:=hn.lt;obtain ⟨bb,hbb⟩:∃b,bs.getD k false=b:=⟨_,rfl⟩;rw [hbb];obtain ⟨Hbb,Ht,Hn,Hkl⟩:=hqq4 hbb ht hn hkl;clear ht hk hn hbb hkl;go_enter Tryz.func238,Tryz.ntmps238;go_wp2_with fail;refine (vZ F gt k bs _ (Ht.out.below (bR.alloc nL _)) Hkl.out).mono ?_;rintro e w1 ⟨rfl,h1,h2⟩;rw [Hbb.out];have h3:Keep F w w1:=(Keep.of_below (bR.alloc nL _)).trans h2;have hn1:=h3.bk Hn.out hFn;have c3:w1.cell? ⟨gn,0,none⟩=some x:=(hn1.cell 0).trans rfl;have f3:=hn1.frozen 0;have hgn1:=hn1.lt;have H1:=lhd (h1.mono (G:=Gw F w.heap.size) fun x _ f=>by
  rcases f with f | f;exact .inl f
  · simp at f;exact .inr oM)
 obtain ⟨H3,Hn1⟩:=hqq2 h3 hn1;clear h1 h2 h3 hn1;go_wp2_with fail;go_end0;exact ⟨rfl,w1,H1.out,H3.out,Hn1.out,rfl⟩
theorem oY {w:World} {gt gv:Nat} {bs:List Bool} {cs:Array Value} (h:TreeAt w gt bs) (hv:Bk w gv 170 cs):gt≠gv:=by
 rintro rfl;obtain ⟨ga,v,⟨_,_,h2⟩|⟨_,_,_,_,_,h3⟩⟩:=h;exact absurd (aM h2 hv).1 dC;exact absurd (aM h3.tree hv).1 dC
theorem aFc (gv gt gk gb:Nat) (S:Nat->Value) (n v lv p:Int) (F:Nat->Prop) (bs:List Bool) (k:Nat) (b:Bool) (w:World) (hw:Bk w gv 170 (wcells S n v)) (ht:TreeE w F gt bs) (hFv:¬F gv) (hFs:∀x,F x->x < w.heap.size) (hk:Bk w gk 3 #[.int .i64 (k:Int)]) (hb:Bk w gb 4 #[.bool b]) (hl:bs.length<=127) (hkl:k<=bs.length):
 Calls Tryz.prog 127 #[.pointer (some ⟨gv,0,none⟩),.agg #[.pointer (some ⟨gt,0,none⟩),.int .i64 lv,.int .i64 p],.func (.func 199) #[] #[.pointer (some ⟨gk,0,none⟩),.pointer (some ⟨gb,0,none⟩)]] w fun e w'=>e=.returned (.tuple #[])/\
  TreeE w' (Gw F w.heap.size) gt (aQ bs k b)/\Keep (fun x=>F x∨x=gv) w w'/\∃v',Bk w' gv 170 (wcells S n v'):=by
 obtain ⟨o,ho⟩:=eqx (Obj.cells #[.pointer (some ⟨gt,0,none⟩),.int .i64 lv,.int .i64 p] 173);have hal:=(Below.refl w.heap.size w).alloc nL o;have hs1:=Bk.new w 173 #[.pointer (some ⟨gt,0,none⟩),.int .i64 lv,.int .i64 p];rw [ho] at hs1;have l4:=hw.lt;obtain ⟨Ht,Hk,Hb,Hw,HA,Hs,Ho,HFs⟩:=hqq8 ht hk hb hw hal hs1 ho hFs;clear ht hk hb hw hal hs1 ho hFs;go_enter Tryz.func127,Tryz.ntmps127;go_wp2_with fail;rw [Ho.out];refine (aCc gt gk gb lv p F bs k b _ (Ht.out.below HA.out) (Hk.out.alloc _) (Hb.out.alloc _) hl hkl).mono ?_;rintro e W ⟨rfl,ht2,hk2⟩;have hw2:=hk2.bk (Hw.out.alloc o) hFv;have hs2:=hk2.bk Hs.out (fun f=>by have:=HFs.out _ f;omega);have hkW:Keep F w W:=(Keep.of_below HA.out).trans hk2;have htE:TreeE W (Gw F w.heap.size) gt (aQ bs k b):=ht2.mono fun x _ f=>by rcases f with f | f;exact .inl f;simp at f;exact .inr oM
 obtain ⟨vt,hvt⟩:=htE.at.visits;have htlt:=htE.at.lt;have hslt:=hs2.lt;have hgs:=Bk.ne hw2 hs2 dC;have hgvt:=oY htE.at hw2;obtain ⟨Hw2,Hs2,HkW,HtE,Hvt⟩:=hqq5 hw2 hs2 hkW htE hvt;clear hw2 hs2 hkW htE hvt ht2 hk2 HA Ht Hk Hb Hw Hs;go_wp2_with fail;refine wp_region_any kR ?_;refine cB [9,10,11,12,13,14,15,16,17,18] (fun b=>b=gv) 10 [3,10] (fun w2=>Bk w2 gv 170 (wcells S n v)) (fun _ w2=>Bk w2 gv 170 (wcells S n (IntKind.i64.wrap (v+vt)))) [is (.pointer (some ⟨gv,0,none⟩)),is (.pointer (some ⟨gv,0,none⟩)),is (.pointer (some ⟨gv,10,none⟩)),is (.int .i64 v),is (.pointer (some ⟨w.heap.size,0,none⟩)),is (.pointer (some ⟨gt,0,none⟩)),is (.int .i64 vt),is (.int .i64 (IntKind.i64.wrap (v+vt))),is (.pointer (some ⟨gv,0,none⟩)),is (.pointer (some ⟨gv,10,none⟩)),dJ] _ _ rfl kR kR (Hw2.out) (fun w2 w3 h _ hg=>Bk.below h hg h.lt) (fun _ _ _ h k=>Bk.below h k h.lt) (by repeat' (first | exact cL _ _ | exact bV _ |(refine zAe.2 ⟨?_,?_⟩)|(intro p hp;cases hp))) ?_ ?_
 · refine aT ?_;refine pH3 0 (.pointer (some ⟨gv,0,none⟩)) ?_;refine pV3 0 9 ?_;refine pV3 1 10 ?_;refine sC3 (fun _ w5 _ hU _ _ _ hval _ _ _ hK=>?_) ?_
   · have hpre:=hU rfl;have e11:_=_:=hval 2 11 kR rfl;have c12:w5.cell? ⟨gv,10,none⟩=some (.int .i64 v):=(hpre.cell 10).trans (bH _ _ _).2.2.2.2.2.2.2.2.2.2;go_simp;exact kq hK rfl
   refine pH3 4 (.pointer (some ⟨w.heap.size,0,none⟩)) ?_;refine sC3 (fun _ w5 hS _ _ _ _ hval _ _ _ hK=>?_) ?_
   · replace hS:Keep (fun b=>b=gv) W w5:=kD hS;have e13:_=_:=hval 4 13 kR rfl;have c14:w5.cell? ⟨w.heap.size,0,none⟩=some (.pointer (some ⟨gt,0,none⟩)):=((hS.bk Hs2.out (fun h=>hgs (show w.heap.size=gv from h).symm)).cell 0).trans rfl;go_simp;exact kq hK rfl
   refine sC3 (fun _ w5 hS _ _ _ _ hval _ _ _ hK=>?_) ?_
   · replace hS:Keep (fun b=>b=gv) W w5:=kD hS;have e14:_=_:=hval 5 14 kR rfl;go_simp;refine (fA gt vt w5 ((hS.cell htlt hgvt).trans Hvt.out)).mono ?_;rintro e w8 ⟨rfl,hb8⟩;exact hK _ _ (aP hb8) rfl
   refine pW3 3 12 6 15 ?_;refine pV3 0 9 ?_;refine pV3 8 17 ?_;refine sC3 (fun _ w5 _ hU _ _ _ hval _ _ _ hK=>?_) ?_
   · have hpre:=hU rfl;have e18:_=_:=hval 9 18 kR rfl;have e16:_=_:=hval 7 16 kR rfl;have c12:w5.cell? ⟨gv,10,none⟩=some (.int .i64 v):=(hpre.cell 10).trans (bH _ _ _).2.2.2.2.2.2.2.2.2.2;have f12:=hpre.frozen 10;go_simp;refine hK (.bool true) _ (bG (Keep.setCell (F:=fun b=>b=gv) (Keep.refl _ _) (p:=⟨gv,10,none⟩) (.inl rfl) _)) ?_;have h9:=hpre.set 10 (.int .i64 (IntKind.i64.wrap (v+vt)));rw [cI] at h9;exact h9
   exact aG
 · intro ev w6 hS hval hall;replace hS:Keep (fun b=>b=gv) W w6:=kD hS;obtain ⟨vJ,pJ⟩:∃vJ0,(fun _ w2=>Bk w2 gv 170 (wcells S n (IntKind.i64.wrap (v+vt)))) vJ0 w6:=hall 10 dC;simp only [aO,zq1,zq2,Act.put,zq3,zq4,zq5];clear hval hall;have hw6:Bk w6 gv 170 (wcells S n (IntKind.i64.wrap (v+vt))):=pJ;have ht6:=HtE.out.keep hS fun x t cs hin hk _=>fun e=>by have e':x=gv:=e;subst e';rw [(aM hk Hw2.out).1] at hin;exact absurd hin dC
   have hk6:Keep (fun x=>F x∨x=gv) w w6:=(HkW.out.mono fun x _ f=>.inl f).trans (hS.mono fun x _ e=>.inr e);obtain ⟨Hw6,Ht6,Hk6⟩:=hqq3 hw6 ht6 hk6;clear pJ hw6 ht6 hk6 hS;go_wp2_with fail;go_end0;exact ⟨rfl,Ht6.out,Hk6.out,_,Hw6.out⟩
theorem aFe (gv gt gk gn:Nat) (S:Nat->Value) (n v lv p:Int) (x:Value) (F:Nat->Prop) (bs:List Bool) (k:Nat) (w:World) (hw:Bk w gv 170 (wcells S n v)) (ht:TreeE w F gt bs) (hFv:¬F gv) (hFn:¬F gn) (hFs:∀x,F x->x < w.heap.size) (hk:Bk w gk 3 #[.int .i64 (k:Int)]) (hn:Bk w gn 4 #[x]) (hgn:∀y,F y->y≠gn) (hkl:k < bs.length):
 Calls Tryz.prog 127 #[.pointer (some ⟨gv,0,none⟩),.agg #[.pointer (some ⟨gt,0,none⟩),.int .i64 lv,.int .i64 p],.func (.func 238) #[] #[.pointer (some ⟨gk,0,none⟩),.pointer (some ⟨gn,0,none⟩)]] w fun e w'=>e=.returned (.tuple #[])/\
  TreeE w' (Gw F w.heap.size) gt (aI bs k)/\Keep (fun x=>F x∨x=gv∨x=gn) w w'/\Bk w' gn 4 #[.bool (bs.getD k false)]/\∃v',Bk w' gv 170 (wcells S n v'):=by
 obtain ⟨bb,hbb⟩:∃b,bs.getD k false=b:=⟨_,rfl⟩;rw [hbb];have Hbb:=lhd hbb;clear hbb;obtain ⟨o,ho⟩:=eqx (Obj.cells #[.pointer (some ⟨gt,0,none⟩),.int .i64 lv,.int .i64 p] 173);have hal:=(Below.refl w.heap.size w).alloc nL o;have hs1:=Bk.new w 173 #[.pointer (some ⟨gt,0,none⟩),.int .i64 lv,.int .i64 p];rw [ho] at hs1;have l4:=hw.lt;have l5:=hn.lt;have n1:=Bk.ne hn hw dC;obtain ⟨Ht,Hk,Hn,Hw,HA,Hs,Ho,HFs,Hkl⟩:=hqq9 ht hk hn hw hal hs1 ho hFs hkl;clear ht hk hn hw hal hs1 ho hFs hkl;go_enter Tryz.func127,Tryz.ntmps127;go_wp2_with fail;rw [Ho.out];refine (aCh gt gk gn lv p x F bs k _ (Ht.out.below HA.out) (Hk.out.alloc _) (Hn.out.alloc _) hFn Hkl.out).mono ?_;rintro e w2 ⟨rfl,w1,ht2,hk2,hn1,rfl⟩;rw [Hbb.out];have hw1:=hk2.bk (Hw.out.alloc o) hFv;have hw2:=hw1.far (p:=⟨gn,0,none⟩) (fun h=>n1 h.symm) (.bool bb);have hs2:=(hk2.bk Hs.out (fun f=>by have:=HFs.out _ f;omega)).far (p:=⟨gn,0,none⟩) (fun h=>absurd (show w.heap.size=gn from h) oM) (.bool bb);have hn2:=hn1.set 0 (.bool bb);have hkW:Keep (fun y=>F y∨y=gn) w (w1.setCell ⟨gn,0,none⟩ (.bool bb)):=Keep.setCell (F:=fun y=>F y∨y=gn) (((Keep.of_below HA.out).trans hk2).mono fun y _ f=>.inl f) (p:=⟨gn,0,none⟩) (.inl (.inr rfl)) _;have htE1:TreeE w1 (Gw F w.heap.size) gt (aI bs k):=ht2.mono fun x _ f=>by rcases f with f | f;exact .inl f;simp at f;exact .inr oM
 have htE:TreeE (w1.setCell ⟨gn,0,none⟩ (.bool bb)) (Gw F w.heap.size) gt (aI bs k):=htE1.keep (G:=fun y=>y=gn) (Keep.setCell (F:=fun y=>y=gn) (Keep.refl _ _) (p:=⟨gn,0,none⟩) (.inl rfl) _) fun y t cs _ hk f=>fun e=>by rcases f with f | f;exact hgn y f e;have e':y=gn:=e;omega
 obtain ⟨W,hW⟩:=eqx (w1.setCell ⟨gn,0,none⟩ (.bool bb));rw [hW] at hw2 hs2 hn2 hkW htE⊢;obtain ⟨vt,hvt⟩:=htE.at.visits;have htlt:=htE.at.lt;have hslt:=hs2.lt;have hgs:=Bk.ne hw2 hs2 dC;have hgvt:=oY htE.at hw2;obtain ⟨Hw2,Hs2,Hn2,HkW,HtE,Hvt⟩:=hqq6 hw2 hs2 hn2 hkW htE hvt;clear hw2 hs2 hn2 hkW htE hvt ht2 hk2 HA Ht Hk Hn Hw Hs hW htE1 hw1 hn1;go_wp2_with fail;refine wp_region_any kR ?_;refine cB [9,10,11,12,13,14,15,16,17,18] (fun b=>b=gv) 10 [3,10] (fun w2=>Bk w2 gv 170 (wcells S n v)) (fun _ w2=>Bk w2 gv 170 (wcells S n (IntKind.i64.wrap (v+vt)))) [is (.pointer (some ⟨gv,0,none⟩)),is (.pointer (some ⟨gv,0,none⟩)),is (.pointer (some ⟨gv,10,none⟩)),is (.int .i64 v),is (.pointer (some ⟨w.heap.size,0,none⟩)),is (.pointer (some ⟨gt,0,none⟩)),is (.int .i64 vt),is (.int .i64 (IntKind.i64.wrap (v+vt))),is (.pointer (some ⟨gv,0,none⟩)),is (.pointer (some ⟨gv,10,none⟩)),dJ] _ _ rfl kR kR (Hw2.out) (fun w2 w3 h _ hg=>Bk.below h hg h.lt) (fun _ _ _ h k=>Bk.below h k h.lt) (by repeat' (first | exact cL _ _ | exact bV _ |(refine zAe.2 ⟨?_,?_⟩)|(intro p hp;cases hp))) ?_ ?_
 · refine aT ?_;refine pH3 0 (.pointer (some ⟨gv,0,none⟩)) ?_;refine pV3 0 9 ?_;refine pV3 1 10 ?_;refine sC3 (fun _ w5 _ hU _ _ _ hval _ _ _ hK=>?_) ?_
   · have hpre:=hU rfl;have e11:_=_:=hval 2 11 kR rfl;have c12:w5.cell? ⟨gv,10,none⟩=some (.int .i64 v):=(hpre.cell 10).trans (bH _ _ _).2.2.2.2.2.2.2.2.2.2;go_simp;exact kq hK rfl
   refine pH3 4 (.pointer (some ⟨w.heap.size,0,none⟩)) ?_;refine sC3 (fun _ w5 hS _ _ _ _ hval _ _ _ hK=>?_) ?_
   · replace hS:Keep (fun b=>b=gv) W w5:=kD hS;have e13:_=_:=hval 4 13 kR rfl;have c14:w5.cell? ⟨w.heap.size,0,none⟩=some (.pointer (some ⟨gt,0,none⟩)):=((hS.bk Hs2.out (fun h=>hgs (show w.heap.size=gv from h).symm)).cell 0).trans rfl;go_simp;exact kq hK rfl
   refine sC3 (fun _ w5 hS _ _ _ _ hval _ _ _ hK=>?_) ?_
   · replace hS:Keep (fun b=>b=gv) W w5:=kD hS;have e14:_=_:=hval 5 14 kR rfl;go_simp;refine (fA gt vt w5 ((hS.cell htlt hgvt).trans Hvt.out)).mono ?_;rintro e w8 ⟨rfl,hb8⟩;exact hK _ _ (aP hb8) rfl
   refine pW3 3 12 6 15 ?_;refine pV3 0 9 ?_;refine pV3 8 17 ?_;refine sC3 (fun _ w5 _ hU _ _ _ hval _ _ _ hK=>?_) ?_
   · have hpre:=hU rfl;have e18:_=_:=hval 9 18 kR rfl;have e16:_=_:=hval 7 16 kR rfl;have c12:w5.cell? ⟨gv,10,none⟩=some (.int .i64 v):=(hpre.cell 10).trans (bH _ _ _).2.2.2.2.2.2.2.2.2.2;have f12:=hpre.frozen 10;go_simp;refine hK (.bool true) _ (bG (Keep.setCell (F:=fun b=>b=gv) (Keep.refl _ _) (p:=⟨gv,10,none⟩) (.inl rfl) _)) ?_;have h9:=hpre.set 10 (.int .i64 (IntKind.i64.wrap (v+vt)));rw [cI] at h9;exact h9
   exact aG
 · intro ev w6 hS hval hall;replace hS:Keep (fun b=>b=gv) W w6:=kD hS;obtain ⟨vJ,pJ⟩:∃vJ0,(fun _ w2=>Bk w2 gv 170 (wcells S n (IntKind.i64.wrap (v+vt)))) vJ0 w6:=hall 10 dC;simp only [aO,zq1,zq2,Act.put,zq3,zq4,zq5];clear hval hall;have hw6:Bk w6 gv 170 (wcells S n (IntKind.i64.wrap (v+vt))):=pJ;have ht6:=HtE.out.keep hS fun x t cs hin hk _=>fun e=>by have e':x=gv:=e;subst e';rw [(aM hk Hw2.out).1] at hin;exact absurd hin dC
   have hn6:=hS.bk Hn2.out n1;have hk6:Keep (fun x=>F x∨x=gv∨x=gn) w w6:=(HkW.out.mono (G:=fun x=>F x∨x=gv∨x=gn) fun x _ f=>by
    rcases f with f | f;exact .inl f
    · exact .inr (.inr f)).trans (hS.mono fun x _ e=>.inr (.inl e))
   obtain ⟨Hw6,Ht6,Hn6,Hk6⟩:=hqq4 hw6 ht6 hn6 hk6;clear pJ hw6 ht6 hk6 hS hn6;go_wp2_with fail;go_end0;exact ⟨rfl,Ht6.out,Hk6.out,Hn6.out,_,Hw6.out⟩
end Go.Proofs.YtnhmjomhloainaaGreatDoor
namespace Go.Proofs.YtnhmjomhloainaaGreatDoor
open Go.RowKit Go.Shelf
theorem ShelfRow.same {w w':World} {B:Nat} {v:Value} {L:List Nat} {lv m:Nat} (h:ShelfRow w B v L lv m) (k:∀b t cs,Bk w b t cs->Bk w' b t cs):ShelfRow w' B v L lv m:=by
 obtain ⟨G,h1,h2⟩:=h;exact ⟨G,aB h1 fun b cs _ hb=>k _ _ _ hb,fun p hp=>⟨(h2 p hp).1,(h2 p hp).2.same fun b t cs _ hb=>k _ _ _ hb⟩⟩
theorem WalkAt.same {w w':World} {B gk:Nat} {L:List Nat} (h:WalkAt w B gk L) (k:∀b t cs,Bk w b t cs->Bk w' b t cs):WalkAt w' B gk L:=by
 obtain ⟨gv,gt,h1,⟨h0,S,v,h2,h3⟩,h4⟩:=h;exact ⟨gv,gt,k _ _ _ h1,⟨h0,S,v,k _ _ _ h2,fun lv hl=>(h3 lv hl).same k⟩,k _ _ _ h4⟩
def LvW (w:World) (B gl:Nat) (L:List Nat):Prop:=∃gk r1 r2 r3,Bk w gl 87 #[.pointer (some ⟨gk,0,none⟩),r1,r2,r3]/\WalkAt w B gk L
theorem LvW.vis {w w':World} {B gl:Nat} {L:List Nat} (h:LvW w B gl L) (k:Vis w w'):LvW w' B gl L:=by
 obtain ⟨gk,r1,r2,r3,h1,h2⟩:=h;exact ⟨gk,r1,r2,r3,k.bk h1 dC dC,h2.vis k⟩
theorem LvW.same {w w':World} {B gl:Nat} {L:List Nat} (h:LvW w B gl L) (k:∀b t cs,Bk w b t cs->Bk w' b t cs):LvW w' B gl L:=by
 obtain ⟨gk,r1,r2,r3,h1,h2⟩:=h;exact ⟨gk,r1,r2,r3,k _ _ _ h1,h2.same k⟩
theorem LvW.lt {w:World} {B gl:Nat} {L:List Nat} (h:LvW w B gl L):gl < w.heap.size:=by
 obtain ⟨gk,r1,r2,r3,h1,h2⟩:=h;exact h1.lt
theorem ShelfRow.sameT {w w':World} {B:Nat} {v:Value} {L:List Nat} {lv m:Nat} (h:ShelfRow w B v L lv m) (k:∀b t cs,t≠3->Bk w b t cs->Bk w' b t cs):ShelfRow w' B v L lv m:=by
 obtain ⟨G,h1,h2⟩:=h;exact ⟨G,aB h1 fun b cs _ hb=>k _ _ _ dC hb,fun p hp=>⟨(h2 p hp).1,(h2 p hp).2.same fun b t cs ht hb=>k _ _ _ (by rintro rfl;revert ht;decide) hb⟩⟩
theorem LvW.sameT {w w':World} {B gl:Nat} {L:List Nat} (h:LvW w B gl L) (k:∀b t cs,t≠3->Bk w b t cs->Bk w' b t cs):LvW w' B gl L:=by
 obtain ⟨gk,r1,r2,r3,h0,gv,gt,h1,⟨hB,S,v,h2,h3⟩,h4⟩:=h;exact ⟨gk,r1,r2,r3,k _ _ _ dC h0,gv,gt,k _ _ _ dC h1,⟨hB,S,v,k _ _ _ dC h2,fun lv hl=>(h3 lv hl).sameT k⟩,k _ _ _ dC h4⟩
theorem LvW.visI {w w':World} {B gl g:Nat} {x y:Value} {L:List Nat} (h:LvW w B gl L) (k:VisF (fun b=>b=g) w w') (hb:Bk w g 3 #[x]) (hb':Bk w' g 3 #[y]):LvW w' B gl L:=by
 have hg:Bk (w'.setCell ⟨g,0,none⟩ x) g 3 #[x]:=hb'.set 0 x;have hfar:∀b,b≠g->(w'.setCell ⟨g,0,none⟩ x).heap[b]?=w'.heap[b]?:=fun b hn=>heap_setCell_other w' ⟨g,0,none⟩ b x hn;have hu:Vis w (w'.setCell ⟨g,0,none⟩ x):=by refine ⟨k.os,k.tape,k.output,by simpa [World.setCell] using k.size,fun b hlt _=>?_⟩;by_cases e:b=g;subst e;exact .inl (hg.trans hb.symm);rcases k.block b hlt e with f |⟨cs,v,f,f'⟩|⟨cs,v,f,f'⟩;exact .inl ((hfar b e).trans f);exact .inr (.inl ⟨cs,v,f,(hfar b e).trans f'⟩);exact .inr (.inr ⟨cs,v,f,(hfar b e).trans f'⟩)
 refine (h.vis hu).sameT fun b t cs ht hbk=>?_;have e:b≠g:=fun e=>by subst e;exact ht (aM hbk hg).1
 exact (hfar b e).symm.trans hbk
theorem LiveAt.lvw {w:World} {Bw gl gk gp ga:Nat} {vl vo vt:Value} {B n rate:Nat} {L:List Nat} {C:List (Nat×Nat)} {tk:List Bool} (h:LiveAt w Bw gl gk gp ga vl vo vt B n rate L C tk):LvW w Bw gl L:=⟨gk,_,_,_,h.blk,h.walk⟩
theorem bQ (B gl:Nat) (L:List Nat) (n:Nat) (w:World) (h:LvW w B gl L) (hn:L.length=n+1) (hl:n<=1000000):
 Calls Tryz.prog 55 #[.pointer (some ⟨gl,0,none⟩)] w fun e w'=>e=.returned (.int .i64 (n:Int))/\w=w':=by
 obtain ⟨gk,r1,r2,r3,h1,h2⟩:=h;have c0:=h1.cell 0;have e1:IntKind.i64.wrap (((n+1:Nat):Int) - 1)=(n:Int):=by rw [IntKind.wrap_i64];omega
 clear h1;go_enter Tryz.func55,Tryz.ntmps55;go_wp2_with fail;refine (jT B gk L _ h2).mono ?_;rintro e w' ⟨rfl,rfl⟩;rw [hn];go_wp2_with fail;go_ret;exact ⟨fC oM,rfl⟩
theorem aEF (L:List Nat) (s:Nat) {a b:Nat} (h:a<=b):cE L s a<=cE L s b:=by
 unfold cE;have:=(List.take_sublist_take_left (l:=L) h).count_le s;omega
theorem tO (L:List Nat) (s k:Nat):cE L s k<=L.length:=by
 unfold cE;have h1:=(List.take_sublist k L).count_le s;have h2:L.countP (fun x=>decide (x < s))+L.count s<=L.length:=by
  induction L with
  | nil=>simp
  | cons x l ih=>
    have:=ih ((List.take_sublist k l).count_le s);rw [zBn,List.count_cons];by_cases h:x < s;have:¬x=s:=oM;simp [h,this];omega;by_cases h':x=s;simp [h,h'];omega;simp [h,h'];omega
 omega
attribute [local go_sem] Oper.semAt_some
section
variable {P : Program} {ops : Array Oper} {md : Region.Mode} {Q : Exit -> Act -> World -> Prop} {l n : Nat}
theorem aD8 {o:Oper} {a:Act} {K:Act->World->Prop} {r:Result Next} (h:o.upon P a K Q r):o.uponIn (Fence.wide.inRound l) n P a K Q r:=by
 cases r with
 | ok x w=>
   cases x with
   | value v=>exact h
   | skip=>exact h
   | defer d=>exact h
   | enter f args=>
     refine ⟨fun h=>(by simp [Fence.wide] at h),CallsIn.inRound l (callsIn_wide.2 (Calls.mono h ?_))⟩;intro e w' he;cases e <;> exact he
   | row row args=>
     refine ⟨fun h=>(by simp [Fence.wide] at h),fun c cs _=>?_⟩;obtain ⟨v,w',hr,hs⟩:=h c cs;exact ⟨v,w',hr,stepsIn_wide.2 hs⟩
   | _=>exact h.elim
 | halt x w=>cases x <;> exact h
theorem aCn (hno:¬LetsOut Q) (hd:∀(i:Nat) (o:Oper),ops[i]?=some o->∀c,o.op≠.defer c):∀(f:Nat) (listed:Array Bool) (a:Act) (w:World),wpAny P md ops Q f listed a w->wpAnyIn (Fence.wide.inRound l) n P md ops Q f listed a w:=by
 intro f
 induction f with
 | zero=>intro listed a w h;exact h
 | succ f ih=>
   intro listed a w h;refine ⟨h.1,fun i hi=>?_⟩;have h1:=h.2 i hi;unfold wpOp at h1;unfold wpOpIn;cases ho:ops[i]? with
   | none=>
     rw [ho] at h1;exact ih _ _ _ h1
   | some o=>
     rw [ho] at h1;simp only at h1⊢;by_cases hw:Region.wanted o (yielded ops a.tmps)=true;rw [zBx hw] at h1⊢;rcases h1 with h1 | h1;refine ⟨fun _ _=>trivial,?_⟩;rw [Oper.semAt_eq _ _ _ (hd i o ho)];exact aD8 (Oper.wp_mono (fun a w=>ih _ a w) h1);exact absurd h1.2 hno;rw [zBw hw] at h1⊢;exact ⟨fun _ _=>trivial,ih _ _ _ h1⟩
end
def KpB (b1 b2:Nat) (W W':World):Prop:=∀p:Addr,(p.block=b1∨p.block=b2)->W'.cell? p=W.cell? p
theorem KpB.trans {b1 b2:Nat} {A B C:World} (h:KpB b1 b2 A B) (k:KpB b1 b2 B C):KpB b1 b2 A C:=fun p hp=>(k p hp).trans (h p hp)
def bkL (zs:List UInt8) (k:Nat):List (Nat×UInt8):=(List.range k).map fun i=>(zs.length - 1 - i,zs.getD (zs.length - 1 - i) 0)
theorem aGT (zs:List UInt8) (k:Nat):bkL zs (k+1)=bkL zs k++ [(zs.length - 1 - k,zs.getD (zs.length - 1 - k) 0)]:=by simp [bkL,List.range_succ]
theorem aHU (zs:List UInt8) (k:Nat):(bkL zs k).length=k:=by simp [bkL]
theorem aAT (F:Fence) (n:Nat) (hf:F.fn 249) (hro:F.round=none) (hn:1<=n) (l Bs b off cap:Nat) (A:Option Addr) (zs:List UInt8) (hA:0 < zs.length->A=some ⟨b,off,none⟩) (hreach:zs.length<=1000000) (J Jx:List (Nat×UInt8)->World->Prop)
 (hY:∀pre x W,J pre W->pre.length < zs.length->YieldAt F (n - 1) Tryz.prog l #[.int .i64 (x.1:Int),.int .u8 (x.2.toNat:Int)] W fun e W'=>
  (e=.returned (.bool true)/\J (pre++ [x]) W'/\KpB Bs b W W')∨(e=.returned (.bool false)/\Jx (pre++ [x]) W'))
 (W:World) (hBs:W.cell? ⟨Bs,0,none⟩=some (.slice A zs.length cap)) (hc:∀j,j < zs.length->W.cell? ⟨b,off+j,none⟩=some (.int .u8 ((zs.getD j 0).toNat:Int))) (h0:J [] W):
 CallsIn F n Tryz.prog 249 #[.func (.yield l) #[] #[],.pointer (some ⟨Bs,0,none⟩)] W fun e W'=>(∃v,e=.returned v)/\
  ((∃ys,ys=bkL zs zs.length/\J ys W')∨(∃pre,True/\Jx pre W')):=by
 obtain ⟨len,hlen⟩:=eqx zs.length;rw [hlen] at hBs hreach;obtain ⟨HA,Hlen,HY,Hc,HB,H0⟩:=hqq6 hA hlen hY hc hBs h0;clear hlen hY hc h0 hA;refine callsIn_of_wp Tryz.func249 rfl hf ?_ hro;simp only [Tryz.ntmps249,List.size_toArray,zCf,List.length_nil,Nat.reduceAdd,Nat.reduceSub,Array.replicate_succ,Array.replicate_zero,List.push_toArray,List.append_toArray,List.nil_append,List.cons_append]
 gi_wp2
 clear hBs
 gi_loopw [3] (fun i wr=>∃r:Nat,r<=len/\i=.int .i64 ((r:Int) - 1)/\J (bkL zs (len - r)) wr/\KpB Bs b W wr) (fun i _=>(intOf i+1).toNat)
 case atStart=>exact ⟨len,zAs _,rfl,by rw [Nat.sub_self];exact H0.out,fun _ _=>rfl⟩
 case round=>
  obtain ⟨r,hr,rfl,hJ,hk⟩:=hrel;rcases r with _ | j
  · have e:((0:Nat):Int) - 1=-1:=oM;rw [e];rw [Nat.sub_zero] at hJ;have HJ:=lhd hJ;clear hJ hk
    gi_wp2
    go_end0;exact ⟨⟨_,rfl⟩,.inl ⟨_,rfl,by rw [Hlen.out];exact HJ.out⟩⟩
  · have e:((j+1:Nat):Int) - 1=(j:Int):=oM;rw [e];have hbk:bkL zs (len - j)=bkL zs (len -(j+1))++ [(j,zs.getD j 0)]:=(by rw [show len - j=(len -(j+1))+1 by omega,aGT,Hlen.out,show len - 1 -(len -(j+1))=j by omega]);have hcB:=(hk ⟨Bs,0,none⟩ (.inl rfl)).trans HB.out;rw [HA.out (by rw [Hlen.out];omega)] at hcB;have hcj:=(hk ⟨b,off+j,none⟩ (.inr rfl)).trans (Hc.out j (by rw [Hlen.out];omega));have hjl:j < len:=oM;obtain ⟨x,hx⟩:=eqx (zs.getD j 0);rw [hx] at hcj hbk;obtain ⟨fn,tmps,assign,body,hy,hR⟩:=HY.out (bkL zs (len -(j+1))) (j,x) wr hJ (by rw [aHU,Hlen.out];omega);dsimp only at hy;obtain ⟨Hbk,Hk⟩:=hqq2 hbk hk;clear hbk hk hJ e hx
    gi_wp2
    refine hR.mono ?_;rintro e W3 (⟨rfl,hJ3,hk3⟩|⟨rfl,hJx3⟩)
    · obtain ⟨HJ3,Hk3⟩:=hqq2 hJ3 hk3;clear hJ3 hk3
      gi_wp2
      go_roundw
      case rel=>exact ⟨j,by omega,rfl,by rw [Hbk.out];exact HJ3.out,Hk.out.trans Hk3.out⟩
      case measure=>simp [intOf]
    · have HJ3:=lhd hJx3;clear hJx3
      gi_wp2
      refine bodyPost_ret (results_none rfl _ _ _) rfl ?_;exact ⟨⟨_,rfl⟩,.inr ⟨_,trivial,HJ3.out⟩⟩
end Go.Proofs.YtnhmjomhloainaaGreatDoor
namespace Go.Proofs.YtnhmjomhloainaaGreatDoor
def Pq (l:List Nat) (b:Bool):List Nat->Nat->Bool
 | [],_=>b
 | s::q,p=>decide (aN l p < (s:Int))||(decide (aN l p=(s:Int))&&Pq l b q (p+1))
def rD (l:List Nat):List Nat->Nat->Bool
 | [],_=>true
 | s::q,p=>decide (aN l p=(s:Int))&&rD l q (p+1)
theorem aAA (l:List Nat) (b:Bool) (s:Nat) (q:List Nat) (p:Nat):Pq l b (s::q) p=(decide (aN l p < (s:Int))||(decide (aN l p=(s:Int))&&Pq l b q (p+1))):=rfl
theorem yR (l:List Nat) (s:Nat) (q:List Nat) (p:Nat):rD l (s::q) p=(decide (aN l p=(s:Int))&&rD l q (p+1)):=rfl
theorem gM (l:List Nat) (p q:Nat):sufLt l p q↔aN l p < aN l q∨(aN l p=aN l q/\sufLt l (p+1) (q+1)):=by
 constructor
 · rintro ⟨w,k,hk,h1,h2⟩;rcases k with _ | k;exact .inl h2
   · refine .inr ⟨h1 0 oM,w,k,by omega,fun m hm=>?_,?_⟩
     · have:=h1 (m+1) oM;rwa [show p+(m+1)=p+1+m by omega,show q+(m+1)=q+1+m by omega] at this
     · rwa [show p+(k+1)=p+1+k by omega,show q+(k+1)=q+1+k by omega] at h2
 · rintro (h |⟨h0,w,k,hk,h1,h2⟩);exact ⟨1,0,by omega,fun m hm=>absurd hm oM,h⟩
   · refine ⟨w+1,k+1,by omega,fun m hm=>?_,?_⟩
     · rcases m with _ | m;exact h0
       · have:=h1 m oM;rwa [show p+(m+1)=p+1+m by omega,show q+(m+1)=q+1+m by omega]
     · rwa [show p+(k+1)=p+1+k by omega,show q+(k+1)=q+1+k by omega]
theorem aAz {l:List Nat} {b:Bool} (q:List Nat):∀ {p p':Nat},sufLt l p' p->Pq l b q p=true->Pq l b q p'=true:=by
 induction q with
 | nil=>intro p p' _ h;exact h
 | cons s q ih=>
   intro p p' hlt h;unfold Pq at h⊢;simp only [Bool.or_eq_true,zBd,zCa] at h⊢;rcases (gM l p' p).1 hlt with h1 |⟨h1,h2⟩;rcases h with h |⟨h,_⟩;exact .inl oM;exact .inl oM;rcases h with h |⟨h,h3⟩;exact .inl oM;exact .inr ⟨by omega,ih h2 h3⟩
theorem rA {R:Nat->Nat->Prop} {P:Nat->Bool} {rs:List Nat} (hs:rs.Pairwise R) (hd:∀x y,R x y->P y=true->P x=true):rs.take (rs.countP P)=rs.filter P:=by
 induction rs with
 | nil=>rfl
 | cons x l ih=>
   obtain ⟨h1,h2⟩:=List.pairwise_cons.1 hs;rw [zBn,List.filter_cons];by_cases hx:P x=true
   · simp only [hx,if_true];rw [List.take_succ_cons,ih h2]
   · have h0:∀y∈l,¬P y=true:=fun y hy hp=>hx (hd x y (h1 y hy) hp);have hc:l.countP P=0:=List.countP_eq_zero.2 h0;have hf:l.filter P= []:=List.filter_eq_nil_iff.2 h0;simp [hx,hc,hf]
def Nq (l:List Nat) (b:Bool) (q:List Nat):Nat:=(List.range l.length).countP (Pq l b q)
theorem IsSuf.count {l rs:List Nat} (h:IsSuf l rs) (P:Nat->Bool):rs.countP P=(List.range l.length).countP P:=h.perm.countP_eq P
theorem aH9 (l:List Nat) (b:Bool) (q:List Nat):Nq l b q<=l.length:=by
 unfold Nq;have:=zBh (p:=Pq l b q) (l:=List.range l.length);simpa using this
theorem aCu {l rs:List Nat} (h:IsSuf l rs) (b:Bool) (q:List Nat) (s:Nat):((aE l rs).take (Nq l b q)).count s=(List.range l.length).countP (fun p=>decide (bT l p=s)&&Pq l b q p):=by
 have e1:Nq l b q=rs.countP (Pq l b q):=(h.count _).symm;rw [e1,aE,<-List.map_take,rA h.sorted (fun x y hxy hy=>aAz q hxy hy),<-h.count,List.count_eq_countP,List.countP_map,List.countP_filter];refine List.countP_congr fun p _=>?_;simp [Function.comp,and_comm]
theorem bW {l:List Nat} (h:0 < l.length):bT l 0=l.getD (l.length - 1) 0:=by
 unfold bT;rw [zBi,zBu oM]
theorem bE {l:List Nat} {p:Nat} (h:p+1 < l.length):bT l (p+1)=l.getD p 0:=by
 unfold bT;rw [show p+1+l.length - 1=p+l.length by omega,Nat.add_mod_right,zBu oM]
theorem eM {l:List Nat} {p:Nat} (h:p < l.length):aN l p=((l.getD p 0:Nat):Int):=by
 rw [aH7 h,zAb,zAa h];rfl
theorem fR {m:Nat} (f:Nat->Bool) (g:Nat->Bool) (h0:f 0=g m) (h1:∀p,p < m->f (p+1)=g p):(List.range (m+1)).countP f=(List.range (m+1)).countP g:=by
 rw [List.range_succ_eq_map,zBn,List.countP_map,<-List.range_succ_eq_map,List.range_succ,List.countP_append,zBn,List.countP_nil,zBi,h0];congr 1;refine List.countP_congr fun p hp=>?_;have hp':p < m:=by simpa using hp
 simp [Function.comp,h1 p hp']
theorem rM {α:Type} (l:List α) (f g:α->Bool) (h:∀x∈l,¬(f x=true/\g x=true)):l.countP (fun x=>f x||g x)=l.countP f+l.countP g:=by
 induction l with
 | nil=>rfl
 | cons x l ih=>
   rw [zBn,zBn,zBn,ih (fun y hy=>h y (by simp [hy]))];have:=h x (by simp);cases hf:f x <;> cases hg:g x <;> simp_all <;> omega
structure EndOk (l:List Nat) (m:Nat):Prop where
 len:l.length=m+1
 last:l.getD m 0=0
 pos:∀p,p < m->0 < l.getD p 0
theorem aDS {l rs:List Nat} {m:Nat} (h:IsSuf l rs) (he:EndOk l m) (b:Bool) (q:List Nat) (s:Nat) (hs:0 < s):cE (aE l rs) s (Nq l b q)=Nq l b (s::q):=by
 have hlen:=he.len;unfold cE;rw [aCu h];have e1:(aE l rs).countP (fun x=>decide (x < s))=(List.range (m+1)).countP (fun p=>decide (l.getD p 0 < s)):=by
  rw [aE,List.countP_map,h.count,hlen];refine fR _ _ ?_ fun p hp=>?_
  · show decide (bT l 0 < s)=_;rw [bW oM,hlen,zBb]
  · show decide (bT l (p+1) < s)=_;rw [bE oM]
 have e2:(List.range l.length).countP (fun p=>decide (bT l p=s)&&Pq l b q p)=(List.range (m+1)).countP (fun p=>decide (l.getD p 0=s)&&Pq l b q (p+1)):=by
  rw [hlen];refine fR _ _ ?_ fun p hp=>?_;show (decide (bT l 0=s)&&_)=(decide (l.getD m 0=s)&&_);rw [bW oM,hlen,zBb,he.last];have:decide (0=s)=false:=(by simp;omega);rw [this];rfl
  · show (decide (bT l (p+1)=s)&&_)=_;rw [bE oM]
 rw [e1,e2,<-rM]
 · unfold Nq;rw [hlen];refine List.countP_congr fun p hp=>?_;have hp':p < m+1:=(by simpa using hp);rw [aAA,eM oM];have f1:decide (((l.getD p 0:Nat):Int) < (s:Int))=decide (l.getD p 0 < s):=(by rw [decide_eq_decide];omega);have f2:decide (((l.getD p 0:Nat):Int)=(s:Int))=decide (l.getD p 0=s):=(by rw [decide_eq_decide];omega);rw [f1,f2]
 intro p _;simp only [zBd,zCa];rintro ⟨h1,h2,_⟩;omega
theorem aIJ (l:List Nat):Nq l false []=0/\Nq l true []=l.length:=by
 constructor;unfold Nq;exact List.countP_eq_zero.2 fun _ _ h=>by simp [Pq] at h
 · unfold Nq;have:=(List.countP_eq_length (p:=Pq l true []) (l:=List.range l.length)).2 (fun _ _=>rfl);rw [this];simp
theorem dZ (t:List UInt8):EndOk (aD t) t.length:=by
 refine ⟨aJ t,?_,fun p hp=>?_⟩
 · unfold aD dE;rw [zAb,zAo (by simp)];simp
 · unfold aD dE;rw [zAb,zAn (by simpa using hp),zAf,zAa hp];simp
theorem aGZ (l:List Nat) (q:List Nat):∀p,Pq l true q p=(Pq l false q p||rD l q p)/\¬(Pq l false q p=true/\rD l q p=true):=by
 induction q with
 | nil=>intro p;exact ⟨rfl,fun h=>by simp [Pq] at h⟩
 | cons s q ih=>
   intro p;obtain ⟨h1,h2⟩:=ih (p+1);rw [aAA,aAA,yR,h1];by_cases h3:aN l p < (s:Int)
   · have:¬aN l p=(s:Int):=oM;simp [h3,this]
   · by_cases h4:aN l p=(s:Int);have e3:decide (aN l p < (s:Int))=false:=(by simpa using h3);have e4:decide (aN l p=(s:Int))=true:=(by simpa using h4);rw [e3,e4,Bool.false_or,Bool.true_and,Bool.false_or,Bool.true_and,Bool.true_and];exact ⟨rfl,h2⟩
     · simp [h3,h4]
def occ (l:List Nat) (q:List Nat):Nat:=(List.range l.length).countP (rD l q)
theorem aG0 (l:List Nat) (q:List Nat):Nq l true q=Nq l false q+occ l q:=by
 unfold Nq occ;rw [<-rM _ _ _ fun p _=>(aGZ l q p).2];exact List.countP_congr fun p _=>by rw [(aGZ l q p).1]
end Go.Proofs.YtnhmjomhloainaaGreatDoor
namespace Go.Proofs.YtnhmjomhloainaaGreatDoor
open Go.RowKit
def jK (k:IntKind) (n:Nat) (f:Nat->Nat):Array Value:=((List.range n).map fun i=>Value.int k ((f i:Nat):Int)).toArray
theorem kL (k:IntKind) (n:Nat) (f:Nat->Nat):(jK k n f).size=n:=by simp [jK]
theorem fL {k:IntKind} {n:Nat} {f:Nat->Nat} {i:Nat} (h:i < n):(jK k n f)[i]?=some (.int k ((f i:Nat):Int)):=by
 unfold jK;rw [zCu,zAf,zCj h];rfl
theorem rP {k:IntKind} {n:Nat} {f:Nat->Nat} {i:Nat} (h:¬i < n):(jK k n f)[i]?=none:=Array.getElem?_eq_none (by rw [kL];omega)
theorem cX {k:IntKind} {n:Nat} {f g:Nat->Nat} (h:∀i,i < n->f i=g i):jK k n f=jK k n g:=by
 unfold jK;congr 1;exact List.map_congr_left fun i hi=>by rw [h i (zCi.1 hi)]
theorem kM {k:IntKind} {n:Nat} {f:Nat->Nat} {i v:Nat} (h:i < n):(jK k n f).setIfInBounds i (.int k ((v:Nat):Int))=jK k n (fun j=>if j=i then v else f j):=by
 apply Array.ext_getElem?;intro j;rw [zCd,kL];by_cases hj:j < n
 · rw [fL hj,fL hj];by_cases e:i=j
   · subst e;rw [zBx rfl,zBx hj,zBx rfl]
   · rw [zBw e,zBw (fun h=>e h.symm)]
 · rw [rP hj,rP hj];by_cases e:i=j
   · subst e;rw [zBx rfl,zBw hj]
   · rw [zBw e]
theorem nQ (k:IntKind) (n:Nat):Array.replicate n (Value.int k 0)=jK k n (fun _=>0):=by
 apply Array.ext_getElem?;intro j;by_cases hj:j < n;rw [fL hj,Array.getElem?_replicate,zBx hj];rfl
 · rw [rP hj,Array.getElem?_replicate,zBw hj]
theorem aE1 (k:IntKind) (n:Nat) (f:Nat->Nat):(jK k n f).toList=(List.range n).map fun i=>Value.int k ((f i:Nat):Int):=rfl
end Go.Proofs.YtnhmjomhloainaaGreatDoor
namespace Go.Proofs.YtnhmjomhloainaaGreatDoor
open Go.RowKit Go.Shelf
attribute [local go_sem] Oper.semAt_some
theorem aAS (A:Option Addr) (n c:Nat) (w:World):
 Calls Tryz.prog 215 #[.slice A n c] w fun e w'=>e=.returned (.func (.func 249) #[] #[.pointer (some ⟨w.heap.size,0,none⟩)])/\w'=w.alloc (.cells #[.slice A n c] 23):=by
 go_enter Tryz.func215,Tryz.ntmps215;go_wp2_with fail;go_ret;exact ⟨rfl,rfl⟩
def lU (L:List Nat) (x:Nat×Nat) (c:UInt8):Nat×Nat:=(cE L (c.toNat+1) x.1,cE L (c.toNat+1) x.2)
def nY (L:List Nat) (p:List UInt8):Nat×Nat:=p.reverse.foldl (lU L) (0,L.length)
theorem aHH (L:List Nat) (q:List UInt8):∀x:Nat×Nat,x.1<=x.2->x.2<=L.length->(q.foldl (lU L) x).1<=(q.foldl (lU L) x).2/\(q.foldl (lU L) x).2<=L.length:=by
 induction q with
 | nil=>intro x h1 h2;exact ⟨h1,h2⟩
 | cons c q ih=>intro x h1 h2;exact ih _ (aEF L _ h1) (tO L _ _)
theorem aHV (zs:List UInt8):(bkL zs zs.length).map (·.2)=zs.reverse:=by
 apply List.ext_getElem
 · simp [bkL]
 · intro i h1 h2;have hi:i < zs.length:=(by simpa [bkL] using h1);simp [bkL,List.getElem_reverse,hi,show zs.length - 1 - i < zs.length by omega]
def aDQ (o:Oper):Bool:=match o.op with
 | .defer _=>false
 | _=>true
theorem aGe {ops:Array Oper} (h:ops.toList.all aDQ=true):∀(i:Nat) (o:Oper),ops[i]?=some o->∀c,o.op≠.defer c:=by
 intro i o ho c he;have:=zBf.1 h o (Array.mem_toList_iff.2 (Array.mem_of_getElem? ho));unfold aDQ at this;rw [he] at this;cases this
structure FInv (w0:World) (Bw gl gb glo gs b3:Nat) (sl:Value) (L:List Nat) (pre:List (Nat×UInt8)) (W:World):Prop where
 lo:Bk W glo 3 #[.int .i64 ((((pre.map (·.2)).foldl (lU L) (0,L.length)).1:Nat):Int)]
 hi:Bk W (glo+1) 3 #[.int .i64 ((((pre.map (·.2)).foldl (lU L) (0,L.length)).2:Nat):Int)]
 lv:LvW W Bw gl L
 box:Bk W gb 26 #[.pointer (some ⟨gl,0,none⟩)]
 bs:Bk W gs 23 #[sl]
 dat:∃t cs,Bk W b3 t cs/\t∈ [5,23]
 vis:VB Bw w0 W
theorem FInv.own {w0:World} {Bw gl gb glo gs b3 B:Nat} {sl:Value} {L:List Nat} (hB:w0.heap.size<=B):OwnFrom B (fun pre W=>FInv w0 Bw gl gb glo gs b3 sl L pre W):=by
 intro s W W' row h hg hr;have hbk:∀b t cs,Bk W b t cs->Bk W' b t cs:=by intro b t cs hb;refine (hg.block b hb.lt fun e=>?_).trans hb;obtain ⟨_,o,ho,hc⟩:=hr b e.symm;unfold Bk at hb;rw [hb] at ho;injection ho with ho;subst ho;cases hc
 obtain ⟨t,cs,h6,h7⟩:=h.dat;refine ⟨hbk _ _ _ h.lo,hbk _ _ _ h.hi,h.lv.same hbk,hbk _ _ _ h.box,hbk _ _ _ h.bs,⟨t,cs,hbk _ _ _ h6,h7⟩,⟨hg.os.trans h.vis.1.os,hg.tape.trans h.vis.1.tape,hg.output.trans h.vis.1.output,zAk h.vis.1.size hg.size,fun b hb hn=>?_⟩,⟨hg.os.trans h.vis.1.os,hg.tape.trans h.vis.1.tape,hg.output.trans h.vis.1.output,zAk h.vis.1.size hg.size,fun b hb hn=>(hg.block b (zAl hb h.vis.1.size) fun e=>?_).trans (h.vis.2.block b hb hn)⟩⟩;rcases h.vis.1.block b hb hn with e |⟨cs,v,e,e'⟩|⟨cs,v,e,e'⟩;refine .inl ((hg.block b (zAl hb h.vis.1.size) fun e=>?_).trans e);have:=(hr b e.symm).1;omega;exact .inr (.inl ⟨cs,v,e,hbk _ _ _ e'⟩);exact .inr (.inr ⟨cs,v,e,hbk _ _ _ e'⟩);have:=(hr b e.symm).1;omega
theorem xJ {F:Nat->Prop} {w w':World} (h:VisF F w w') (hf:∀b o,F b->w.heap[b]?=some o->o.isCells=true):KeepsOthers w w':=by
 refine ⟨h.size,fun b o hb ho=>?_⟩;by_cases f:F b
 · rw [hf b o f hb] at ho;cases ho
 · have hlt:b < w.heap.size:=(zAh.1 hb).1;rcases h.block b hlt f with e |⟨cs,v,e,_⟩|⟨cs,v,e,_⟩;exact e.trans hb
   · unfold Bk at e;rw [hb] at e;injection e with e;subst e;cases ho
   · unfold Bk at e;rw [hb] at e;injection e with e;subst e;cases ho
theorem aAP (Bw gl:Nat) (L:List Nat) (n:Nat) (A0:Option Addr) (m0 c0 B:Nat) (ss:List Sl) (p:List UInt8) (N:Nat) (hT:gD ss=p) (hN:p.length=N) (w:World) (h:LvW w Bw gl L) (hn:L.length=n+1) (hl:n<=900) (hL:∀x∈L,x < 257) (hr0:Rd w B 1 A0 m0 (ss.map slV)) (hss:∀s∈ss,Rd w B 1 s.A s.n (s.l.map bv)) (hB:B<=w.heap.size) (hm:m0<=1000000) (hp:N<=1000000):
 Calls Tryz.prog 166 #[.pointer (some ⟨gl,0,none⟩),.slice A0 m0 c0] w fun e w'=>e=.returned (.tuple #[.int .i64 (((nY L p).1:Nat):Int),.int .i64 (((nY L p).2:Nat):Int)])/\VB Bw w w':=by
 refine (callsIn_wide (n:=6)).1 ?_;refine callsIn_of_wp_marks Tryz.func166 rfl trivial ?_ rfl;simp only [Tryz.ntmps166,List.size_toArray,zCf,List.length_nil,Nat.reduceAdd,Nat.reduceSub,Array.replicate_succ,Array.replicate_zero,List.push_toArray,List.append_toArray,List.nil_append,List.cons_append];refine wpIn_wide.2 ?_;have hgl:=h.lt;obtain ⟨H,HL,Hr0,Hss⟩:=hqq4 h hL hr0 hss;clear h hL hr0 hss;go_wp2_with fail;have hv1:Below w.heap.size w (w.alloc (.cells #[.pointer (some ⟨gl,0,none⟩)] 26)):=bR.alloc nL _;refine (bQ Bw gl L n _ (H.out.vis (Vis.of_below hv1)) hn oM).mono ?_;rintro e w' ⟨rfl,rfl⟩;have e1:IntKind.i64.wrap ((n:Int)+1)=((n+1:Nat):Int):=by rw [IntKind.wrap_i64];omega
 obtain ⟨n1,hn1⟩:=eqx (n+1);have e2:(n:Int)+1=(n1:Int):=oM;have hbb:=Bk.new w 26 #[.pointer (some ⟨gl,0,none⟩)];obtain ⟨gb,hgb⟩:∃g,w.heap.size=g:=⟨_,rfl⟩;rw [hgb] at hbb;rw [hgb];generalize w.alloc (.cells #[.pointer (some ⟨gl,0,none⟩)] 26)=w1 at hv1 hbb⊢;obtain ⟨Hv1,Hbb,Hn1,Hn⟩:=hqq4 hv1 hbb hn1 hn;clear hv1 hbb hn1 hn hgb;go_wp2_with fail;have hlo:=(Bk.new w1 3 #[.int .i64 0]).alloc (.cells #[.int .i64 (n1:Int)] 3);have hhi:=Bk.new (w1.alloc (.cells #[.int .i64 0] 3)) 3 #[.int .i64 (n1:Int)];rw [World.size_alloc] at hhi;have hb12:Below w1.heap.size w1 ((w1.alloc (.cells #[.int .i64 0] 3)).alloc (.cells #[.int .i64 (n1:Int)] 3)):=(bR.alloc nL _).alloc (by simp) _;obtain ⟨glo,hglo⟩:∃g,w1.heap.size=g:=⟨_,rfl⟩;rw [hglo] at hlo hhi;rw [hglo];generalize (w1.alloc (.cells #[.int .i64 0] 3)).alloc (.cells #[.int .i64 (n1:Int)] 3)=w2 at hlo hhi hb12⊢;have hv2:=Hv1.out.trans (hb12.mono Hv1.out.size);have hbb2:=Hbb.out.below hb12 Hbb.out.lt;have hgl1:w.heap.size<=glo:=by rw [<-hglo];exact Hv1.out.size
 have hgb1:gb < glo:=by rw [<-hglo];exact Hbb.out.lt
 have hcat:=lL A0 m0 c0 B ss p N hT hN w2 (Hr0.out.keep fun q hq=>hv2.cell oM) (fun s hs=>(Hss.out s hs).keep fun q hq=>hv2.cell oM) (by have:=hv2.size;omega) oM oM;obtain ⟨Hlo,Hhi,Hv2,Hbb2⟩:=hqq4 hlo hhi hv2 hbb2;clear hlo hhi hb12 hv2 hbb2 hglo e1 e2;refine hcat.mono ?_;clear hcat;rintro e w3 ⟨A3,c3,rfl,hm3,hb3⟩;obtain ⟨Hm3,Hb3⟩:=hqq2 hm3 hb3;clear hm3 hb3;go_wp2_with fail;refine (aAS A3 N c3 w3).mono ?_;rintro e w4 ⟨rfl,hw4⟩;have hbs:=Bk.new w3 23 #[.slice A3 N c3];rw [<-hw4] at hbs;have hb34:Below w3.heap.size w3 w4:=hw4 ▸bR.alloc nL _;have hz34:w4.heap.size=w3.heap.size+1:=by rw [hw4];simp
 obtain ⟨gs,hgs⟩:∃g,w3.heap.size=g:=⟨_,rfl⟩;rw [hgs] at hbs;rw [hgs];have Hgs:=lhd hgs;clear hw4 hgs;have hlo4:=(Hlo.out.below Hb3.out Hlo.out.lt).below hb34 (zAl Hlo.out.lt Hb3.out.size);have hhi4:=(Hhi.out.below Hb3.out Hhi.out.lt).below hb34 (zAl Hhi.out.lt Hb3.out.size);have hbb4:=(Hbb2.out.below Hb3.out Hbb2.out.lt).below hb34 (zAl Hbb2.out.lt Hb3.out.size);have hv4:Below w.heap.size w w4:=(Hv2.out.trans (Hb3.out.mono Hv2.out.size)).trans (hb34.mono (by have:=Hv2.out.size;have:=Hb3.out.size;omega));have hm4:=Hm3.out.below hb34;obtain ⟨Hlo4,Hhi4,Hbb4,Hv4,Hm4,Hbs⟩:=hqq6 hlo4 hhi4 hbb4 hv4 hm4 hbs;clear hlo4 hhi4 hbb4 hv4 hm4 hbs hb34 Hlo Hhi Hv2 Hbb2 Hm3;go_wp2_with fail;obtain ⟨b3,hb3⟩:∃b3,(∀b off,A3=some ⟨b,off,none⟩->0 < N->b=b3)/\∃t cs,Bk w4 b3 t cs/\t∈ [5,23]:=by rcases Hm4.out.own.2 with ⟨e,e0⟩|⟨g,cap,cur,e,_,hg,_⟩;exact ⟨gs,fun b off _ h0=>by omega,_,_,Hbs.out,by simp⟩;injection e with e;exact ⟨g,fun b off h _=>by rw [e] at h;injection h with h;injection h with h _;exact h.symm,_,_,hg,by simp⟩
 have hN0:0 < N->A3=some ⟨b3,0,none⟩:=by
  intro h0;rcases Hm4.out.own.2 with ⟨e,e0⟩|⟨g,cap,cur,e,_,hg,_⟩;omega
  · injection e with e;rw [e,hb3.1 g 0 e h0]
 have hcells:∀j,j < p.length->w4.cell? ⟨b3,0+j,none⟩=some (.int .u8 ((p.getD j 0).toNat:Int)):=by intro j hj;have hr:=Hm4.out.rd;obtain ⟨b,off,e,_,hc⟩:=hr.2 oM;rw [hN0 oM] at e;injection e with e;injection e with e1 e2;subst e1 e2;refine hc j _ ?_;rw [zAf,zAa hj];simp [bv,zAb,zAa hj]
 have hseq:SeqStopsK Fence.wide (6 - 1) Tryz.prog 249 #[.pointer (some ⟨gs,0,none⟩)] (fun x:Nat×UInt8=>#[.int .i64 (x.1:Int),.int .u8 (x.2.toNat:Int)]) (KpB gs b3) (fun ys=>ys=bkL p p.length) (fun _=>True) N w4:=by intro l J Jx W hW hJ hJx hY h0;have hd:=hb3.2;obtain ⟨t,cs,hd1,hd2⟩:=hd;exact aAT Fence.wide (6 - 1) trivial rfl oM l gs b3 0 c3 A3 p (fun h=>hN0 oM) oM J Jx (fun pre x W1 h1 h2=>hY pre x W1 h1 oM) W (by rw [hN];exact (Hbs.out.below hW Hbs.out.lt).cell 0) (fun j hj=>(hW.cell (p:=⟨b3,0+j,none⟩) hd1.lt).trans (hcells j hj)) h0
 have hI0:FInv w Bw gl gb glo gs b3 (.slice A3 N c3) L [] w4:=⟨Hlo4.out,by
  have:=Hhi4.out;rw [show (([]:List (Nat×UInt8)).map (·.2)).foldl (lU L) (0,L.length)=(0,L.length) from rfl,Hn.out,Hn1.out];exact this,H.out.vis (Vis.of_below Hv4.out),Hbb4.out,Hbs.out,hb3.2,VisK.of_below Hv4.out⟩
 have hgs4:=Hbs.out.lt;have hb34:=hb3.2;obtain ⟨HI0,Hseq⟩:=hqq2 hI0 hseq;have hglo4:=Hhi4.out.lt;obtain ⟨t4,cs4,hd4,hd5⟩:=hb34;have hd4l:=hd4.lt;clear hseq hI0 hcells hN0 hb3 hd4 hd5 Hlo4 Hhi4 Hbb4 Hm4 Hbs;refine (wpIn_wide (n:=6)).1 ?_
 refine wpIn_rangeFunc_ownF (F:=Fence.wide) (n:=6) rfl oM (gf:=249) (lb:=#[.pointer (some ⟨gs,0,none⟩)]) rfl trivial (enters_of Tryz.func249 kR rfl) Hseq.out (fun h k=>h.trans k)
  (fun W l o o' hl ho _ _ q hq=>World.cell?_of_block (World.putObj_heap_other (fun e=>by rcases hq with hq | hq <;> omega))) bR (fun _=>rfl)
  (fun pre W=>FInv w Bw gl gb glo gs b3 (.slice A3 N c3) L pre W) (fun _ _ _=>False) (FInv.own Hv4.out.size) (fun _ _ _ _ _ hs _ _=>hs) HI0.out
  (fun x=> { tmps:=#[.pointer (some ⟨gl,0,none⟩),.slice A0 m0 c0,.pointer (some ⟨gb,0,none⟩),undef,.int .i64 0,.int .i64 0,.pointer (some ⟨glo,0,none⟩),.pointer (some ⟨glo+1,0,none⟩),undef,.int .u8 (x.2.toNat:Int),.pointer (some ⟨gl,0,none⟩),.bool false,.pointer (some ⟨gl,0,none⟩),.int .i64 (n:Int),.int .i64 (n1:Int),.slice A0 m0 c0,.slice A3 N c3,.func (.func 249) #[] #[.pointer (some ⟨gs,0,none⟩)],.int .i64 (x.1:Int),.int .u8 (x.2.toNat:Int),undef,undef,undef,undef,undef,undef,undef,undef,undef,undef,undef,undef,undef,undef],defers:= [] }) ?assign ?body ?done ?stop
 case assign=>
  intro l x W K hK
  gi_wp2
  exact hK
 case body=>
  rintro l pre ⟨ix,c⟩ W hI _;obtain ⟨gk,r1,r2,r3,hlb,hwk⟩:=hI.lv;obtain ⟨lo,hlo⟩:=eqx (((pre.map (·.2)).foldl (lU L) (0,L.length)).1);obtain ⟨hi,hhi⟩:=eqx (((pre.map (·.2)).foldl (lU L) (0,L.length)).2);have hfo:=aHH L (pre.map (·.2)) (0,L.length) (zAp _) nL;rw [hlo,hhi] at hfo;obtain ⟨na,ha⟩:∃a,cE L (c.toNat+1) lo=a:=⟨_,rfl⟩;obtain ⟨nb,hb⟩:∃b,cE L (c.toNat+1) hi=b:=⟨_,rfl⟩;have hlo':=hI.lo;have hhi':=hI.hi;rw [hlo] at hlo';rw [hhi] at hhi';obtain ⟨Hl,Hwk,Hlo,Hhi,Hbx,Hle⟩:=hqq6 hlb hwk hlo' hhi' hI.box hfo;have Hab:Hid (cE L (c.toNat+1) lo=na/\cE L (c.toNat+1) hi=nb):=lhd ⟨ha,hb⟩;have HI:=lhd hI;have Hlh:Hid (((pre.map (·.2)).foldl (lU L) (0,L.length))=(lo,hi)):=lhd (by rw [<-hlo,<-hhi]);clear hlb hwk hlo' hhi' hfo ha hb hI hlo hhi HI0 Hseq
  gi_wp2
  refine wpIn_region_any kR ?_;refine aCn (fun ⟨_,_,h⟩=>h) (aGe kR) _ _ _ _ ?_;refine cK Bw 13 [21,22,23,24,25,26,27,28,29,20,30,31] (fun b=>b=glo) 12 [0,1,2,3,4,5,6,7,8,9,10,12] (fun w2=>VB Bw W w2) (fun _ w2=>Bk w2 glo 3 #[.int .i64 (na:Int)]) [is (.pointer (some ⟨gl,0,none⟩)),is (.pointer (some ⟨gl,0,none⟩)),is (.pointer (some ⟨gl,0,none⟩)),is (.pointer (some ⟨gk,0,none⟩)),is (.int .i64 (lo:Int)),is (.int .i64 (hi:Int)),is (.int .u8 (c.toNat:Int)),is (.int .i64 ((c.toNat+1:Nat):Int)),is (.tuple #[.int .i64 (na:Int),.int .i64 (nb:Int)]),is (.tuple #[.int .i64 (na:Int),.int .i64 (nb:Int)]),is (.int .i64 (na:Int)),is (.int .i64 (nb:Int)),dJ] _ _ rfl dC kR kR kR (VisK.of_below bR.drew) (fun _ _ h _ k=>h.trans k) (fun _ _ _ h k=>k.1.bk h dC dC) (by repeat' (first | exact cA _ _ | exact bS _ |(refine zAe.2 ⟨?_,?_⟩)|(intro p hp;cases hp))) ?_ ?_
  · refine cC ?_;refine sC3 (fun ev w5 _ hU _ _ hold _ _ _ _ hK=>?_) ?_
    · have hpre:=hU rfl;have e2:ev (.tmp 2)=.pointer (some ⟨gb,0,none⟩):=hold 2 kR;replace hpre:VB Bw W w5:=(by first|exact hpre|exact bD hpre);have c9:=(hpre.1.bk Hbx.out dC dC).cell 0;go_simp;exact hK _ _ (aH vR) rfl
    refine sC3 (fun _ w5 _ hU _ _ _ hval _ _ _ hK=>?_) ?_
    · have hpre:=hU rfl;have e21:_=_:=hval 0 21 kR rfl;replace hpre:VB Bw W w5:=(by first|exact hpre|exact bD hpre);have c9:=(hpre.1.bk Hl.out dC dC).cell 0;go_simp;exact hK _ _ (aH vR) rfl
    refine sC3 (fun _ w5 _ hU _ _ _ hval _ _ _ hK=>?_) ?_
    · have hpre:=hU rfl;have e22:_=_:=hval 1 22 kR rfl;replace hpre:VB Bw W w5:=(by first|exact hpre|exact bD hpre);have c9:=(hpre.1.bk Hl.out dC dC).cell 0;go_simp;exact hK _ _ (aH vR) rfl
    refine sC3 (fun _ w5 _ hU _ _ _ hval _ _ _ hK=>?_) ?_
    · have hpre:=hU rfl;have e23:_=_:=hval 2 23 kR rfl;replace hpre:VB Bw W w5:=(by first|exact hpre|exact bD hpre);have c9:=(hpre.1.bk Hl.out dC dC).cell 0;go_simp;exact hK _ _ (aH vR) rfl
    refine sC3 (fun ev w5 _ hU _ _ hold _ _ _ _ hK=>?_) ?_
    · have hpre:=hU rfl;have e6:ev (.tmp 6)=.pointer (some ⟨glo,0,none⟩):=hold 6 kR;replace hpre:VB Bw W w5:=(by first|exact hpre|exact bD hpre);have c9:=(hpre.1.bk Hlo.out dC dC).cell 0;go_simp;exact hK _ _ (aH vR) rfl
    refine sC3 (fun ev w5 _ hU _ _ hold _ _ _ _ hK=>?_) ?_
    · have hpre:=hU rfl;have e7:ev (.tmp 7)=.pointer (some ⟨glo+1,0,none⟩):=hold 7 kR;replace hpre:VB Bw W w5:=(by first|exact hpre|exact bD hpre);have c9:=(hpre.1.bk Hhi.out dC dC).cell 0;go_simp;exact hK _ _ (aH vR) rfl
    refine sC3 (fun ev _ _ hU _ _ hold _ _ _ _ hK=>?_) ?_
    · have hpre:=hU rfl;have e9:ev (.tmp 9)=.int .u8 (c.toNat:Int):=hold 9 kR;go_simp;exact hK _ _ (aH vR) rfl
    refine sC3 (fun _ w5 _ hU _ _ _ hval _ _ _ hK=>?_) ?_
    · have hpre:=hU rfl;have e27:_=_:=hval 6 27 kR rfl;go_simp;refine (rR c w5).mono ?_;rintro e w8 ⟨rfl,hb8⟩;exact hK _ _ (aH (VisK.of_below hb8)) rfl
    refine sC3 (fun _ w5 _ hU _ _ _ hval _ _ _ hK=>?_) ?_
    · have hpre:=hU rfl;have e24:_=_:=hval 3 24 kR rfl;have e25:_=_:=hval 4 25 kR rfl;have e26:_=_:=hval 5 26 kR rfl;have e28:_=_:=hval 7 28 kR rfl;replace hpre:VB Bw W w5:=(by first|exact hpre|exact bD hpre);go_simp;refine (vU Bw gk L lo hi (c.toNat+1) w5 (Hwk.out.vis hpre.1) (by have:=c.toNat_lt;omega) Hle.out.1 Hle.out.2 HL.out (by rw [Hn.out];omega)).mono ?_;rintro e w8 ⟨rfl,hv8⟩;rw [Hab.out.1,Hab.out.2];exact hK _ _ (aH hv8) rfl
    refine sC3 (fun _ _ _ hU _ _ _ hval _ _ _ hK=>?_) ?_
    · have hpre:=hU rfl;have e29:_=_:=hval 8 29 kR rfl;go_simp;exact hK _ _ (aH vR) rfl
    refine sC3 (fun _ _ _ hU _ _ _ hval _ _ _ hK=>?_) ?_
    · have hpre:=hU rfl;have e20:_=_:=hval 9 20 kR rfl;go_simp;exact hK _ _ (aH vR) rfl
    refine pV3 9 20 ?_;refine sC3 (fun ev w5 _ hU _ _ hold hval _ _ _ hK=>?_) ?_
    · have hpre:=hU rfl;have e6:ev (.tmp 6)=.pointer (some ⟨glo,0,none⟩):=hold 6 kR;have e30:_=_:=hval 10 30 kR rfl;replace hpre:VB Bw W w5:=(by first|exact hpre|exact bD hpre);have k9:=hpre.1.bk Hlo.out dC dC;have c9:=k9.cell 0;have f9:=k9.frozen 0;go_simp;exact hK (.bool true) _ (lT (VFB.put (F:=fun b=>b=glo) (VFB.of_vb vR) (p:=⟨glo,0,none⟩) (.inl rfl) _)) (k9.set 0 _)
    exact aG
  · intro ev w6 f hS hval hall;replace hS:VFB Bw (fun b=>b=glo) W w6:=fD hS;have e31:ev (.tmp 31)=.int .i64 (nb:Int):=hval 11 31 dC rfl;obtain ⟨vJ,pJ0⟩:=hall 12 dC;have pJ:(fun _ w2=>Bk w2 glo 3 #[.int .i64 (na:Int)]) vJ w6:=pJ0;clear pJ0 hall;simp only [aO,zq1,zq2,Act.put,zq3,zq4,zq5];rw [e31];clear hval;have k13:=hS.1.bk Hhi.out dC dC (fun e=>by omega);have c13:=k13.cell 0;have f13:=k13.frozen 0;change wpAny Tryz.prog Region.Mode.any _ _ (1+f) (cF 13 14) _ w6;rw [zCq 1 f];refine bZ (f:=f) (i:=13) kR ?_;refine cJ rfl rfl ?_;generalize hK:wpAny Tryz.prog _ _ _ f _=K5;go_simp;subst hK;refine cM kR ?_;have hfold:((pre++ [(ix,c)]).map (·.2)).foldl (lU L) (0,L.length)=(na,nb):=(by rw [zAz,List.foldl_append,Hlh.out];show (cE L (c.toNat+1) lo,cE L (c.toNat+1) hi)=_;rw [Hab.out.1,Hab.out.2]);have hz:w.heap.size<=glo:=hgl1;have hne:glo≠glo+1:=oM;have hset0:VFB Bw (fun b=>b=glo∨b=glo+1) W (w6.setCell ⟨glo+1,0,none⟩ (.int .i64 (nb:Int))):=(by exact VFB.put (hS.wider fun b e=>.inl e) (.inl (.inr rfl)) _);have hset:=hset0.1;have hI:=HI.out;obtain ⟨t,cs,hd1,hd2⟩:=hI.dat;have hdt:t≠223/\t≠170/\t≠3:=by simp at hd2;rcases hd2 with rfl | rfl <;> decide
    have hblk:∀b t cs,Bk W b t cs->t≠223->t≠170->t≠3->Bk (w6.setCell ⟨glo+1,0,none⟩ (.int .i64 (nb:Int))) b t cs:=fun b t cs hb h1 h2 h3=>hset.bk hb h1 h2 (fun f=>by
        rcases f with f | f;subst f;exact h3 (aM hb Hlo.out).1
        · subst f;exact h3 (aM hb Hhi.out).1)
    have hlv6:=hI.lv.visI hS.1 Hlo.out pJ;change KeepsOthers W _/\KpB gs b3 W _/\FInv w Bw gl gb glo gs b3 (.slice A3 N c3) L (pre++ [(ix,c)]) _;refine ⟨xJ hset (fun b o f ho=>?_),?_,?_,?_,?_,hblk _ _ _ hI.box dC dC dC,hblk _ _ _ hI.bs dC dC dC,⟨t,cs,hblk _ _ _ hd1 hdt.1 hdt.2.1 hdt.2.2,hd2⟩,?_⟩;rcases f with f | f;subst f;have:=Hlo.out;unfold Bk at this;rw [ho] at this;injection this with this;subst this;rfl;subst f;have:=Hhi.out;unfold Bk at this;rw [ho] at this;injection this with this;subst this;rfl
    · intro q hq;rcases hq with hq | hq
      · have e1:=(hblk _ _ _ hI.bs dC dC dC).trans hI.bs.symm;rw [<-hq] at e1;exact World.cell?_of_block e1
      · have e1:=(hblk _ _ _ hd1 hdt.1 hdt.2.1 hdt.2.2).trans hd1.symm;rw [<-hq] at e1;exact World.cell?_of_block e1
    rw [hfold];exact pJ.far (p:=⟨glo+1,0,none⟩) hne _;rw [hfold];exact k13.set 0 _;exact hlv6.sameT fun b t cs ht hb=>hb.far (p:=⟨glo+1,0,none⟩) (fun e=>by subst e;exact ht (aM hb k13).1) _;have h1:VFB Bw (fun b=>b=glo∨b=glo+1) w W:=VFB.of_vb hI.vis;exact (h1.trans hset0).to_vb (fun b hb f=>by rcases f with f | f <;> omega)
 case done=>
  rintro D ys W hD rfl hI hK;have c1:=hI.lo.cell 0;have c2:=hI.hi.cell 0;rw [aHV] at c1 c2;change W.cell? ⟨glo,0,none⟩=some (.int .i64 (((nY L p).1:Nat):Int)) at c1;change W.cell? ⟨glo+1,0,none⟩=some (.int .i64 (((nY L p).2:Nat):Int)) at c2;obtain ⟨r1,hr1⟩:∃r,(nY L p).1=r:=⟨_,rfl⟩;obtain ⟨r2,hr2⟩:∃r,(nY L p).2=r:=⟨_,rfl⟩;rw [hr1] at c1;rw [hr2] at c2;obtain ⟨Hv,HK⟩:=hqq2 hI.vis hK;have HR:Hid ((nY L p).1=r1/\(nY L p).2=r2):=lhd ⟨hr1,hr2⟩;clear hI HI0 Hseq hr1 hr2 hK;go_wp2_with fail;go_quiet (fail);go_wp2_with fail;have HK':(W.drewN nq).heap[D]?=some (.deferred (some [])):=HK.out;refine ⟨by simp,.inl ⟨_,_,rfl,run_takeDeferred HK',?_⟩⟩;refine ⟨_,results_tmp2 rfl _ _ _,by rw [HR.out.1,HR.out.2];rfl,?_⟩;have hv:=Hv.out;have hbD:∀b,b < w.heap.size->((W.drewN nq).putObj D (.deferred none)).heap[b]?=W.heap[b]?:=fun b hb=>World.putObj_heap_other (by have:=Hv4.out.size;omega);have hz:w.heap.size<=((W.drewN nq).putObj D (.deferred none)).heap.size:=by have:=hv.1.size;simpa using this
  refine ⟨⟨hv.1.os,hv.1.tape,hv.1.output,hz,fun b hb hn=>?_⟩,⟨hv.1.os,hv.1.tape,hv.1.output,hz,fun b hb hn=>(hbD b hb).trans (hv.2.block b hb hn)⟩⟩;rcases hv.1.block b hb hn with e |⟨cs,v,e,e'⟩|⟨cs,v,e,e'⟩;exact .inl ((hbD b hb).trans e);exact .inr (.inl ⟨cs,v,e,(hbD b hb).trans e'⟩);exact .inr (.inr ⟨cs,v,e,(hbD b hb).trans e'⟩)
 case stop=>intro D c pre W _ _ h _;exact h.elim
end Go.Proofs.YtnhmjomhloainaaGreatDoor
