/- Lemmas of the walk. Conditions: each its own. -/
import Derived.Test.YthldmddkfbijhaaGreatDoorPsr11
import Derived.Test.YthldmddkfbijhaaGreatDoorPsr15
import Derived.Test.YthldmddkfbijhaaGreatDoorProg
import Derived.Test.YthldmddkfbijhaaGreatDoorShl
import Derived.Test.YthldmddkfbijhaaGreatDoorSht
set_option linter.all false
set_option maxRecDepth 100000
set_option maxHeartbeats 4000000
namespace Go.Proofs.YthldmddkfbijhaaGreatDoor
section
open Go.RowKit Go
section
variable {P : Program} {ops : Array Oper} {Q : Exit -> Act -> World -> Prop} {md : Region.Mode}
end
section
variable {B : Nat} {F : Nat -> Prop} {w w1 w' : World}
theorem VFB.wider {G:Nat->Prop} (h:VFB B F w w') (hf:∀b,F b->G b):VFB B G w w':=⟨⟨h.1.os,h.1.tape,h.1.output,h.1.size,fun b hb hn=>h.1.block b hb (fun f=>hn (hf b f))⟩,h.2.mono fun b _ f=>f.elim (fun f=>.inl (hf b f)) .inr⟩
end
theorem kB {B:Nat} {F:Nat->Prop} {J:Nat} {w w':World} (h:VFB B F w w'):aDd B F J J w w':=⟨fun _=>h,fun e=>absurd rfl e⟩
end
section
open Go.RowKit Go.Shelf
theorem ShelfRow.sameT {w w':World} {B:Nat} {v:Value} {L:List Nat} {lv m:Nat} (h:ShelfRow w B v L lv m) (k:∀b t cs,t≠3->Bk w b t cs->Bk w' b t cs):ShelfRow w' B v L lv m:=by
 obtain ⟨G,h1,h2⟩:=h;exact ⟨G,aA h1 fun b cs _ hb=>k _ _ _ dC hb,fun p hp=>⟨(h2 p hp).1,(h2 p hp).2.same fun b t cs ht hb=>k _ _ _ (by rintro rfl;revert ht;decide) hb⟩⟩
theorem LvW.sameT {w w':World} {B gl:Nat} {L:List Nat} (h:LvW w B gl L) (k:∀b t cs,t≠3->Bk w b t cs->Bk w' b t cs):LvW w' B gl L:=by
 obtain ⟨gk,r1,r2,r3,h0,gv,gt,h1,⟨hB,S,v,h2,h3⟩,h4⟩:=h;exact ⟨gk,r1,r2,r3,k _ _ _ dC h0,gv,gt,k _ _ _ dC h1,⟨hB,S,v,k _ _ _ dC h2,fun lv hl=>(h3 lv hl).sameT k⟩,k _ _ _ dC h4⟩
theorem LvW.visI {w w':World} {B gl g:Nat} {x y:Value} {L:List Nat} (h:LvW w B gl L) (k:VisF (fun b=>b=g) w w') (hb:Bk w g 3 #[x]) (hb':Bk w' g 3 #[y]):LvW w' B gl L:=by
 have hg:Bk (w'.setCell ⟨g,0,none⟩ x) g 3 #[x]:=hb'.set 0 x;have hfar:∀b,b≠g->(w'.setCell ⟨g,0,none⟩ x).heap[b]?=w'.heap[b]?:=fun b hn=>heap_setCell_other w' ⟨g,0,none⟩ b x hn;have hu:Vis w (w'.setCell ⟨g,0,none⟩ x):=by refine ⟨k.os,k.tape,k.output,by simpa [World.setCell] using k.size,fun b hlt _=>?_⟩;by_cases e:b=g;subst e;exact .inl (hg.trans hb.symm);rcases k.block b hlt e with f |⟨cs,v,f,f'⟩|⟨cs,v,f,f'⟩;exact .inl ((hfar b e).trans f);exact .inr (.inl ⟨cs,v,f,(hfar b e).trans f'⟩);exact .inr (.inr ⟨cs,v,f,(hfar b e).trans f'⟩)
 refine (h.vis hu).sameT fun b t cs ht hbk=>?_;have e:b≠g:=fun e=>by subst e;exact ht (aR hbk hg).1
 exact (hfar b e).symm.trans hbk
theorem aGp (L:List Nat) (s:Nat) {a b:Nat} (h:a<=b):cJ L s a<=cJ L s b:=by
 unfold cJ;have:=(List.take_sublist_take_left (l:=L) h).count_le s;omega
end
section
open Go.RowKit
theorem aDm (B gt gj gs gv:Nat) (lv:Nat) (p:Int) (bs:List Bool) (r j s:Nat) (w:World) (ht:TreeAt w gt bs) (hj:Bk w gj 3 #[(j:Int)]) (hs:Bk w gs 3 #[(s:Int)]) (hv:Bk w gv 3 #[(lv:Int)]) (hl9:lv < 9) (hs257:s < 257) (hr:bs[r]?=some (gO s lv)) (hc:(bs.take r).count (gO s lv)=j) (hT:TabW w) (hB:1 < B) (hBt:B<=gt):
 Calls Tryz.prog 201 #[.agg #[gt,(lv:Int),.int .i64 p],gj,gs,gv] w fun e w'=>e=.returned (.tuple #[])/\
  ∃w1,VB B w w1/\Bk w1 gj 3 #[(j:Int)]/\w'=w1.setCell ⟨gj,0,none⟩ (.int .i64 (r:Int)):=by
 have l1:=hj.lt;have l2:=hs.lt;have l3:=hv.lt;have l0:1 < w.heap.size:=hT.pos;obtain ⟨b,hb⟩:=eqx (gO s lv);rw [hb] at hr hc;obtain ⟨o,ho⟩:=eqx (Obj.cells #[gt,(lv:Int),.int .i64 p] 157);have hal:=(Below.refl w.heap.size w).alloc nL o;have hs1:=Bk.new w 157 #[gt,(lv:Int),.int .i64 p];rw [ho] at hs1;have l4:=hs1.lt;obtain ⟨W,hW⟩:∃x,w.alloc o=x:=⟨_,rfl⟩;have ht1:=ht.below hal;have hj1:=hj.below hal l1;have hss1:=hs.below hal l2;have hv1:=hv.below hal l3;have hT1:=hT.below hal l0;rw [hW] at hal hs1 ht1 hj1 hss1 hv1 hT1 l4;have l5:=hal.size;obtain ⟨Hb,Hr,Hc,Ht,Hj,Hs,Hv,HT,HA⟩:=hqq9 hb hr hc ht1 hj1 hss1 hv1 hT1 hal;obtain ⟨Hs1,Ho,HW,Hl5⟩:=hqq4 hs1 ho hW l5;clear hb hr hc ht hj hs hv hT hal hs1 ho ht1 hj1 hss1 hv1 hT1 hW l5;go_enter Tryz.func201,Tryz.ntmps201;go_wp2_with fail;rw [Ho.out,HW.out];refine wp_region_any kR ?_;refine bZ B 7 [5,6,7,8,9,10,11] (fun _=>False) 6 [] (fun _=>True) (is (r:Int)) [is w.heap.size,is gt,is (j:Int),is (s:Int),is (lv:Int),is (.bool b),cR] _ _ rfl dC kR kR kR (trivial) (fun _ _ _ _ _=>trivial) (gV _ _) tA1 ?_ ?_
 · refine bM ?_;refine pH3 4 (.pointer (some ⟨w.heap.size,0,none⟩)) ?_;refine sC3 (fun _ w5 hS _ _ _ _ hval _ _ _ hK=>?_) ?_
   · replace hS:VFB B (fun _=>False) W w5:=fD hS;have e5:_=_:=hval 0 5 kR rfl;have k5:w5.cell? ⟨w.heap.size,0,none⟩=some (.pointer (some ⟨gt,0,none⟩)):=((hS.1.bk Hs1.out dC dC (fun h=>h)).cell 0).trans rfl;go_simp;exact hK _ _ (aK vR) rfl
   refine sC3 (fun ev w5 hS _ _ _ hold _ _ _ _ hK=>?_) ?_
   · replace hS:VFB B (fun _=>False) W w5:=fD hS;have e1:ev (.tmp 1)=.pointer (some ⟨gj,0,none⟩):=hold 1 kR;have k5:w5.cell? ⟨gj,0,none⟩=some (.int .i64 (j:Int)):=((hS.1.bk Hj.out dC dC (fun h=>h)).cell 0).trans rfl;go_simp;exact hK _ _ (aK vR) rfl
   refine sC3 (fun ev w5 hS _ _ _ hold _ _ _ _ hK=>?_) ?_
   · replace hS:VFB B (fun _=>False) W w5:=fD hS;have e2:ev (.tmp 2)=.pointer (some ⟨gs,0,none⟩):=hold 2 kR;have k5:w5.cell? ⟨gs,0,none⟩=some (.int .i64 (s:Int)):=((hS.1.bk Hs.out dC dC (fun h=>h)).cell 0).trans rfl;go_simp;exact hK _ _ (aK vR) rfl
   refine sC3 (fun ev w5 hS _ _ _ hold _ _ _ _ hK=>?_) ?_
   · replace hS:VFB B (fun _=>False) W w5:=fD hS;have e3:ev (.tmp 3)=.pointer (some ⟨gv,0,none⟩):=hold 3 kR;have k5:w5.cell? ⟨gv,0,none⟩=some (.int .i64 (lv:Int)):=((hS.1.bk Hv.out dC dC (fun h=>h)).cell 0).trans rfl;go_simp;exact hK _ _ (aK vR) rfl
   refine sC3 (fun _ w5 _ _ _ _ _ hval _ _ _ hK=>?_) ?_
   · have e8:_=_:=hval 3 8 kR rfl;have e9:_=_:=hval 4 9 kR rfl;go_simp;refine (mW s lv w5 hs257 hl9).mono ?_;rintro e w8 ⟨rfl,hb8⟩;rw [Hb.out];exact hK _ _ (aK (VisK.of_below hb8)) rfl
   refine sC3 (fun _ w5 hS _ _ _ _ hval _ _ _ hK=>?_) ?_
   · replace hS:VFB B (fun _=>False) W w5:=fD hS;have e6:_=_:=hval 1 6 kR rfl;have e7:_=_:=hval 2 7 kR rfl;have e10:_=_:=hval 5 10 kR rfl;go_simp;have hvs:=VFB.to_vb hS (fun b _ h=>h);have ht5:=Ht.out.vis hvs.1;have hT5:=HT.out.vb hvs hB (zAl l0 Hl5.out);refine (yM gt bs r j b w5 ht5 Hr.out Hc.out hT5 oM).mono ?_;rintro e w8 ⟨rfl,hv8⟩;exact hK _ _ (aK (hv8.mono fun b hb=>by rcases hb with rfl;exact hBt)) rfl
   exact aC
 · intro ev w6 f hS hval hall;replace hS:VFB B (fun _=>False) W w6:=fD hS;have e11:ev (.tmp 11)=.int .i64 (r:Int):=hval 6 11 dC rfl;obtain ⟨vJ,pJ0⟩:=hall 6 dC;have pJ:(is (r:Int)) vJ w6:=pJ0;clear pJ0 hall;simp only [aI,zq1,zq2,Act.put,zq3,zq4,zq5];rw [e11];clear hval;have hvs:=VFB.to_vb hS (fun b _ h=>h);have hj6:=hvs.1.bk Hj.out dC dC;have c6:w6.cell? ⟨gj,0,none⟩=some (.int .i64 (j:Int)):=(hj6.cell 0).trans rfl;have f6:=hj6.frozen 0;have hvn:=(VisK.of_below (F:=fun b=>B<=b) HA.out).trans hvs;have l6:=hj6.lt;clear hvs hS pJ;change wpAny Tryz.prog Region.Mode.any _ _ (1+f) (bV 7 8) _ w6;rw [zCs 1 f];refine aQ (f:=f) (i:=7) kR ?_;refine bW rfl rfl ?_;generalize hK:wpAny Tryz.prog _ _ _ f _=K5;go_simp;subst hK;refine bK kR ?_;go_wp2_with fail;go_end0;exact ⟨rfl,w6,hvn,hj6,rfl⟩
theorem aHe (B gv gt gn gs gw:Nat) (S:Nat->Value) (n v p:Int) (lv:Nat) (bs:List Bool) (r j s:Nat) (w0 w:World) (hw:Bk w gv 154 (wcells S n v)) (ht0:TreeAt w0 gt bs) (hv0:Vis w0 w) (hg0:w0.heap.size<=gn) (hn:Bk w gn 3 #[(j:Int)]) (hs5:Bk w gs 3 #[(s:Int)]) (hk:Bk w gw 3 #[(lv:Int)]) (hl9:lv < 9) (hs257:s < 257) (hr:bs[r]?=some (gO s lv)) (hc:(bs.take r).count (gO s lv)=j) (hT:TabW w) (hB:1 < B) (hBv:B<=gv) (hBt:B<=gt) (hBn:B<=gn):
 Calls Tryz.prog 111 #[gv,.agg #[gt,(lv:Int),.int .i64 p],.func (.func 201) #[] #[gn,gs,gw]] w fun e w'=>e=.returned (.tuple #[])/\
  VisF (fun b=>b=gn) w w'/\Keep (fun b=>B<=b) w w'/\Bk w' gn 3 #[(r:Int)]:=by
 have ht:=ht0.vis hv0;obtain ⟨Ht0,HV0,Hr,Hc,HT,Hs5⟩:=hqq6 ht0 hv0 hr hc hT hs5;have l5:=hs5.lt;have l0:1 < w.heap.size:=hT.pos;clear ht0 hv0 hr hc hT hs5;obtain ⟨o,ho⟩:=eqx (Obj.cells #[gt,(lv:Int),.int .i64 p] 157);have hal:=(Below.refl w.heap.size w).alloc nL o;have hs1:=Bk.new w 157 #[gt,(lv:Int),.int .i64 p];rw [ho] at hs1;have l1:=hk.lt;have l3:=hn.lt;have l4:=hw.lt;have n1:=Bk.ne hn hw dC;obtain ⟨Ht,Hn,Hk,Hw,HA,Hs,Ho⟩:=hqq7 ht hn hk hw hal hs1 ho;clear ht hk hn hw hal hs1 ho;go_enter Tryz.func111,Tryz.ntmps111;go_wp2_with fail;rw [Ho.out];refine (aDm B gt gn gs gw lv p bs r j s _ (Ht.out.below HA.out) (Hn.out.alloc _) (Hs5.out.alloc _) (Hk.out.alloc _) hl9 hs257 Hr.out Hc.out (HT.out.below HA.out l0) hB hBt).mono ?_;rintro e w2 ⟨rfl,w1,hv1,hn1,rfl⟩;obtain ⟨v1,hw1⟩:=((Vis.of_below HA.out).trans hv1.1).waveC Hw.out;have hw2:=hw1.far (p:=⟨gn,0,none⟩) (fun h=>n1 h.symm) (.int .i64 (r:Int));have ht1:=Ht.out.vis ((Vis.of_below HA.out).trans hv1.1);have ht2:TreeAt (w1.setCell ⟨gn,0,none⟩ (.int .i64 (r:Int))) gt bs:=Ht0.out.vis (((HV0.out.trans (Vis.of_below HA.out)).trans hv1.1).fresh (p:=⟨gn,0,none⟩) hg0 _);obtain ⟨vt,hvt⟩:=ht2.visits;have hs2:=(hv1.1.bk Hs.out dC dC).far (p:=⟨gn,0,none⟩) (fun h=>absurd (show w.heap.size=gn from h) oM) (.int .i64 (r:Int));have hnn:=hn1.set 0 (.int .i64 (r:Int));have hfin:VisF (fun b=>b=gn) w (w1.setCell ⟨gn,0,none⟩ (.int .i64 (r:Int))):=VisF.put (F:=fun b=>b=gn) (VisF.of_vis ((Vis.of_below HA.out).trans hv1.1)) (p:=⟨gn,0,none⟩) (.inl rfl) _;have hkp:Keep (fun b=>B<=b) w (w1.setCell ⟨gn,0,none⟩ (.int .i64 (r:Int))):=Keep.setCell (F:=fun b=>B<=b) ((Keep.of_below HA.out).trans hv1.2) (p:=⟨gn,0,none⟩) (.inl hBn) _;obtain ⟨W,hW⟩:=eqx (w1.setCell ⟨gn,0,none⟩ (.int .i64 (r:Int)));rw [hW] at hw2 ht2 hvt hs2 hnn hfin hkp⊢;have s0:W.cell? ⟨w.heap.size,0,none⟩=some (.pointer (some ⟨gt,0,none⟩)):=(hs2.cell 0).trans rfl;obtain ⟨Hw2,Hs2,HN,HF,HK,Ht2,Hvt⟩:=hqq7 hw2 hs2 hnn hfin hkp ht2 hvt;have htlt:=ht2.lt;have hslt:=hs2.lt;have hgs:=Bk.ne hw2 hs2 dC;have hgn:=Bk.ne hw2 hnn dC;have hgvt:gt≠gv:=by rintro rfl;obtain ⟨ga,v,⟨_,_,h2⟩|⟨_,_,_,_,_,h3⟩⟩:=Ht2.out;exact absurd (aR h2 Hw2.out).1 dC;exact absurd (aR h3.tree Hw2.out).1 dC
 clear hw2 hs2 hnn hfin hkp ht2 hvt hW hw1 ht1 hn1 hv1 HA Ht Hn Hk Hw Hs s0;go_wp2_with fail;refine wp_region_any kR ?_;refine bH [9,10,11,12,13,14,15,16,17,18] (fun b=>b=gv) 10 [3,10] (fun w2=>Bk w2 gv 154 (wcells S n v1)) (fun _ w2=>Bk w2 gv 154 (wcells S n (IntKind.i64.wrap (v1+vt)))) [is gv,is gv,is (.pointer (some ⟨gv,10,none⟩)),is (.int .i64 v1),is w.heap.size,is gt,is (.int .i64 vt),is (.int .i64 (IntKind.i64.wrap (v1+vt))),is gv,is (.pointer (some ⟨gv,10,none⟩)),cR] _ _ rfl kR kR (Hw2.out) (fun w2 w3 h _ hg=>Bk.below h hg h.lt) (fun _ _ _ h k=>Bk.below h k h.lt) tA0 ?_ ?_
 · refine aM ?_;refine pH3 0 (.pointer (some ⟨gv,0,none⟩)) ?_;refine pV3 0 9 ?_;refine pV3 1 10 ?_;refine sC3 (fun _ w5 _ hU _ _ _ hval _ _ _ hK=>?_) ?_
   · have hpre:=hU rfl;have e11:_=_:=hval 2 11 kR rfl;have c12:w5.cell? ⟨gv,10,none⟩=some (.int .i64 v1):=(hpre.cell 10).trans (bI _ _ _).2.2.2.2.2.2.2.2.2.2;go_simp;exact kq hK rfl
   refine pH3 4 (.pointer (some ⟨w.heap.size,0,none⟩)) ?_;refine sC3 (fun _ w5 hS _ _ _ _ hval _ _ _ hK=>?_) ?_
   · replace hS:Keep (fun b=>b=gv) W w5:=kD hS;have e13:_=_:=hval 4 13 kR rfl;have c14:w5.cell? ⟨w.heap.size,0,none⟩=some (.pointer (some ⟨gt,0,none⟩)):=((hS.bk Hs2.out (fun h=>hgs (show w.heap.size=gv from h).symm)).cell 0).trans rfl;go_simp;exact kq hK rfl
   refine sC3 (fun _ w5 hS _ _ _ _ hval _ _ _ hK=>?_) ?_
   · replace hS:Keep (fun b=>b=gv) W w5:=kD hS;have e14:_=_:=hval 5 14 kR rfl;go_simp;refine (fS gt vt w5 ((hS.cell htlt hgvt).trans Hvt.out)).mono ?_;rintro e w8 ⟨rfl,hb8⟩;exact hK _ _ (aJ hb8) rfl
   refine pW3 3 12 6 15 ?_;refine pV3 0 9 ?_;refine pV3 8 17 ?_;refine sC3 (fun _ w5 _ hU _ _ _ hval _ _ _ hK=>?_) ?_
   · have hpre:=hU rfl;have e18:_=_:=hval 9 18 kR rfl;have e16:_=_:=hval 7 16 kR rfl;have c18:w5.cell? ⟨gv,10,none⟩=some (.int .i64 v1):=(hpre.cell 10).trans (bI _ _ _).2.2.2.2.2.2.2.2.2.2;have f18:=hpre.frozen 10;go_simp;refine hK (.bool true) _ (aW (Keep.setCell (F:=fun b=>b=gv) (Keep.refl _ _) (p:=⟨gv,10,none⟩) (.inl rfl) _)) ?_;rw [<-cO S n v1];exact hpre.set 10 _
   exact aC
 · intro ev w6 hS hval hall;replace hS:Keep (fun b=>b=gv) W w6:=kD hS;obtain ⟨vJ,pJ⟩:∃vJ0,(fun _ w2=>Bk w2 gv 154 (wcells S n (IntKind.i64.wrap (v1+vt)))) vJ0 w6:=hall 10 dC;simp only [aI,zq1,zq2,Act.put,zq3,zq4,zq5];clear hval hall;have hv6:=Vis.of_wave hS Hw2.out pJ;have h1:=VisF.trans HF.out (VisF.of_vis hv6);have h2:=HK.out.trans (hS.mono fun b _ (e:b=gv)=>by rw [e];exact hBv);have h3:=hS.bk HN.out (fun e=>hgn (show gn=gv from e).symm);obtain ⟨H1,H2,H3⟩:=hqq3 h1 h2 h3;clear hv6 h1 h2 h3 pJ hS;go_wp2_with fail;go_end0;exact ⟨rfl,H1.out,H2.out,H3.out⟩
theorem yJ (B gk:Nat) (L:List Nat) (lo hi s:Nat) (w:World) (h:WalkAt w B gk L) (hs:s < 257) (h1:lo<=hi) (h2:hi<=L.length) (hL:∀x∈L,x < 257) (hl:L.length<=1000):
 Calls Tryz.prog 182 #[gk,(lo:Int),(hi:Int),(s:Int)] w fun e w'=>e=.returned (.tuple #[.int .i64 ((cJ L s lo:Nat):Int),.int .i64 ((cJ L s hi:Nat):Int)])/\VB B w w':=by
 obtain ⟨N,hN⟩:=eqx L.length;obtain ⟨q,hq⟩:∃q,L.countP (fun x=>decide (x < s))=q:=⟨_,rfl⟩;obtain ⟨r1,hr1⟩:∃q,(L.take lo).count s=q:=⟨_,rfl⟩;obtain ⟨r2,hr2⟩:∃q,(L.take hi).count s=q:=⟨_,rfl⟩;have b0:q<=1000:=by rw [<-hq];exact zAk zBh hl
 have b1:r1<=1000:=by rw [<-hr1];exact zAk zBv (by rw [zAj];omega)
 have b2:r2<=1000:=by rw [<-hr2];exact zAk zBv (by rw [zAj];omega)
 unfold cJ;rw [hq,hr1,hr2];obtain ⟨gv,gt,k1,k2,k3⟩:=h;have Hw:Hid (WalkAt w B gk L):=lhd ⟨gv,gt,k1,k2,k3⟩;obtain ⟨Hk,Hwv⟩:=hqq2 k1 k2;have hl2:N<=1000:=oM;have h3:hi<=N:=oM;obtain ⟨Hs,HL,Hl,HN,Hb,HR1,HR2⟩:=hqq7 hs hL hl hN hq hr1 hr2;have m1:max (lo:Int) 0=(lo:Int):=oM;have m2:min (lo:Int) (N:Int)=(lo:Int):=oM;have m3:min (hi:Int) (N:Int)=(hi:Int):=oM;have m4:max (hi:Int) (lo:Int)=(hi:Int):=oM;clear k1 k2 k3 hL hl hq hr1 hr2 h2;go_enter Tryz.func182,Tryz.ntmps182;go_wp2_with fail;refine (fJ s _ hs).mono ?_;rintro e w1 ⟨rfl,hb1⟩;have hv1:VB B w w1:=VisK.of_below hb1;have Hv1:=lhd hv1;clear hb1 hv1;go_wp2_with fail;refine (lB B gk L _ (Hw.out.vis Hv1.out.1)).mono ?_;rintro e w2 ⟨rfl,rfl⟩;rw [HN.out];go_wp2_with fail;refine (lB B gk L _ (Hw.out.vis Hv1.out.1)).mono ?_;rintro e w2 ⟨rfl,rfl⟩;rw [HN.out];go_wp2_with fail;have HV:=lhd Hv1.out;clear Hv1 m1 m2 m3 m4 hN;obtain ⟨w2,hw2⟩:∃w2,w2=w1:=⟨_,rfl⟩;subst hw2;refine wp_region_any kR ?_;refine aO [28,29,30,31,32,33,34,35,36,37,38,39,40,41,42,43,44,45,46,47,48,49,8,9] (VB B) (Vs [is gk,is (s:Int),is (q:Int),is gk,is gk,is gk,is gv,is (lo:Int),is (s:Int),is (r1:Int),is (.int .i64 ((q+r1:Nat):Int)),is gk,is (s:Int),is (q:Int),is gk,is gk,is gk,is gv,is (hi:Int),is (s:Int),is (r2:Int),is (.int .i64 ((q+r2:Nat):Int)),is (.int .i64 ((q+r1:Nat):Int)),is (.int .i64 ((q+r2:Nat):Int))]) _ _ rfl kR vR (fun _ _=>VisK.trans) (cL tA1) ?_ ?_
 · refine aM ?_;refine pH 0 (.pointer (some ⟨gk,0,none⟩)) ?_;refine pH 3 (.int .i64 (s:Int)) ?_;refine sC (fun _ w5 hS _ _ _ hval _ _ _ hK=>?_) ?_
   · have e28:_=_:=hval 0 28 kR rfl;have e29:_=_:=hval 1 29 kR rfl;replace hS:(VB B) w2 w5:=bD hS;go_simp;refine (iT B gk L s w5 (Hw.out.vis (HV.out.trans hS).1) Hs.out Hl.out).mono ?_;rintro e w8 ⟨rfl,hb8⟩;rw [Hb.out];exact hK _ _ (VisK.of_below hb8) rfl
   refine pH 0 (.pointer (some ⟨gk,0,none⟩)) ?_;refine sC (fun _ w5 hS _ _ _ hval _ _ _ hK=>?_) ?_
   · have e31:_=_:=hval 3 31 kR rfl;replace hS:(VB B) w2 w5:=bD hS;have hk5:=(HV.out.trans hS).1.bk Hk.out dC dC;have c0:=hk5.cell 0;have c1:=hk5.cell 1;go_simp;exact hK _ _ vR rfl
   refine sC (fun _ w5 hS _ _ _ hval _ _ _ hK=>?_) ?_
   · have e32:_=_:=hval 4 32 kR rfl;replace hS:(VB B) w2 w5:=bD hS;have hk5:=(HV.out.trans hS).1.bk Hk.out dC dC;have c0:=hk5.cell 0;have c1:=hk5.cell 1;go_simp;exact hK _ _ vR rfl
   refine sC (fun _ w5 hS _ _ _ hval _ _ _ hK=>?_) ?_
   · have e33:_=_:=hval 5 33 kR rfl;replace hS:(VB B) w2 w5:=bD hS;have hk5:=(HV.out.trans hS).1.bk Hk.out dC dC;have c0:=hk5.cell 0;have c1:=hk5.cell 1;go_simp;exact hK _ _ vR rfl
   refine pH 1 (.int .i64 (lo:Int)) ?_;refine pH 3 (.int .i64 (s:Int)) ?_;refine sC (fun _ w5 hS _ _ _ hval _ _ _ hK=>?_) ?_
   · have e34:_=_:=hval 6 34 kR rfl;have e35:_=_:=hval 7 35 kR rfl;have e36:_=_:=hval 8 36 kR rfl;replace hS:(VB B) w2 w5:=bD hS;go_simp;refine (iG B gv L lo s w5 (Hwv.out.vis (HV.out.trans hS).1) Hs.out (by rw [HN.out];omega) HL.out Hl.out).mono ?_;rintro e w8 ⟨rfl,hv8⟩;rw [HR1.out];exact hK _ _ hv8 rfl
   refine sC (fun _ _ _ _ _ _ hval _ _ _ hK=>?_) ?_
   · have e30:_=_:=hval 2 30 kR rfl;have e37:_=_:=hval 9 37 kR rfl;have h64:IntKind.i64.wrap ((q:Int)+(r1:Int))=((q+r1:Nat):Int):=(by rw [IntKind.wrap_i64];omega);go_simp;exact hK _ _ vR (by first | rfl | exact h64 | simp [is])
   refine pH 0 (.pointer (some ⟨gk,0,none⟩)) ?_;refine pH 3 (.int .i64 (s:Int)) ?_;refine sC (fun _ w5 hS _ _ _ hval _ _ _ hK=>?_) ?_
   · have e39:_=_:=hval 11 39 kR rfl;have e40:_=_:=hval 12 40 kR rfl;replace hS:(VB B) w2 w5:=bD hS;go_simp;refine (iT B gk L s w5 (Hw.out.vis (HV.out.trans hS).1) Hs.out Hl.out).mono ?_;rintro e w8 ⟨rfl,hb8⟩;rw [Hb.out];exact hK _ _ (VisK.of_below hb8) rfl
   refine pH 0 (.pointer (some ⟨gk,0,none⟩)) ?_;refine sC (fun _ w5 hS _ _ _ hval _ _ _ hK=>?_) ?_
   · have e42:_=_:=hval 14 42 kR rfl;replace hS:(VB B) w2 w5:=bD hS;have hk5:=(HV.out.trans hS).1.bk Hk.out dC dC;have c0:=hk5.cell 0;have c1:=hk5.cell 1;go_simp;exact hK _ _ vR rfl
   refine sC (fun _ w5 hS _ _ _ hval _ _ _ hK=>?_) ?_
   · have e43:_=_:=hval 15 43 kR rfl;replace hS:(VB B) w2 w5:=bD hS;have hk5:=(HV.out.trans hS).1.bk Hk.out dC dC;have c0:=hk5.cell 0;have c1:=hk5.cell 1;go_simp;exact hK _ _ vR rfl
   refine sC (fun _ w5 hS _ _ _ hval _ _ _ hK=>?_) ?_
   · have e44:_=_:=hval 16 44 kR rfl;replace hS:(VB B) w2 w5:=bD hS;have hk5:=(HV.out.trans hS).1.bk Hk.out dC dC;have c0:=hk5.cell 0;have c1:=hk5.cell 1;go_simp;exact hK _ _ vR rfl
   refine pH 2 (.int .i64 (hi:Int)) ?_;refine pH 3 (.int .i64 (s:Int)) ?_;refine sC (fun _ w5 hS _ _ _ hval _ _ _ hK=>?_) ?_
   · have e45:_=_:=hval 17 45 kR rfl;have e46:_=_:=hval 18 46 kR rfl;have e47:_=_:=hval 19 47 kR rfl;replace hS:(VB B) w2 w5:=bD hS;go_simp;refine (iG B gv L hi s w5 (Hwv.out.vis (HV.out.trans hS).1) Hs.out (by rw [HN.out];omega) HL.out Hl.out).mono ?_;rintro e w8 ⟨rfl,hv8⟩;rw [HR2.out];exact hK _ _ hv8 rfl
   refine sC (fun _ _ _ _ _ _ hval _ _ _ hK=>?_) ?_
   · have e41:_=_:=hval 13 41 kR rfl;have e48:_=_:=hval 20 48 kR rfl;have h64:IntKind.i64.wrap ((q:Int)+(r2:Int))=((q+r2:Nat):Int):=(by rw [IntKind.wrap_i64];omega);go_simp;exact hK _ _ vR (by first | rfl | exact h64 | simp [is])
   refine pV 10 38 ?_;refine pV 21 49 ?_;exact aC
 · intro ev w6 hS hval;replace hS:(VB B) w2 w6:=bD hS;have e8:ev (.tmp 8)=.int .i64 ((q+r1:Nat):Int):=hval 22 8 rfl;have e9:ev (.tmp 9)=.int .i64 ((q+r2:Nat):Int):=hval 23 9 rfl;simp only [aI,zq1,zq2,Act.put,zq3,zq4,zq5];rw [e8];rw [e9];clear hval;go_wp2_with fail;go_ret2;exact ⟨rfl,HV.out.trans hS⟩
end
section
open Go.RowKit Go.Shelf
attribute [local go_sem] Oper.semAt_some
section
variable {P : Program} {ops : Array Oper} {md : Region.Mode} {Q : Exit -> Act -> World -> Prop} {l n : Nat}
theorem aFQ {o:Oper} {a:Act} {K:Act->World->Prop} {r:Result Next} (h:o.upon P a K Q r):o.uponIn (Fence.wide.inRound l) n P a K Q r:=by
 cases r with
 | ok x w=>
   cases x with
   | value v=>exact h
   | skip=>exact h
   | defer d=>exact h
   | enter f args=>
     refine ⟨fun h=>(by simp [Fence.wide] at h),CallsIn.inRound l (callsIn_wide.2 (Calls.mono h ?_))⟩;intro e w' he;cases e <;> exact he
   | row row args=>
     refine ⟨fun h=>(by simp [Fence.wide] at h),fun c cs _=>?_⟩;obtain ⟨v,w',hr,hs⟩:=h c cs;exact ⟨v,w',hr,stepsIn_wide.2 hs⟩
   | _=>exact h.elim
 | halt x w=>cases x <;> exact h
theorem aDP (hno:¬LetsOut Q) (hd:∀(i:Nat) (o:Oper),ops[i]?=some o->∀c,o.op≠.defer c):∀(f:Nat) (listed:Array Bool) (a:Act) (w:World),wpAny P md ops Q f listed a w->wpAnyIn (Fence.wide.inRound l) n P md ops Q f listed a w:=by
 intro f
 induction f with
 | zero=>intro listed a w h;exact h
 | succ f ih=>
   intro listed a w h;refine ⟨h.1,fun i hi=>?_⟩;have h1:=h.2 i hi;unfold wpOp at h1;unfold wpOpIn;cases ho:ops[i]? with
   | none=>
     rw [ho] at h1;exact ih _ _ _ h1
   | some o=>
     rw [ho] at h1;simp only at h1⊢;by_cases hw:Region.wanted o (yielded ops a.tmps)=true;rw [zBx hw] at h1⊢;rcases h1 with h1 | h1;refine ⟨fun _ _=>trivial,?_⟩;rw [Oper.semAt_eq _ _ _ (hd i o ho)];exact aFQ (Oper.wp_mono (fun a w=>ih _ a w) h1);exact absurd h1.2 hno;rw [zBw hw] at h1⊢;exact ⟨fun _ _=>trivial,ih _ _ _ h1⟩
end
def bkL (zs:List UInt8) (k:Nat):List (Nat×UInt8):=(List.range k).map fun i=>(zs.length - 1 - i,zs.getD (zs.length - 1 - i) 0)
theorem aI2 (zs:List UInt8) (k:Nat):bkL zs (k+1)=bkL zs k++ [(zs.length - 1 - k,zs.getD (zs.length - 1 - k) 0)]:=by simp [bkL,List.range_succ]
theorem aKa (zs:List UInt8) (k:Nat):(bkL zs k).length=k:=by simp [bkL]
theorem aCa (F:Fence) (n:Nat) (hf:F.fn 216) (hro:F.round=none) (hn:1<=n) (l Bs b off cap:Nat) (A:Option Addr) (zs:List UInt8) (hA:0 < zs.length->A=some ⟨b,off,none⟩) (hreach:zs.length<=1000000) (J Jx:List (Nat×UInt8)->World->Prop)
 (hY:∀pre x W,J pre W->pre.length < zs.length->YieldAt F (n - 1) Tryz.prog l #[(x.1:Int),.int .u8 (x.2.toNat:Int)] W fun e W'=>
  (e=.returned (.bool true)/\J (pre++ [x]) W'/\KpB Bs b W W')∨(e=.returned (.bool false)/\Jx (pre++ [x]) W'))
 (W:World) (hBs:W.cell? ⟨Bs,0,none⟩=some (.slice A zs.length cap)) (hc:∀j,j < zs.length->W.cell? ⟨b,off+j,none⟩=some (.int .u8 ((zs.getD j 0).toNat:Int))) (h0:J [] W):
 CallsIn F n Tryz.prog 216 #[.func (.yield l) #[] #[],Bs] W fun e W'=>(∃v,e=.returned v)/\
  ((∃ys,ys=bkL zs zs.length/\J ys W')∨(∃pre,True/\Jx pre W')):=by
 obtain ⟨len,hlen⟩:=eqx zs.length;rw [hlen] at hBs hreach;obtain ⟨HA,Hlen,HY,Hc,HB,H0⟩:=hqq6 hA hlen hY hc hBs h0;clear hlen hY hc h0 hA;refine callsIn_of_wp Tryz.func216 rfl hf ?_ hro;simp only [Tryz.ntmps216,List.size_toArray,zCg,List.length_nil,Nat.reduceAdd,Nat.reduceSub,Array.replicate_succ,Array.replicate_zero,List.push_toArray,List.append_toArray,List.nil_append,List.cons_append]
 gi_wp2
 clear hBs
 gi_loopw [3] (fun i wr=>∃r:Nat,r<=len/\i=.int .i64 ((r:Int) - 1)/\J (bkL zs (len - r)) wr/\KpB Bs b W wr) (fun i _=>(intOf i+1).toNat)
 case atStart=>exact ⟨len,zAs _,rfl,by rw [Nat.sub_self];exact H0.out,fun _ _=>rfl⟩
 case round=>
  obtain ⟨r,hr,rfl,hJ,hk⟩:=hrel;rcases r with _ | j
  · have e:((0:Nat):Int) - 1=-1:=oM;rw [e];rw [Nat.sub_zero] at hJ;have HJ:=lhd hJ;clear hJ hk
    gi_wp2
    go_end0;exact ⟨⟨_,rfl⟩,.inl ⟨_,rfl,by rw [Hlen.out];exact HJ.out⟩⟩
  · have e:((j+1:Nat):Int) - 1=(j:Int):=oM;rw [e];have hbk:bkL zs (len - j)=bkL zs (len -(j+1))++ [(j,zs.getD j 0)]:=(by rw [show len - j=(len -(j+1))+1 by omega,aI2,Hlen.out,show len - 1 -(len -(j+1))=j by omega]);have hcB:=(hk ⟨Bs,0,none⟩ (.inl rfl)).trans HB.out;rw [HA.out (by rw [Hlen.out];omega)] at hcB;have hcj:=(hk ⟨b,off+j,none⟩ (.inr rfl)).trans (Hc.out j (by rw [Hlen.out];omega));have hjl:j < len:=oM;obtain ⟨x,hx⟩:=eqx (zs.getD j 0);rw [hx] at hcj hbk;obtain ⟨fn,tmps,assign,body,hy,hR⟩:=HY.out (bkL zs (len -(j+1))) (j,x) wr hJ (by rw [aKa,Hlen.out];omega);dsimp only at hy;obtain ⟨Hbk,Hk⟩:=hqq2 hbk hk;clear hbk hk hJ e hx
    gi_wp2
    refine hR.mono ?_;rintro e W3 (⟨rfl,hJ3,hk3⟩|⟨rfl,hJx3⟩)
    · obtain ⟨HJ3,Hk3⟩:=hqq2 hJ3 hk3;clear hJ3 hk3
      gi_wp2
      go_roundw
      case rel=>exact ⟨j,by omega,rfl,by rw [Hbk.out];exact HJ3.out,Hk.out.trans Hk3.out⟩
      case measure=>simp [intOf]
    · have HJ3:=lhd hJx3;clear hJx3
      gi_wp2
      refine bodyPost_ret (results_none rfl _ _ _) rfl ?_;exact ⟨⟨_,rfl⟩,.inr ⟨_,trivial,HJ3.out⟩⟩
attribute [local go_sem] Oper.semAt_some
theorem aB9 (A:Option Addr) (n c:Nat) (w:World):
 Calls Tryz.prog 181 #[.slice A n c] w fun e w'=>e=.returned (.func (.func 216) #[] #[w.heap.size])/\w'=w.alloc (.cells #[.slice A n c] 26):=by
 go_enter Tryz.func181,Tryz.ntmps181;go_wp2_with fail;go_ret;exact ⟨rfl,rfl⟩
def gY (L:List Nat) (p:List UInt8):Nat×Nat:=p.reverse.foldl (nN L) (0,L.length)
theorem aFE (L:List Nat) (q:List UInt8):∀x:Nat×Nat,x.1<=x.2->x.2<=L.length->(q.foldl (nN L) x).1<=(q.foldl (nN L) x).2/\(q.foldl (nN L) x).2<=L.length:=by
 induction q with
 | nil=>intro x h1 h2;exact ⟨h1,h2⟩
 | cons c q ih=>intro x h1 h2;exact ih _ (aGp L _ h1) (vU L _ _)
theorem aKb (zs:List UInt8):(bkL zs zs.length).map (·.2)=zs.reverse:=by
 apply List.ext_getElem
 · simp [bkL]
 · intro i h1 h2;have hi:i < zs.length:=(by simpa [bkL] using h1);simp [bkL,List.getElem_reverse,hi,show zs.length - 1 - i < zs.length by omega]
def aFw (o:Oper):Bool:=match o.op with
 | .defer _=>false
 | _=>true
theorem aIr {ops:Array Oper} (h:ops.toList.all aFw=true):∀(i:Nat) (o:Oper),ops[i]?=some o->∀c,o.op≠.defer c:=by
 intro i o ho c he;have:=zBf.1 h o (Array.mem_toList_iff.2 (Array.mem_of_getElem? ho));unfold aFw at this;rw [he] at this;cases this
theorem zS {F:Nat->Prop} {w w':World} (h:VisF F w w') (hf:∀b o,F b->w.heap[b]?=some o->o.isCells=true):KeepsOthers w w':=by
 refine ⟨h.size,fun b o hb ho=>?_⟩;by_cases f:F b
 · rw [hf b o f hb] at ho;cases ho
 · have hlt:b < w.heap.size:=(zAh.1 hb).1;rcases h.block b hlt f with e |⟨cs,v,e,_⟩|⟨cs,v,e,_⟩;exact e.trans hb
   · unfold Bk at e;rw [hb] at e;injection e with e;subst e;cases ho
   · unfold Bk at e;rw [hb] at e;injection e with e;subst e;cases ho
theorem sX (Bw gl:Nat) (L:List Nat) (n:Nat) (A0:Option Addr) (m0 c0 B:Nat) (ss:List Sl) (p:List UInt8) (N:Nat) (hT:iE ss=p) (hN:p.length=N) (w:World) (h:LvW w Bw gl L) (hn:L.length=n+1) (hl:n<=900) (hL:∀x∈L,x < 257) (hr0:Rd w B 1 A0 m0 (ss.map slV)) (hss:∀s∈ss,Rd w B 1 s.A s.n (s.l.map bv)) (hB:B<=w.heap.size) (hm:m0<=1000000) (hp:N<=1000000):
 Calls Tryz.prog 133 #[gl,.slice A0 m0 c0] w fun e w'=>e=.returned (.tuple #[.int .i64 (((gY L p).1:Nat):Int),.int .i64 (((gY L p).2:Nat):Int)])/\VB Bw w w':=by
 refine (callsIn_wide (n:=6)).1 ?_;refine callsIn_of_wp_marks Tryz.func133 rfl trivial ?_ rfl;simp only [Tryz.ntmps133,List.size_toArray,zCg,List.length_nil,Nat.reduceAdd,Nat.reduceSub,Array.replicate_succ,Array.replicate_zero,List.push_toArray,List.append_toArray,List.nil_append,List.cons_append];refine wpIn_wide.2 ?_;have hgl:=h.lt;obtain ⟨H,HL,Hr0,Hss⟩:=hqq4 h hL hr0 hss;clear h hL hr0 hss;go_wp2_with fail;have hv1:Below w.heap.size w (w.alloc (.cells #[gl] 23)):=bR.alloc nL _;refine (cB Bw gl L n _ (H.out.vis (Vis.of_below hv1)) hn oM).mono ?_;rintro e w' ⟨rfl,rfl⟩;have e1:IntKind.i64.wrap ((n:Int)+1)=((n+1:Nat):Int):=by rw [IntKind.wrap_i64];omega
 obtain ⟨n1,hn1⟩:=eqx (n+1);have e2:(n:Int)+1=(n1:Int):=oM;have hbb:=Bk.new w 23 #[gl];obtain ⟨gb,hgb⟩:∃g,w.heap.size=g:=⟨_,rfl⟩;rw [hgb] at hbb;rw [hgb];generalize w.alloc (.cells #[gl] 23)=w1 at hv1 hbb⊢;obtain ⟨Hv1,Hbb,Hn1,Hn⟩:=hqq4 hv1 hbb hn1 hn;clear hv1 hbb hn1 hn hgb;go_wp2_with fail;have hlo:=(Bk.new w1 3 #[.int .i64 0]).alloc (.cells #[(n1:Int)] 3);have hhi:=Bk.new (w1.alloc (.cells #[.int .i64 0] 3)) 3 #[(n1:Int)];rw [World.size_alloc] at hhi;have hb12:Below w1.heap.size w1 ((w1.alloc (.cells #[.int .i64 0] 3)).alloc (.cells #[(n1:Int)] 3)):=(bR.alloc nL _).alloc (by simp) _;obtain ⟨glo,hglo⟩:∃g,w1.heap.size=g:=⟨_,rfl⟩;rw [hglo] at hlo hhi;rw [hglo];generalize (w1.alloc (.cells #[.int .i64 0] 3)).alloc (.cells #[(n1:Int)] 3)=w2 at hlo hhi hb12⊢;have hv2:=Hv1.out.trans (hb12.mono Hv1.out.size);have hbb2:=Hbb.out.below hb12 Hbb.out.lt;have hgl1:w.heap.size<=glo:=by rw [<-hglo];exact Hv1.out.size
 have hgb1:gb < glo:=by rw [<-hglo];exact Hbb.out.lt
 have hcat:=nD A0 m0 c0 B ss p N hT hN w2 (Hr0.out.keep fun q hq=>hv2.cell oM) (fun s hs=>(Hss.out s hs).keep fun q hq=>hv2.cell oM) (by have:=hv2.size;omega) oM oM;obtain ⟨Hlo,Hhi,Hv2,Hbb2⟩:=hqq4 hlo hhi hv2 hbb2;clear hlo hhi hb12 hv2 hbb2 hglo e1 e2;refine hcat.mono ?_;clear hcat;rintro e w3 ⟨A3,c3,rfl,hm3,hb3⟩;obtain ⟨Hm3,Hb3⟩:=hqq2 hm3 hb3;clear hm3 hb3;go_wp2_with fail;refine (aB9 A3 N c3 w3).mono ?_;rintro e w4 ⟨rfl,hw4⟩;have hbs:=Bk.new w3 26 #[.slice A3 N c3];rw [<-hw4] at hbs;have hb34:Below w3.heap.size w3 w4:=hw4 ▸bR.alloc nL _;have hz34:w4.heap.size=w3.heap.size+1:=by rw [hw4];simp
 obtain ⟨gs,hgs⟩:∃g,w3.heap.size=g:=⟨_,rfl⟩;rw [hgs] at hbs;rw [hgs];have Hgs:=lhd hgs;clear hw4 hgs;have hlo4:=(Hlo.out.below Hb3.out Hlo.out.lt).below hb34 (zAl Hlo.out.lt Hb3.out.size);have hhi4:=(Hhi.out.below Hb3.out Hhi.out.lt).below hb34 (zAl Hhi.out.lt Hb3.out.size);have hbb4:=(Hbb2.out.below Hb3.out Hbb2.out.lt).below hb34 (zAl Hbb2.out.lt Hb3.out.size);have hv4:Below w.heap.size w w4:=(Hv2.out.trans (Hb3.out.mono Hv2.out.size)).trans (hb34.mono (by have:=Hv2.out.size;have:=Hb3.out.size;omega));have hm4:=Hm3.out.below hb34;obtain ⟨Hlo4,Hhi4,Hbb4,Hv4,Hm4,Hbs⟩:=hqq6 hlo4 hhi4 hbb4 hv4 hm4 hbs;clear hlo4 hhi4 hbb4 hv4 hm4 hbs hb34 Hlo Hhi Hv2 Hbb2 Hm3;go_wp2_with fail;obtain ⟨b3,hb3⟩:∃b3,(∀b off,A3=some ⟨b,off,none⟩->0 < N->b=b3)/\∃t cs,Bk w4 b3 t cs/\t∈ [5,26]:=by rcases Hm4.out.own.2 with ⟨e,e0⟩|⟨g,cap,cur,e,_,hg,_⟩;exact ⟨gs,fun b off _ h0=>by omega,_,_,Hbs.out,by simp⟩;injection e with e;exact ⟨g,fun b off h _=>by rw [e] at h;injection h with h;injection h with h _;exact h.symm,_,_,hg,by simp⟩
 have hN0:0 < N->A3=some ⟨b3,0,none⟩:=by
  intro h0;rcases Hm4.out.own.2 with ⟨e,e0⟩|⟨g,cap,cur,e,_,hg,_⟩;omega
  · injection e with e;rw [e,hb3.1 g 0 e h0]
 have hcells:∀j,j < p.length->w4.cell? ⟨b3,0+j,none⟩=some (.int .u8 ((p.getD j 0).toNat:Int)):=by intro j hj;have hr:=Hm4.out.rd;obtain ⟨b,off,e,_,hc⟩:=hr.2 oM;rw [hN0 oM] at e;injection e with e;injection e with e1 e2;subst e1 e2;refine hc j _ ?_;rw [zAf,zAa hj];simp [bv,zAb,zAa hj]
 have hseq:SeqStopsK Fence.wide (6 - 1) Tryz.prog 216 #[gs] (fun x:Nat×UInt8=>#[(x.1:Int),.int .u8 (x.2.toNat:Int)]) (KpB gs b3) (fun ys=>ys=bkL p p.length) (fun _=>True) N w4:=by intro l J Jx W hW hJ hJx hY h0;have hd:=hb3.2;obtain ⟨t,cs,hd1,hd2⟩:=hd;exact aCa Fence.wide (6 - 1) trivial rfl oM l gs b3 0 c3 A3 p (fun h=>hN0 oM) oM J Jx (fun pre x W1 h1 h2=>hY pre x W1 h1 oM) W (by rw [hN];exact (Hbs.out.below hW Hbs.out.lt).cell 0) (fun j hj=>(hW.cell (p:=⟨b3,0+j,none⟩) hd1.lt).trans (hcells j hj)) h0
 have hI0:FInv w Bw gl gb glo gs b3 (.slice A3 N c3) L [] w4:=⟨Hlo4.out,by
  have:=Hhi4.out;rw [show (([]:List (Nat×UInt8)).map (·.2)).foldl (nN L) (0,L.length)=(0,L.length) from rfl,Hn.out,Hn1.out];exact this,H.out.vis (Vis.of_below Hv4.out),Hbb4.out,Hbs.out,hb3.2,VisK.of_below Hv4.out⟩
 have hgs4:=Hbs.out.lt;have hb34:=hb3.2;obtain ⟨HI0,Hseq⟩:=hqq2 hI0 hseq;have hglo4:=Hhi4.out.lt;obtain ⟨t4,cs4,hd4,hd5⟩:=hb34;have hd4l:=hd4.lt;clear hseq hI0 hcells hN0 hb3 hd4 hd5 Hlo4 Hhi4 Hbb4 Hm4 Hbs;refine (wpIn_wide (n:=6)).1 ?_
 refine wpIn_rangeFunc_ownF (F:=Fence.wide) (n:=6) rfl oM (gf:=216) (lb:=#[.pointer (some ⟨gs,0,none⟩)]) rfl trivial (enters_of Tryz.func216 kR rfl) Hseq.out (fun h k=>h.trans k)
  (fun W l o o' hl ho _ _ q hq=>World.cell?_of_block (World.putObj_heap_other (fun e=>by rcases hq with hq | hq <;> omega))) bR (fun _=>rfl)
  (fun pre W=>FInv w Bw gl gb glo gs b3 (.slice A3 N c3) L pre W) (fun _ _ _=>False) (FInv.own Hv4.out.size) (fun _ _ _ _ _ hs _ _=>hs) HI0.out
  (fun x=> { tmps:=#[.pointer (some ⟨gl,0,none⟩),.slice A0 m0 c0,.pointer (some ⟨gb,0,none⟩),undef,.int .i64 0,.int .i64 0,.pointer (some ⟨glo,0,none⟩),.pointer (some ⟨glo+1,0,none⟩),undef,.int .u8 (x.2.toNat:Int),.pointer (some ⟨gl,0,none⟩),.bool false,.pointer (some ⟨gl,0,none⟩),.int .i64 (n:Int),.int .i64 (n1:Int),.slice A0 m0 c0,.slice A3 N c3,.func (.func 216) #[] #[gs],.int .i64 (x.1:Int),.int .u8 (x.2.toNat:Int),undef,undef,undef,undef,undef,undef,undef,undef,undef,undef,undef,undef,undef,undef],defers:= [] }) ?assign ?body ?done ?stop
 case assign=>
  intro l x W K hK
  gi_wp2
  exact hK
 case body=>
  rintro l pre ⟨ix,c⟩ W hI _;obtain ⟨gk,r1,r2,r3,hlb,hwk⟩:=hI.lv;obtain ⟨lo,hlo⟩:=eqx (((pre.map (·.2)).foldl (nN L) (0,L.length)).1);obtain ⟨hi,hhi⟩:=eqx (((pre.map (·.2)).foldl (nN L) (0,L.length)).2);have hfo:=aFE L (pre.map (·.2)) (0,L.length) (zAp _) nL;rw [hlo,hhi] at hfo;obtain ⟨na,ha⟩:∃a,cJ L (c.toNat+1) lo=a:=⟨_,rfl⟩;obtain ⟨nb,hb⟩:∃b,cJ L (c.toNat+1) hi=b:=⟨_,rfl⟩;have hlo':=hI.lo;have hhi':=hI.hi;rw [hlo] at hlo';rw [hhi] at hhi';obtain ⟨Hl,Hwk,Hlo,Hhi,Hbx,Hle⟩:=hqq6 hlb hwk hlo' hhi' hI.box hfo;have Hab:Hid (cJ L (c.toNat+1) lo=na/\cJ L (c.toNat+1) hi=nb):=lhd ⟨ha,hb⟩;have HI:=lhd hI;have Hlh:Hid (((pre.map (·.2)).foldl (nN L) (0,L.length))=(lo,hi)):=lhd (by rw [<-hlo,<-hhi]);clear hlb hwk hlo' hhi' hfo ha hb hI hlo hhi HI0 Hseq
  gi_wp2
  refine wpIn_region_any kR ?_;refine aDP (fun ⟨_,_,h⟩=>h) (aIr kR) _ _ _ _ ?_;refine bZ Bw 13 [21,22,23,24,25,26,27,28,29,20,30,31] (fun b=>b=glo) 12 [0,1,2,3,4,5,6,7,8,9,10,12] (fun w2=>VB Bw W w2) (fun _ w2=>Bk w2 glo 3 #[(na:Int)]) [is gl,is gl,is gl,is gk,is (lo:Int),is (hi:Int),is (.int .u8 (c.toNat:Int)),is (.int .i64 ((c.toNat+1:Nat):Int)),is (.tuple #[(na:Int),(nb:Int)]),is (.tuple #[(na:Int),(nb:Int)]),is (na:Int),is (nb:Int),cR] _ _ rfl dC kR kR kR (VisK.of_below bR.drew) (fun _ _ h _ k=>h.trans k) (fun _ _ _ h k=>k.1.bk h dC dC) tA1 ?_ ?_
  · refine bM ?_;refine sC3 (fun ev w5 _ hU _ _ hold _ _ _ _ hK=>?_) ?_
    · have hpre:=hU rfl;have e2:ev (.tmp 2)=.pointer (some ⟨gb,0,none⟩):=hold 2 kR;replace hpre:VB Bw W w5:=(by first|exact hpre|exact bD hpre);have c9:=(hpre.1.bk Hbx.out dC dC).cell 0;go_simp;exact hK _ _ (aK vR) rfl
    refine sC3 (fun _ w5 _ hU _ _ _ hval _ _ _ hK=>?_) ?_
    · have hpre:=hU rfl;have e21:_=_:=hval 0 21 kR rfl;replace hpre:VB Bw W w5:=(by first|exact hpre|exact bD hpre);have c9:=(hpre.1.bk Hl.out dC dC).cell 0;go_simp;exact hK _ _ (aK vR) rfl
    refine sC3 (fun _ w5 _ hU _ _ _ hval _ _ _ hK=>?_) ?_
    · have hpre:=hU rfl;have e22:_=_:=hval 1 22 kR rfl;replace hpre:VB Bw W w5:=(by first|exact hpre|exact bD hpre);have c9:=(hpre.1.bk Hl.out dC dC).cell 0;go_simp;exact hK _ _ (aK vR) rfl
    refine sC3 (fun _ w5 _ hU _ _ _ hval _ _ _ hK=>?_) ?_
    · have hpre:=hU rfl;have e23:_=_:=hval 2 23 kR rfl;replace hpre:VB Bw W w5:=(by first|exact hpre|exact bD hpre);have c9:=(hpre.1.bk Hl.out dC dC).cell 0;go_simp;exact hK _ _ (aK vR) rfl
    refine sC3 (fun ev w5 _ hU _ _ hold _ _ _ _ hK=>?_) ?_
    · have hpre:=hU rfl;have e6:ev (.tmp 6)=.pointer (some ⟨glo,0,none⟩):=hold 6 kR;replace hpre:VB Bw W w5:=(by first|exact hpre|exact bD hpre);have c9:=(hpre.1.bk Hlo.out dC dC).cell 0;go_simp;exact hK _ _ (aK vR) rfl
    refine sC3 (fun ev w5 _ hU _ _ hold _ _ _ _ hK=>?_) ?_
    · have hpre:=hU rfl;have e7:ev (.tmp 7)=.pointer (some ⟨glo+1,0,none⟩):=hold 7 kR;replace hpre:VB Bw W w5:=(by first|exact hpre|exact bD hpre);have c9:=(hpre.1.bk Hhi.out dC dC).cell 0;go_simp;exact hK _ _ (aK vR) rfl
    refine sC3 (fun ev _ _ hU _ _ hold _ _ _ _ hK=>?_) ?_
    · have hpre:=hU rfl;have e9:ev (.tmp 9)=.int .u8 (c.toNat:Int):=hold 9 kR;go_simp;exact hK _ _ (aK vR) rfl
    refine sC3 (fun _ w5 _ hU _ _ _ hval _ _ _ hK=>?_) ?_
    · have hpre:=hU rfl;have e27:_=_:=hval 6 27 kR rfl;go_simp;refine (pF c w5).mono ?_;rintro e w8 ⟨rfl,hb8⟩;exact hK _ _ (aK (VisK.of_below hb8)) rfl
    refine sC3 (fun _ w5 _ hU _ _ _ hval _ _ _ hK=>?_) ?_
    · have hpre:=hU rfl;have e24:_=_:=hval 3 24 kR rfl;have e25:_=_:=hval 4 25 kR rfl;have e26:_=_:=hval 5 26 kR rfl;have e28:_=_:=hval 7 28 kR rfl;replace hpre:VB Bw W w5:=(by first|exact hpre|exact bD hpre);go_simp;refine (yJ Bw gk L lo hi (c.toNat+1) w5 (Hwk.out.vis hpre.1) (by have:=c.toNat_lt;omega) Hle.out.1 Hle.out.2 HL.out (by rw [Hn.out];omega)).mono ?_;rintro e w8 ⟨rfl,hv8⟩;rw [Hab.out.1,Hab.out.2];exact hK _ _ (aK hv8) rfl
    refine sC3 (fun _ _ _ hU _ _ _ hval _ _ _ hK=>?_) ?_
    · have hpre:=hU rfl;have e29:_=_:=hval 8 29 kR rfl;go_simp;exact hK _ _ (aK vR) rfl
    refine sC3 (fun _ _ _ hU _ _ _ hval _ _ _ hK=>?_) ?_
    · have hpre:=hU rfl;have e20:_=_:=hval 9 20 kR rfl;go_simp;exact hK _ _ (aK vR) rfl
    refine pV3 9 20 ?_;refine sC3 (fun ev w5 _ hU _ _ hold hval _ _ _ hK=>?_) ?_
    · have hpre:=hU rfl;have e6:ev (.tmp 6)=.pointer (some ⟨glo,0,none⟩):=hold 6 kR;have e30:_=_:=hval 10 30 kR rfl;replace hpre:VB Bw W w5:=(by first|exact hpre|exact bD hpre);have k9:=hpre.1.bk Hlo.out dC dC;have c9:=k9.cell 0;have f9:=k9.frozen 0;go_simp;exact hK (.bool true) _ (kB (VFB.put (F:=fun b=>b=glo) (VFB.of_vb vR) (p:=⟨glo,0,none⟩) (.inl rfl) _)) (k9.set 0 _)
    exact aC
  · intro ev w6 f hS hval hall;replace hS:VFB Bw (fun b=>b=glo) W w6:=fD hS;have e31:ev (.tmp 31)=.int .i64 (nb:Int):=hval 11 31 dC rfl;obtain ⟨vJ,pJ0⟩:=hall 12 dC;have pJ:(fun _ w2=>Bk w2 glo 3 #[(na:Int)]) vJ w6:=pJ0;clear pJ0 hall;simp only [aI,zq1,zq2,Act.put,zq3,zq4,zq5];rw [e31];clear hval;have k13:=hS.1.bk Hhi.out dC dC (fun e=>by omega);have c13:=k13.cell 0;have f13:=k13.frozen 0;change wpAny Tryz.prog Region.Mode.any _ _ (1+f) (bV 13 14) _ w6;rw [zCs 1 f];refine aQ (f:=f) (i:=13) kR ?_;refine bW rfl rfl ?_;generalize hK:wpAny Tryz.prog _ _ _ f _=K5;go_simp;subst hK;refine bK kR ?_;have hfold:((pre++ [(ix,c)]).map (·.2)).foldl (nN L) (0,L.length)=(na,nb):=(by rw [zAz,List.foldl_append,Hlh.out];show (cJ L (c.toNat+1) lo,cJ L (c.toNat+1) hi)=_;rw [Hab.out.1,Hab.out.2]);have hz:w.heap.size<=glo:=hgl1;have hne:glo≠glo+1:=oM;have hset0:VFB Bw (fun b=>b=glo∨b=glo+1) W (w6.setCell ⟨glo+1,0,none⟩ (.int .i64 (nb:Int))):=(by exact VFB.put (hS.wider fun b e=>.inl e) (.inl (.inr rfl)) _);have hset:=hset0.1;have hI:=HI.out;obtain ⟨t,cs,hd1,hd2⟩:=hI.dat;have hdt:t≠202/\t≠154/\t≠3:=by simp at hd2;rcases hd2 with rfl | rfl <;> decide
    have hblk:∀b t cs,Bk W b t cs->t≠202->t≠154->t≠3->Bk (w6.setCell ⟨glo+1,0,none⟩ (.int .i64 (nb:Int))) b t cs:=fun b t cs hb h1 h2 h3=>hset.bk hb h1 h2 (fun f=>by
        rcases f with f | f;subst f;exact h3 (aR hb Hlo.out).1
        · subst f;exact h3 (aR hb Hhi.out).1)
    have hlv6:=hI.lv.visI hS.1 Hlo.out pJ;change KeepsOthers W _/\KpB gs b3 W _/\FInv w Bw gl gb glo gs b3 (.slice A3 N c3) L (pre++ [(ix,c)]) _;refine ⟨zS hset (fun b o f ho=>?_),?_,?_,?_,?_,hblk _ _ _ hI.box dC dC dC,hblk _ _ _ hI.bs dC dC dC,⟨t,cs,hblk _ _ _ hd1 hdt.1 hdt.2.1 hdt.2.2,hd2⟩,?_⟩;rcases f with f | f;subst f;have:=Hlo.out;unfold Bk at this;rw [ho] at this;injection this with this;subst this;rfl;subst f;have:=Hhi.out;unfold Bk at this;rw [ho] at this;injection this with this;subst this;rfl
    · intro q hq;rcases hq with hq | hq
      · have e1:=(hblk _ _ _ hI.bs dC dC dC).trans hI.bs.symm;rw [<-hq] at e1;exact World.cell?_of_block e1
      · have e1:=(hblk _ _ _ hd1 hdt.1 hdt.2.1 hdt.2.2).trans hd1.symm;rw [<-hq] at e1;exact World.cell?_of_block e1
    rw [hfold];exact pJ.far (p:=⟨glo+1,0,none⟩) hne _;rw [hfold];exact k13.set 0 _;exact hlv6.sameT fun b t cs ht hb=>hb.far (p:=⟨glo+1,0,none⟩) (fun e=>by subst e;exact ht (aR hb k13).1) _;have h1:VFB Bw (fun b=>b=glo∨b=glo+1) w W:=VFB.of_vb hI.vis;exact (h1.trans hset0).to_vb (fun b hb f=>by rcases f with f | f <;> omega)
 case done=>
  rintro D ys W hD rfl hI hK;have c1:=hI.lo.cell 0;have c2:=hI.hi.cell 0;rw [aKb] at c1 c2;change W.cell? ⟨glo,0,none⟩=some (.int .i64 (((gY L p).1:Nat):Int)) at c1;change W.cell? ⟨glo+1,0,none⟩=some (.int .i64 (((gY L p).2:Nat):Int)) at c2;obtain ⟨r1,hr1⟩:∃r,(gY L p).1=r:=⟨_,rfl⟩;obtain ⟨r2,hr2⟩:∃r,(gY L p).2=r:=⟨_,rfl⟩;rw [hr1] at c1;rw [hr2] at c2;obtain ⟨Hv,HK⟩:=hqq2 hI.vis hK;have HR:Hid ((gY L p).1=r1/\(gY L p).2=r2):=lhd ⟨hr1,hr2⟩;clear hI HI0 Hseq hr1 hr2 hK;go_wp2_with fail;go_quiet (fail);go_wp2_with fail;have HK':(W.drewN nq).heap[D]?=some (.deferred (some [])):=HK.out;refine ⟨by simp,.inl ⟨_,_,rfl,run_takeDeferred HK',?_⟩⟩;refine ⟨_,results_tmp2 rfl _ _ _,by rw [HR.out.1,HR.out.2];rfl,?_⟩;have hv:=Hv.out;have hbD:∀b,b < w.heap.size->((W.drewN nq).putObj D (.deferred none)).heap[b]?=W.heap[b]?:=fun b hb=>World.putObj_heap_other (by have:=Hv4.out.size;omega);have hz:w.heap.size<=((W.drewN nq).putObj D (.deferred none)).heap.size:=by have:=hv.1.size;simpa using this
  refine ⟨⟨hv.1.os,hv.1.tape,hv.1.output,hz,fun b hb hn=>?_⟩,⟨hv.1.os,hv.1.tape,hv.1.output,hz,fun b hb hn=>(hbD b hb).trans (hv.2.block b hb hn)⟩⟩;rcases hv.1.block b hb hn with e |⟨cs,v,e,e'⟩|⟨cs,v,e,e'⟩;exact .inl ((hbD b hb).trans e);exact .inr (.inl ⟨cs,v,e,(hbD b hb).trans e'⟩);exact .inr (.inr ⟨cs,v,e,(hbD b hb).trans e'⟩)
 case stop=>intro D c pre W _ _ h _;exact h.elim
end
end Go.Proofs.YthldmddkfbijhaaGreatDoor
