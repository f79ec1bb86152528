/- Parts of the walk, joined from several texts. Conditions: what each lemma says. -/
import Derived.Test.YtnhmjomhloainaaGreatDoorPq6
set_option linter.all false
set_option maxRecDepth 100000
set_option maxHeartbeats 4000000
namespace Go.Proofs.YtnhmjomhloainaaGreatDoor
open Go.RowKit
theorem xG (A:Option Addr) (m c B:Nat) (l:List Int) (w:World) (bs:List UInt8) (h:jL l=some bs) (hr:Rd w B 1 A m (l.map iv)) (hB:B<=w.heap.size) (hm:m<=1000000):
 Calls Tryz.prog 79 #[.slice A m c] w fun e w'=>e=.returned (.tuple #[.string ⟨bs.toArray⟩,.int .i64 0])/\Below w.heap.size w w':=by
 have hll:l.length=m:=by simpa using hr.1
 have hgood:∀x∈aU l,eG x.1:=by
  unfold jL at h;split at h;assumption
  · cases h
 have hbs:cZ (aU l)=bs:=by rw [jL,zBx hgood] at h;injection h
 have hd:decide (∀x∈l,eG x)=true:=by rw [decide_eq_true_iff];exact (aGu l).2 hgood
 obtain ⟨r,hrr⟩:=eqx (aU l);obtain ⟨q,hq⟩:=eqx r.length;have hqm:q<=m:=by rw [<-hq,<-hrr,<-hll];exact gN l
 have hcnt:∀x∈r,x.2<=m:=fun x hx=>by have:=jA l x (hrr ▸ hx);omega
 rw [hrr] at hgood hbs;obtain ⟨eq,heq⟩:=eqx (bK q);have heql:eq.length<=11:=by rw [<-heq];exact bN q
 have hbs2:eq++r.flatMap bP=bs:=by rw [<-hbs,cZ,hq,heq]
 obtain ⟨Hrr,Hq,Hgood,Hcnt,Hbs,Heq,Hd,Hr⟩:=hqq8 hrr hq hgood hcnt hbs2 heq hd (hr.mono hB);have hB0:=Below.refl w.heap.size w;clear h hr hll hgood hbs hd hrr hq hcnt heq hbs2 hB;go_enter Tryz.func79,Tryz.ntmps79;go_wp2_with fail;refine (aBk _ _ _ _ l _ Hr.out oM).mono ?_;rintro e w1 ⟨rfl,rfl⟩;rw [Hd.out];go_wp2_with fail;refine (aCI _ _ _ _ l _ r q Hrr.out Hq.out Hr.out nL oM).mono ?_;rintro e w2 ⟨A2,c2,rfl,hm2,hb2⟩;have hs2:=hb2.size;have Hr2:=lhd hm2.rd;clear hm2;go_wp2_with fail;refine (fE q _ eq Heq.out oM).mono ?_;rintro e w3 ⟨rfl,hb3⟩;have hB3:=hb2.trans (hb3.mono hs2);have hs3:=hB3.size;have Hr3:=lhd (Hr2.out.below hb3 |>.mono hb3.size);clear hb2 hb3 Hr2 Hr;go_wp2;go_loopw [5,6] (fun v i wr=>∃k:Nat,k<=q/\i=.int .i64 k/\v=.string ⟨(eq++(r.take k).flatMap bP).toArray⟩/\Below w.heap.size w wr/\Below w3.heap.size w3 wr) (fun _ i _=>q -(intOf i).toNat)
 case atStart=>exact ⟨0,zAp _,rfl,by simp,hB3,Below.refl _ _⟩
 case round=>
  obtain ⟨k,hk,rfl,rfl,hb,hb4⟩:=hrel;have hsz:=hb.size;by_cases hlt:k < q
  · obtain ⟨x,hx⟩:∃x,r[k]?=some x:=⟨r[k]'(by have:=Hq.out;omega),zAa (by have:=Hq.out;omega)⟩;have hsx:=Hgood.out x (zAd hx);have hnx:=Hcnt.out x (zAd hx);obtain ⟨b,off,rfl,hbl0,hcell⟩:=(Hr3.out.below hb4 |>.mono hb4.size).2 oM;obtain ⟨s,n⟩:=x;simp only at hsx hnx;obtain ⟨sn,rfl⟩:=Int.eq_ofNat_of_zero_le hsx.1;have hsn:=hsx.2;have d0:wr.cell? ⟨b,off+k*2,none⟩=some (.int .i64 (sn:Int)):=hcell (k*2+0) _ ((dP r k 0 _ hx oM).trans rfl);have d1:wr.cell? ⟨b,off+k*2+1,none⟩=some (.int .i64 (n:Int)):=(by rw [Nat.add_assoc];exact hcell (k*2+1) _ ((dP r k 1 _ hx oM).trans rfl));have hbl:b < wr.heap.size:=hbl0;have hnext:=nW r k _ hx;have hcurl:=mE (r.take k);rw [zAj] at hcurl;obtain ⟨es,hes⟩:=eqx (bK sn);obtain ⟨en,hen⟩:=eqx (bK n);have hesl:es.length<=11:=(by rw [<-hes];exact bN sn);have henl:en.length<=11:=(by rw [<-hen];exact bN n);have hrb:bP ((sn:Int),n)=es++en:=(by rw [<-hes,<-hen];rfl);have hnext2:eq++(r.take (k+1)).flatMap bP=eq++(r.take k).flatMap bP++(es++en):=(by rw [hnext,hrb];simp);have hcurl2:(eq++(r.take k).flatMap bP).length<=11+22*q:=(by rw [zAi];omega);obtain ⟨cur,hcur⟩:=eqx (eq++(r.take k).flatMap bP);rw [hcur] at hnext2 hcurl2;rw [hcur];have happ1:=cS cur es;have happ2:=cS (cur++es) en;obtain ⟨Hes,Hen,Hsn,Hn64,Hnext⟩:=hqq5 hes hen (show sn < 18446744073709551616 by omega) (show n < 18446744073709551616 by omega) hnext2;clear hx hnext hnext2 hcur hes hen hrb hcurl hsx hcell;go_wp2;refine wp_region_any kR ?_;refine aX [22,23,24,25,26,27,28,29,30,31,32,33,34,35,36,37,38,5] Grow (Vs [is (.string ⟨cur.toArray⟩),is (.slice (some ⟨b,off,none⟩) q c2),is (.int .i64 (k:Int)),is (.pointer (some ⟨b,off+k*2,none⟩)),is (.pointer (some ⟨b,off+k*2,none⟩)),is (.int .i64 (sn:Int)),is (.int .u64 (sn:Int)),is (.string ⟨es.toArray⟩),is (.string ⟨(cur++es).toArray⟩),is (.slice (some ⟨b,off,none⟩) q c2),is (.int .i64 (k:Int)),is (.pointer (some ⟨b,off+k*2,none⟩)),is (.pointer (some ⟨b,off+k*2+1,none⟩)),is (.int .i64 (n:Int)),is (.int .u64 (n:Int)),is (.string ⟨en.toArray⟩),is (.string ⟨(cur++(es++en)).toArray⟩),is (.string ⟨(cur++(es++en)).toArray⟩)]) _ _ rfl kR bR (fun _ _=>Grow.trans) (pE (by repeat' (first | exact uF _ | exact pD _ _ _ |(refine zAe.2 ⟨?_,?_⟩)|(intro p hp;cases hp)))) ?_ ?_
    · refine aT ?_;refine sC (fun ev _ _ _ _ hold _ _ _ _ hK=>?_) ?_
      · have e5:ev (.tmp 5)=.string ⟨cur.toArray⟩:=hold 5 kR;go_simp;exact hK _ _ bR rfl
      refine sC (fun ev _ _ _ _ hold _ _ _ _ hK=>?_) ?_
      · have e4:ev (.tmp 4)=.slice (some ⟨b,off,none⟩) q c2:=hold 4 kR;go_simp;exact hK _ _ bR rfl
      refine sC (fun ev _ _ _ _ hold _ _ _ _ hK=>?_) ?_
      · have e6:ev (.tmp 6)=.int .i64 (k:Int):=hold 6 kR;go_simp;exact hK _ _ bR rfl
      refine sC (fun _ _ _ _ _ _ hval _ _ _ hK=>?_) ?_
      · have e23:_=_:=hval 1 23 kR rfl;have e24:_=_:=hval 2 24 kR rfl;go_simp;exact hK _ _ bR rfl
      refine sC (fun _ _ _ _ _ _ hval _ _ _ hK=>?_) ?_
      · have e25:_=_:=hval 3 25 kR rfl;go_simp;exact hK _ _ bR rfl
      refine sC (fun _ w5 hS _ _ _ hval _ _ _ hK=>?_) ?_
      · have e26:_=_:=hval 4 26 kR rfl;have c27:w5.cell? ⟨b,off+k*2,none⟩=some (.int .i64 (sn:Int)):=(Below.cell hS hbl).trans d0;go_simp;exact hK _ _ bR rfl
      refine sC (fun _ _ _ _ _ _ hval _ _ _ hK=>?_) ?_
      · have e27:_=_:=hval 5 27 kR rfl;go_simp;exact hK _ _ bR (gA (by rw [IntKind.wrap_u64];omega))
      refine sC (fun _ _ _ _ _ _ hval _ _ _ hK=>?_) ?_
      · have e28:_=_:=hval 6 28 kR rfl;go_simp;refine (fE sn _ es Hes.out Hsn.out).mono ?_;rintro e w8 ⟨rfl,hb8⟩;exact hK _ _ hb8 rfl
      refine sC (fun _ _ _ _ _ _ hval _ _ _ hK=>?_) ?_
      · have e22:_=_:=hval 0 22 kR rfl;have e29:_=_:=hval 7 29 kR rfl;go_simp;rw [zBw oM];exact hK _ _ bR rfl
      refine sC (fun ev _ _ _ _ hold _ _ _ _ hK=>?_) ?_
      · have e4:ev (.tmp 4)=.slice (some ⟨b,off,none⟩) q c2:=hold 4 kR;go_simp;exact hK _ _ bR rfl
      refine sC (fun ev _ _ _ _ hold _ _ _ _ hK=>?_) ?_
      · have e6:ev (.tmp 6)=.int .i64 (k:Int):=hold 6 kR;go_simp;exact hK _ _ bR rfl
      refine sC (fun _ _ _ _ _ _ hval _ _ _ hK=>?_) ?_
      · have e31:_=_:=hval 9 31 kR rfl;have e32:_=_:=hval 10 32 kR rfl;go_simp;exact hK _ _ bR rfl
      refine sC (fun _ _ _ _ _ _ hval _ _ _ hK=>?_) ?_
      · have e33:_=_:=hval 11 33 kR rfl;go_simp;exact hK _ _ bR rfl
      refine sC (fun _ w5 hS _ _ _ hval _ _ _ hK=>?_) ?_
      · have e34:_=_:=hval 12 34 kR rfl;have c35:w5.cell? ⟨b,off+k*2+1,none⟩=some (.int .i64 (n:Int)):=(Below.cell hS hbl).trans d1;go_simp;exact hK _ _ bR rfl
      refine sC (fun _ _ _ _ _ _ hval _ _ _ hK=>?_) ?_
      · have e35:_=_:=hval 13 35 kR rfl;go_simp;exact hK _ _ bR (gA (by rw [IntKind.wrap_u64];omega))
      refine sC (fun _ _ _ _ _ _ hval _ _ _ hK=>?_) ?_
      · have e36:_=_:=hval 14 36 kR rfl;go_simp;refine (fE n _ en Hen.out Hn64.out).mono ?_;rintro e w8 ⟨rfl,hb8⟩;exact hK _ _ hb8 rfl
      refine sC (fun _ _ _ _ _ _ hval _ _ _ hK=>?_) ?_
      · have e30:_=_:=hval 8 30 kR rfl;have e37:_=_:=hval 15 37 kR rfl;go_simp;rw [zBw oM];exact hK _ _ bR rfl
      refine sC (fun _ _ _ _ _ _ hval _ _ _ hK=>?_) ?_
      · have e38:_=_:=hval 16 38 kR rfl;go_simp;exact hK _ _ bR rfl
      exact aG
    · intro ev w6 hS hval;have e5:ev (.tmp 5)=.string ⟨(cur++(es++en)).toArray⟩:=hval 17 5 rfl;simp only [aO,zq1,zq2,Act.put,zq3,zq4,zq5];rw [e5];clear hval;have hB6:=hb.drew.trans (Below.mono hS hsz);have hB7:=hb4.drew.trans (Below.mono hS hb4.size);generalize ev (Operand.tmp 22)=x22;go_wp2;go_roundw
      case rel=>exact ⟨k+1,by omega,by go_num,by rw [Hnext.out],hB6,hB7⟩
      case measure=>simp [intOf];omega
  · have hkq:k=q:=oM;have hge:q<=k:=oM;have htk:r.take k=r:=zAg (by have:=Hq.out;omega);rw [htk,Hbs.out];clear hkq htk;go_wp2;go_ret2;exact ⟨rfl,hb⟩
def aEY (B:Nat) (bs:List Bool):Value->World->Prop:=fun v w=>∃gb,v=.tuple #[.pointer (some ⟨gb,0,none⟩),.int .i64 0]/\Bk w gb 254 (gK bs)/\B<=gb
def aGR (B:Nat) (bs:List Bool):Value->World->Prop:=fun v w=>∃gb,v=.pointer (some ⟨gb,0,none⟩)/\Bk w gb 254 (gK bs)/\B<=gb
theorem aEk (B:Nat) (bs:List Bool):xM (fun _=>False) (aEY B bs):=fun _ _ _ ⟨gb,h1,h2,h3⟩ k=>⟨gb,h1,k.bk h2 (fun h=>h),h3⟩
theorem aEl (B:Nat) (bs:List Bool):xM (fun _=>False) (aGR B bs):=fun _ _ _ ⟨gb,h1,h2,h3⟩ k=>⟨gb,h1,k.bk h2 (fun h=>h),h3⟩
theorem Leaf.mono {w:World} {B B' gt ga gl cl gb:Nat} {rt v:Int} {bs:List Bool} (h:Leaf w B gt ga gl cl gb rt v bs) (hB:B'<=B):Leaf w B' gt ga gl cl gb rt v bs:=by
 obtain ⟨A,c,h1,h2⟩:=h.arena;exact ⟨h.tree,bX h.row hB,h.blk,A,c,h1,h2.mono hB⟩
theorem aEX (gt ga:Nat) (v:Int) (A:Option Addr) (m c B:Nat) (bs:List Bool) (w:World) (ht:Bk w gt 223 #[.pointer (some ⟨ga,0,none⟩),.slice none 0 0,.int .i64 (-1),.int .i64 v]) (ha:Bk w ga 215 #[.slice none 0 0,.slice none 0 0,.int .i64 268435456]) (hr:Rd w B 1 A m (bs.map Value.bool)) (hB:B<=w.heap.size) (hm:m<=128) (hmc:m<=c):
 Calls Tryz.prog 261 #[.pointer (some ⟨gt,0,none⟩),.slice A m c,.int .i64 0,.int .i64 1,.int .i64 1] w fun e w'=>e=.returned (.int .i64 0)/\Keep (fun b=>b=ga∨b=gt) w w'/\∃gl cl gb,Leaf w' w.heap.size gt ga gl cl gb (-1) v bs/\w.heap.size<=gb:=by
 have hbl:bs.length=m:=by simpa using hr.1
 have hd1:((m:Int)*1).tdiv 1=(m:Int):=by rw [Int.mul_one,Int.tdiv_one]
 have hgt:=ht.lt;have hga:=ha.lt;obtain ⟨Ht,Ha,Hr,Hbl,HW⟩:=hqq5 ht ha (hr.mono hB) hbl (Below.refl w.heap.size w);clear ht ha hr hbl;go_enter Tryz.func261,Tryz.ntmps261;go_wp2_with fail;refine wp_region_any kR ?_;refine cB [20,21,22,23,24,25,26,27,28,29,30,31,32,33,34,19,35,36,11,12] (fun _=>False) 19 [] (fun _=>True) (dJ) [is (.slice A m c),is (.slice A m c),is (.int .i64 (m:Int)),is (.int .i64 0),is (.int .i64 0),is (.int .i64 1),is (.int .i64 0),is (.slice A m c),is (.int .i64 (m:Int)),is (.int .i64 1),is (.int .i64 (m:Int)),is (.int .i64 1),is (.int .i64 (m:Int)),is (.slice A m c),aEY w.heap.size bs,aEY w.heap.size bs,aGR w.heap.size bs,is (.int .i64 0),aGR w.heap.size bs,dJ] _ _ rfl kR kR (trivial) (fun _ _ _ _ _=>trivial) (fun _ _ _ _ _=>trivial) (by repeat' (first | exact cL _ _ | exact bV _ | exact aEk _ _ | exact aEl _ _ |(refine zAe.2 ⟨?_,?_⟩)|(intro p hp;cases hp))) ?_ ?_
 · refine aT ?_;refine pH3 1 (.slice A m c) ?_;refine pH3 1 (.slice A m c) ?_;refine pV3 1 21 ?_;refine pH3 2 (.int .i64 0) ?_;refine sC3 (fun _ _ _ _ _ _ _ hval _ _ _ hK=>?_) ?_
   · have e22:_=_:=hval 2 22 kR rfl;have e23:_=_:=hval 3 23 kR rfl;go_simp;exact hK _ _ (aP bR) (eB (by simp [IntKind.wrap_i64] <;> omega))
   refine pH3 4 (.int .i64 1) ?_;refine sC3 (fun _ _ _ _ _ _ _ hval _ _ _ hK=>?_) ?_
   · have e24:_=_:=hval 4 24 kR rfl;have e25:_=_:=hval 5 25 kR rfl;go_simp;exact hK _ _ (aP bR) (eB (by simp [IntKind.wrap_i64] <;> omega))
   refine pH3 1 (.slice A m c) ?_;refine pV3 7 27 ?_;refine pH3 3 (.int .i64 1) ?_;refine sC3 (fun _ _ _ _ _ _ _ hval _ _ _ hK=>?_) ?_
   · have e28:_=_:=hval 8 28 kR rfl;have e29:_=_:=hval 9 29 kR rfl;go_simp;exact hK _ _ (aP bR) (eB (by simp [IntKind.wrap_i64] <;> omega))
   refine pH3 4 (.int .i64 1) ?_;refine sC3 (fun _ _ _ _ _ _ _ hval _ _ _ hK=>?_) ?_
   · have e30:_=_:=hval 10 30 kR rfl;have e31:_=_:=hval 11 31 kR rfl;go_simp;exact hK _ _ (aP bR) (eB (by simp [IntKind.wrap_i64] <;> omega))
   refine sC3 (fun _ _ _ _ _ _ _ hval _ _ _ hK=>?_) ?_
   · have e20:_=_:=hval 0 20 kR rfl;have e26:_=_:=hval 6 26 kR rfl;have e32:_=_:=hval 12 32 kR rfl;go_simp;exact kq hK rfl
   refine sC3 (fun _ w5 hS _ _ _ _ hval _ _ _ hK=>?_) ?_
   · replace hS:Keep (fun _=>False) w w5:=kD hS;have e33:_=_:=hval 13 33 kR rfl;go_simp;have hr5:=hS.rd Hr.out nL (fun _ _ h=>h);refine (lM A m c w.heap.size bs w5 hr5 hS.size hm).mono ?_;rintro e w8 ⟨rfl,hb8,hk8⟩;exact hK _ _ (aP hk8) ⟨_,rfl,hb8,hS.size⟩
   refine sC3 (fun ev w5 _ _ _ _ _ hval _ _ _ hK=>?_) ?_
   · have p34:(aEY w.heap.size bs) (ev (.tmp 34)) w5:=hval 14 34 kR rfl;go_simp;exact hK _ _ (aP bR) p34
   refine sC3 (fun ev w5 _ _ _ _ _ hval _ _ ha hK=>?_) ?_
   · have p19:(aEY w.heap.size bs) (ev (.tmp 19)) w5:=hval 15 19 kR rfl;go_simp;obtain ⟨gb,e19,hb9,hg9⟩:=p19;subst ha;rw [e19];go_simp;exact hK _ _ (aP bR) ⟨gb,rfl,hb9,hg9⟩
   refine sC3 (fun ev w5 _ _ _ _ _ hval _ _ ha hK=>?_) ?_
   · have p19:(aEY w.heap.size bs) (ev (.tmp 19)) w5:=hval 15 19 kR rfl;go_simp;obtain ⟨gb,e19,hb9,hg9⟩:=p19;subst ha;rw [e19];go_simp;exact kq hK rfl
   refine sC3 (fun ev w5 _ _ _ _ _ hval _ _ _ hK=>?_) ?_
   · have p35:(aGR w.heap.size bs) (ev (.tmp 35)) w5:=hval 16 35 kR rfl;go_simp;exact hK _ _ (aP bR) p35
   refine sC3 (fun _ _ _ _ _ _ _ hval _ _ _ hK=>?_) ?_
   · have e36:_=_:=hval 17 36 kR rfl;go_simp;exact hK _ _ (aP bR) trivial
   exact aG
 · intro ev w6 hS hval hall;replace hS:Keep (fun _=>False) w w6:=kD hS;have p11:(aGR w.heap.size bs) (ev (.tmp 11)) w6:=hval 18 11 rfl;have e36:ev (.tmp 36)=.int .i64 0:=hval 17 36 rfl;obtain ⟨vJ,pJ⟩:∃vJ0,(dJ) vJ0 w6:=hall 19 dC;simp only [aO,zq1,zq2,Act.put,zq3,zq4,zq5];rw [e36];clear hval hall;obtain ⟨gb,e11,hb6,hg6⟩:=p11;rw [e11];have ht6:=hS.bk Ht.out (fun h=>h);have ha6:=hS.bk Ha.out (fun h=>h);have hs6:=hS.size;have HS:=lhd hS;clear hS;go_wp2_with fail;refine (uV gt ga gb v bs w6 ht6 ha6 hb6 (by rw [Hbl.out];exact hm)).mono ?_;rintro e w7 ⟨rfl,hk7,gl,cl,h7⟩;go_wp2_with fail;go_ret;exact ⟨rfl,(HS.out.mono (fun _ _ h=>h.elim)).trans hk7,gl,cl,gb,h7.mono hs6,hg6⟩
theorem aB {w w':World} {B:Nat} {e:TypeId} {sz n:Nat} {v:Value} {xs:List Value} (h:w.ownsRow B e sz v n xs) (hs:∀b cs,v.ownBlock=some b->Bk w b e cs->Bk w' b e cs):w'.ownsRow B e sz v n xs:=by
 refine ⟨h.1,?_⟩;rcases h.2 with h1 |⟨g,cap,cur,h1,h2,h3,h4⟩;exact .inl h1;exact .inr ⟨g,cap,cur,h1,h2,hs g cur (by rw [h1];rfl) h3,h4⟩
theorem nH {w w':World} {B:Nat} {e:TypeId} {sz n c:Nat} {A:Option Addr} {xs:List Value} (h:Made w B e sz A n c xs) (hs:∀b cs,Bk w b e cs->Bk w' b e cs):Made w' B e sz A n c xs:=by
 have h1:=aB (w':=w') h.own fun b cs _=>hs b cs;exact ⟨h1,Rd.of_own h1,h.cap,h.max⟩
structure VisF (F:Nat->Prop) (w w':World):Prop where
 os:w'.os=w.os
 tape:w'.tape=w.tape
 output:w'.output=w.output
 size:w.heap.size<=w'.heap.size
 block:∀b,b < w.heap.size->¬F b->w'.heap[b]?=w.heap[b]?∨(∃cs v,Bk w b 223 cs/\Bk w' b 223 (cs.setIfInBounds 3 (.int .i64 v)))∨(∃cs v,Bk w b 170 cs/\Bk w' b 170 (cs.setIfInBounds 10 (.int .i64 v)))
abbrev Vis:World->World->Prop:=VisF (fun _=>False)
theorem Vis.refl (w:World):Vis w w:=⟨rfl,rfl,rfl,zAs _,fun _ _ _=>.inl rfl⟩
theorem VisF.of_vis {F:Nat->Prop} {w w':World} (h:Vis w w'):VisF F w w':=⟨h.os,h.tape,h.output,h.size,fun b hb _=>h.block b hb (fun x=>x)⟩
theorem VisF.of_keep {F:Nat->Prop} {w w':World} (h:Keep F w w'):VisF F w w':=⟨h.os,h.tape,h.output,h.size,fun b hb hn=>.inl (h.block b hb hn)⟩
theorem VisF.to_vis {F:Nat->Prop} {w w':World} (h:VisF F w w') (hf:∀b,b < w.heap.size->¬F b):Vis w w':=⟨h.os,h.tape,h.output,h.size,fun b hb _=>h.block b hb (hf b hb)⟩
theorem set_set (cs:Array Value) (i:Nat) (u v:Value):(cs.setIfInBounds i u).setIfInBounds i v=cs.setIfInBounds i v:=by
 apply Array.ext
 · simp
 · intro j h1 h2;simp [Array.getElem_setIfInBounds]
theorem aM {w:World} {g:Nat} {t t':TypeId} {cs cs':Array Value} (h:Bk w g t cs) (h':Bk w g t' cs'):t=t'/\cs=cs':=by
 unfold Bk at h h';rw [h] at h';injection h' with h';injection h' with h1 h2;exact ⟨h2,h1⟩
theorem VisF.trans {F:Nat->Prop} {w w1 w':World} (h:VisF F w w1) (k:VisF F w1 w'):VisF F w w':=by
 refine ⟨k.os.trans h.os,k.tape.trans h.tape,k.output.trans h.output,zAk h.size k.size,fun b hb hn=>?_⟩;have hb1:b < w1.heap.size:=zAl hb h.size;rcases h.block b hb hn with e1 |⟨cs,v,e1,e2⟩|⟨cs,v,e1,e2⟩<;> rcases k.block b hb1 hn with f1 |⟨cs',v',f1,f2⟩|⟨cs',v',f1,f2⟩;exact .inl (f1.trans e1);exact .inr (.inl ⟨cs',v',e1.symm.trans f1,f2⟩);exact .inr (.inr ⟨cs',v',e1.symm.trans f1,f2⟩);exact .inr (.inl ⟨cs,v,e1,f1.trans e2⟩);obtain ⟨_,rfl⟩:=aM e2 f1;rw [set_set] at f2;exact .inr (.inl ⟨cs,v',e1,f2⟩);exact absurd (aM e2 f1).1 dC;exact .inr (.inr ⟨cs,v,e1,f1.trans e2⟩);exact absurd (aM e2 f1).1 dC;obtain ⟨_,rfl⟩:=aM e2 f1;rw [set_set] at f2;exact .inr (.inr ⟨cs,v',e1,f2⟩)
theorem Vis.trans {w w1 w':World} (h:Vis w w1) (k:Vis w1 w'):Vis w w':=VisF.trans h k
theorem Vis.of_below {w w':World} (h:Below w.heap.size w w'):Vis w w':=⟨h.os,h.tape,h.output,h.size,fun b hb _=>.inl (h.block b hb)⟩
theorem Vis.set_tree {w:World} {g:Nat} {cs:Array Value} (h:Bk w g 223 cs) (v:Int):Vis w (w.setCell ⟨g,3,none⟩ (.int .i64 v)):=by
 refine ⟨rfl,rfl,rfl,by simp [World.setCell],fun b hb _=>?_⟩;by_cases e:b=g;subst e;exact .inr (.inl ⟨cs,v,h,h.set 3 _⟩);exact .inl (heap_setCell_other w ⟨g,3,none⟩ b _ (fun x=>e x))
theorem Vis.set_wave {w:World} {g:Nat} {cs:Array Value} (h:Bk w g 170 cs) (v:Int):Vis w (w.setCell ⟨g,10,none⟩ (.int .i64 v)):=by
 refine ⟨rfl,rfl,rfl,by simp [World.setCell],fun b hb _=>?_⟩;by_cases e:b=g;subst e;exact .inr (.inr ⟨cs,v,h,h.set 10 _⟩);exact .inl (heap_setCell_other w ⟨g,10,none⟩ b _ (fun x=>e x))
theorem VisF.put {F:Nat->Prop} {w w1:World} (h:VisF F w w1) {p:Addr} (hp:F p.block∨w.heap.size<=p.block) (u:Value):VisF F w (w1.setCell p u):=by
 refine ⟨h.os,h.tape,h.output,by simpa [World.setCell] using h.size,fun b hb hn=>?_⟩;have e:(w1.setCell p u).heap[b]?=w1.heap[b]?:=heap_setCell_other w1 p b u (fun x=>by
  rcases hp with hp | hp;rw [<-x] at hp;exact hn hp
  · omega)
 rcases h.block b hb hn with e1 |⟨cs,v,e1,e2⟩|⟨cs,v,e1,e2⟩;exact .inl (e.trans e1);exact .inr (.inl ⟨cs,v,e1,e.trans e2⟩);exact .inr (.inr ⟨cs,v,e1,e.trans e2⟩)
theorem Vis.fresh {w w1:World} (h:Vis w w1) {p:Addr} (hp:w.heap.size<=p.block) (u:Value):Vis w (w1.setCell p u):=VisF.put h (.inr hp) u
theorem Vis.alloc {w w1:World} (h:Vis w w1) (o:Obj):Vis w (w1.alloc o):=h.trans (Vis.of_below (bR.alloc nL _))
theorem Vis.below {w w1 w2:World} (h:Vis w w1) (k:Below w1.heap.size w1 w2):Vis w w2:=h.trans (Vis.of_below k)
theorem VisF.bk {F:Nat->Prop} {w w':World} {g:Nat} {t:TypeId} {cs:Array Value} (h:VisF F w w') (hb:Bk w g t cs) (h1:t≠223) (h2:t≠170) (hn:¬F g):Bk w' g t cs:=by
 rcases h.block g hb.lt hn with e1 |⟨cs',v,e1,e2⟩|⟨cs',v,e1,e2⟩;exact e1.trans hb;exact absurd (aM hb e1).1 h1;exact absurd (aM hb e1).1 h2
theorem VisF.tree {F:Nat->Prop} {w w':World} {g:Nat} {a b c:Value} {v:Int} (h:VisF F w w') (hb:Bk w g 223 #[a,b,c,.int .i64 v]) (hn:¬F g):∃v',Bk w' g 223 #[a,b,c,.int .i64 v']:=by
 rcases h.block g hb.lt hn with e1 |⟨cs',v',e1,e2⟩|⟨cs',v',e1,e2⟩;exact ⟨v,e1.trans hb⟩;obtain ⟨_,rfl⟩:=aM hb e1;exact ⟨v',e2⟩;exact absurd (aM hb e1).1 dC
theorem VisF.wave {F:Nat->Prop} {w w':World} {g:Nat} {cs:Array Value} (h:VisF F w w') (hb:Bk w g 170 cs) (hn:¬F g):Bk w' g 170 cs∨∃v',Bk w' g 170 (cs.setIfInBounds 10 (.int .i64 v')):=by
 rcases h.block g hb.lt hn with e1 |⟨cs',v',e1,e2⟩|⟨cs',v',e1,e2⟩;exact .inl (e1.trans hb);exact absurd (aM hb e1).1 dC;obtain ⟨_,rfl⟩:=aM hb e1;exact .inr ⟨v',e2⟩
theorem Vis.bk {w w':World} {g:Nat} {t:TypeId} {cs:Array Value} (h:Vis w w') (hb:Bk w g t cs) (h1:t≠223) (h2:t≠170):Bk w' g t cs:=VisF.bk h hb h1 h2 (fun x=>x)
theorem Vis.tree {w w':World} {g:Nat} {a b c:Value} {v:Int} (h:Vis w w') (hb:Bk w g 223 #[a,b,c,.int .i64 v]):∃v',Bk w' g 223 #[a,b,c,.int .i64 v']:=VisF.tree h hb (fun x=>x)
theorem Vis.wave {w w':World} {g:Nat} {cs:Array Value} (h:Vis w w') (hb:Bk w g 170 cs):Bk w' g 170 cs∨∃v',Bk w' g 170 (cs.setIfInBounds 10 (.int .i64 v')):=VisF.wave h hb (fun x=>x)
def VisK (F:Nat->Prop) (w w':World):Prop:=Vis w w'/\Keep F w w'
theorem VisK.refl (F:Nat->Prop) (w:World):VisK F w w:=⟨Vis.refl w,Keep.refl F w⟩
theorem vR {F:Nat->Prop} {w:World}:VisK F w w:=VisK.refl F w
theorem VisK.trans {F:Nat->Prop} {w w1 w':World} (h:VisK F w w1) (k:VisK F w1 w'):VisK F w w':=⟨h.1.trans k.1,h.2.trans k.2⟩
theorem VisK.below {F:Nat->Prop} {w w1 w':World} (h:VisK F w w1) (k:Below w1.heap.size w1 w'):VisK F w w':=⟨h.1.trans (Vis.of_below k),h.2.trans (Keep.of_below k)⟩
theorem VisK.of_below {F:Nat->Prop} {w w':World} (k:Below w.heap.size w w'):VisK F w w':=(VisK.refl F w).below k
theorem VisK.alloc {F:Nat->Prop} {w w1:World} (h:VisK F w w1) (o:Obj):VisK F w (w1.alloc o):=h.below (bR.alloc nL _)
theorem VisK.set_tree {w:World} {g:Nat} {cs:Array Value} (h:Bk w g 223 cs) (v:Int):VisK (fun b=>b=g) w (w.setCell ⟨g,3,none⟩ (.int .i64 v)):=⟨Vis.set_tree h v,Keep.setCell (F:=fun b=>b=g) (Keep.refl _ _) (p:=⟨g,3,none⟩) (.inl rfl) _⟩
theorem VisK.mono {F G:Nat->Prop} {w w':World} (h:VisK F w w') (hf:∀b,F b->G b):VisK G w w':=⟨h.1,h.2.mono fun b _=>hf b⟩
theorem Vis.own {w w':World} {B:Nat} {e:TypeId} {sz n:Nat} {v:Value} {xs:List Value} (k:Vis w w') (h:w.ownsRow B e sz v n xs) (h1:e≠223) (h2:e≠170):w'.ownsRow B e sz v n xs:=
 aB h fun b cs _ hb=>k.bk hb h1 h2
theorem Vis.made {w w':World} {B:Nat} {e:TypeId} {sz n c:Nat} {A:Option Addr} {xs:List Value} (k:Vis w w') (h:Made w B e sz A n c xs) (h1:e≠223) (h2:e≠170):Made w' B e sz A n c xs:=
 nH h fun b cs hb=>k.bk hb h1 h2
def RdT (w:World) (t:TypeId) (A:Option Addr) (n:Nat) (xs:List Value):Prop:=
 xs.length=n/\(0 < n->∃b off cs,A=some ⟨b,off,none⟩/\Bk w b t cs/\∀j u,xs[j]?=some u->cs[off+j]?=some u)
theorem RdT.rd {w:World} {t:TypeId} {A:Option Addr} {n:Nat} {xs:List Value} (h:RdT w t A n xs):Rd w w.heap.size 1 A n xs:=by
 refine ⟨by rw [h.1,zBl],fun hn=>?_⟩;obtain ⟨b,off,cs,e,hb,hc⟩:=h.2 hn;exact ⟨b,off,e,hb.lt,fun j u hu=>(hb.cell _).trans (hc j u hu)⟩
theorem RdT.same {w w':World} {t:TypeId} {A:Option Addr} {n:Nat} {xs:List Value} (h:RdT w t A n xs) (hs:∀b cs,Bk w b t cs->Bk w' b t cs):RdT w' t A n xs:=by
 refine ⟨h.1,fun hn=>?_⟩;obtain ⟨b,off,cs,e,hb,hc⟩:=h.2 hn;exact ⟨b,off,cs,e,hs b cs hb,hc⟩
structure LeafV (w:World) (B gt ga gl cl gb:Nat) (rt v:Int) (bs:List Bool):Prop where
 tree:Bk w gt 223 #[.pointer (some ⟨ga,0,none⟩),.slice (some ⟨gl,0,none⟩) 1 cl,.int .i64 rt,.int .i64 v]
 row:RowS B gl cl gb (bs.length:Int) ((bs.count true:Nat):Int) w
 blk:Bk w gb 254 (gK bs)
theorem Leaf.toV {w:World} {B gt ga gl cl gb:Nat} {rt v:Int} {bs:List Bool} (h:Leaf w B gt ga gl cl gb rt v bs):LeafV w 0 gt ga gl cl gb rt v bs:=⟨h.tree,bX h.row (zAp _),h.blk⟩
theorem LeafV.vis {w w':World} {B gt ga gl cl gb:Nat} {rt v:Int} {bs:List Bool} (h:LeafV w B gt ga gl cl gb rt v bs) (k:Vis w w'):∃v',LeafV w' B gt ga gl cl gb rt v' bs:=by
 obtain ⟨v',h1⟩:=k.tree h.tree;exact ⟨v',h1,k.own h.row dC dC,k.bk h.blk dC dC⟩
def TreeAt (w:World) (gt:Nat) (bs:List Bool):Prop:=
 ∃(ga:Nat) (v:Int),(bs= []/\∃vl,Bk w gt 223 #[.pointer (some ⟨ga,0,none⟩),vl,.int .i64 (-1),.int .i64 v])∨(bs≠ []/\bs.length<=128/\∃gl cl gb,LeafV w 0 gt ga gl cl gb 0 v bs)
theorem TreeAt.vis {w w':World} {gt:Nat} {bs:List Bool} (h:TreeAt w gt bs) (k:Vis w w'):TreeAt w' gt bs:=by
 obtain ⟨ga,v,⟨h1,vl,h2⟩|⟨h1,h2,gl,cl,gb,h3⟩⟩:=h;obtain ⟨v',h4⟩:=k.tree h2;exact ⟨ga,v',.inl ⟨h1,vl,h4⟩⟩;obtain ⟨v',h4⟩:=h3.vis k;exact ⟨ga,v',.inr ⟨h1,h2,gl,cl,gb,h4⟩⟩
theorem TreeAt.same {w w':World} {gt:Nat} {bs:List Bool} (h:TreeAt w gt bs) (k:∀b t cs,t∈ [223,215,226,254,4]->Bk w b t cs->Bk w' b t cs):TreeAt w' gt bs:=by
 obtain ⟨ga,v,⟨h1,vl,h2⟩|⟨h1,h2,gl,cl,gb,h3⟩⟩:=h;exact ⟨ga,v,.inl ⟨h1,vl,k _ _ _ dC h2⟩⟩;exact ⟨ga,v,.inr ⟨h1,h2,gl,cl,gb,k _ _ _ dC h3.tree,aB h3.row fun b cs _ hb=>k _ _ _ dC hb,k _ _ _ dC h3.blk⟩⟩
theorem TreeAt.below {w w':World} {gt:Nat} {bs:List Bool} (h:TreeAt w gt bs) (k:Below w.heap.size w w'):TreeAt w' gt bs:=h.same fun b t cs _ hb=>hb.below k hb.lt
theorem TreeAt.lt {w:World} {gt:Nat} {bs:List Bool} (h:TreeAt w gt bs):gt < w.heap.size:=by
 obtain ⟨ga,v,⟨h1,vl,h2⟩|⟨h1,h2,gl,cl,gb,h3⟩⟩:=h;exact h2.lt;exact h3.tree.lt
def TreeB (w:World) (B gt:Nat) (bs:List Bool):Prop:=
 ∃(ga:Nat) (v:Int),B<=gt/\B<=ga/\((bs= []/\Bk w gt 223 #[.pointer (some ⟨ga,0,none⟩),.slice none 0 0,.int .i64 (-1),.int .i64 v]/\Bk w ga 215 #[.slice none 0 0,.slice none 0 0,.int .i64 268435456])∨(bs≠ []/\bs.length<=128/\∃gl cl gb,B<=gb/\Leaf w B gt ga gl cl gb 0 v bs))
theorem TreeB.at {w:World} {B gt:Nat} {bs:List Bool} (h:TreeB w B gt bs):TreeAt w gt bs:=by
 obtain ⟨ga,v,_,_,⟨h1,h2,h3⟩|⟨h1,h2,gl,cl,gb,_,h3⟩⟩:=h;exact ⟨ga,v,.inl ⟨h1,_,h2⟩⟩;exact ⟨ga,v,.inr ⟨h1,h2,gl,cl,gb,h3.toV⟩⟩
theorem TreeB.keep {w w':World} {F:Nat->Prop} {B gt:Nat} {bs:List Bool} (h:TreeB w B gt bs) (k:Keep F w w') (hf:∀b,F b->b < B):TreeB w' B gt bs:=by
 obtain ⟨ga,v,l1,l2,⟨h1,h2,h3⟩|⟨h1,h2,gl,cl,gb,l3,h3⟩⟩:=h;exact ⟨ga,v,l1,l2,.inl ⟨h1,k.bk h2 (fun f=>by have:=hf _ f;omega),k.bk h3 (fun f=>by have:=hf _ f;omega)⟩⟩;obtain ⟨A,c,h4,h5⟩:=h3.arena;exact ⟨ga,v,l1,l2,.inr ⟨h1,h2,gl,cl,gb,l3,k.bk h3.tree (fun f=>by have:=hf _ f;omega),rF h3.row k hf,k.bk h3.blk (fun f=>by have:=hf _ f;omega),A,c,k.bk h4 (fun f=>by have:=hf _ f;omega),h5.keepF k hf⟩⟩
theorem TreeB.below {w w':World} {B gt:Nat} {bs:List Bool} (h:TreeB w B gt bs) (k:Below w.heap.size w w'):TreeB w' B gt bs:=h.keep (F:=fun _=>False) (Keep.of_below k) (fun _ f=>f.elim)
theorem TreeB.mono {w:World} {B B' gt:Nat} {bs:List Bool} (h:TreeB w B gt bs) (hB:B'<=B):TreeB w B' gt bs:=by
 obtain ⟨ga,v,l1,l2,⟨h1,h2,h3⟩|⟨h1,h2,gl,cl,gb,l3,h3⟩⟩:=h;exact ⟨ga,v,by omega,by omega,.inl ⟨h1,h2,h3⟩⟩;exact ⟨ga,v,by omega,by omega,.inr ⟨h1,h2,gl,cl,gb,by omega,h3.mono hB⟩⟩
theorem LeafV.cells {w:World} {B gt ga gl cl gb:Nat} {rt v:Int} {bs:List Bool} (h:LeafV w B gt ga gl cl gb rt v bs):
 w.cell? ⟨gt,0,none⟩=some (.pointer (some ⟨ga,0,none⟩))/\w.cell? ⟨gt,1,none⟩=some (.slice (some ⟨gl,0,none⟩) 1 cl)/\w.cell? ⟨gt,2,none⟩=some (.int .i64 rt)/\w.cell? ⟨gt,3,none⟩=some (.int .i64 v)/\
 w.cell? ⟨gl,0,none⟩=some (.int .i64 (-1))/\w.cell? ⟨gl,1,none⟩=some (.int .i64 (-1))/\w.cell? ⟨gl,2,none⟩=some (.int .i64 0)/\w.cell? ⟨gl,3,none⟩=some (.int .i64 (bs.length:Int))/\w.cell? ⟨gl,4,none⟩=some (.int .i64 ((bs.count true:Nat):Int))/\w.cell? ⟨gl,5,none⟩=some (.int .i64 0)/\w.cell? ⟨gl,6,none⟩=some (.int .i64 0)/\w.cell? ⟨gl,7,none⟩=some (.pointer (some ⟨gb,0,none⟩)):=by
 have k:=fun j hj=>World.ownsRow.cellAt h.row j hj;exact ⟨(h.tree.cell 0).trans rfl,(h.tree.cell 1).trans rfl,(h.tree.cell 2).trans rfl,(h.tree.cell 3).trans rfl,(k 0 oM).trans rfl,(k 1 oM).trans rfl,(k 2 oM).trans rfl,(k 3 oM).trans rfl,(k 4 oM).trans rfl,(k 5 oM).trans rfl,(k 6 oM).trans rfl,(k 7 oM).trans rfl⟩
theorem fW (gt:Nat) (bs:List Bool) (w:World) (h:TreeAt w gt bs):
 Calls Tryz.prog 212 #[.pointer (some ⟨gt,0,none⟩)] w fun e w'=>e=.returned (.int .i64 (bs.length:Int))/\Below w.heap.size w w':=by
 obtain ⟨ga,v,⟨rfl,vl,h2⟩|⟨h1,h2,gl,cl,gb,h3⟩⟩:=h
 · have c2:w.cell? ⟨gt,2,none⟩=some (.int .i64 (-1)):=(h2.cell 2).trans rfl;clear h2;go_enter Tryz.func212,Tryz.ntmps212;go_wp2;go_ret;exact ⟨rfl,Below.refl _ _⟩
 · obtain ⟨c0,c1,c2,c3,d0,d1,d2,d3,d4,d5,d6,d7⟩:=h3.cells;clear h3;go_enter Tryz.func212,Tryz.ntmps212;go_wp2;go_quiet (fail);go_wp2;go_ret;exact ⟨rfl,⟨rfl,rfl,rfl,zAs _,fun _ _=>rfl⟩⟩
theorem TreeAt.visits {w:World} {gt:Nat} {bs:List Bool} (h:TreeAt w gt bs):∃v,w.cell? ⟨gt,3,none⟩=some (.int .i64 v):=by
 obtain ⟨ga,v,⟨rfl,vl,h2⟩|⟨h1,h2,gl,cl,gb,h3⟩⟩:=h;exact ⟨v,(h2.cell 3).trans rfl⟩;exact ⟨v,h3.cells.2.2.2.1⟩
theorem fA (gt:Nat) (v:Int) (w:World) (h:w.cell? ⟨gt,3,none⟩=some (.int .i64 v)):
 Calls Tryz.prog 191 #[.pointer (some ⟨gt,0,none⟩)] w fun e w'=>e=.returned (.int .i64 v)/\Below w.heap.size w w':=by
 go_enter Tryz.func191,Tryz.ntmps191;go_wp2;go_ret;exact ⟨rfl,Below.refl _ _⟩
theorem uT (n o:Nat) (b:Bool) (w:World) (hn:n<=128) (ho:o<=n):
 Calls Tryz.prog 236 #[.int .i64 (n:Int),.int .i64 (o:Int),.bool b] w fun e w'=>e=.returned (.int .i64 ((if b then o else n - o:Nat):Int))/\Below w.heap.size w w':=by
 cases b
 · go_enter Tryz.func236,Tryz.ntmps236;go_wp2;go_ret;exact ⟨fC oM,Below.refl _ _⟩
 · go_enter Tryz.func236,Tryz.ntmps236;go_wp2;go_ret;exact ⟨fC (by simp),Below.refl _ _⟩
theorem oU (l:List Bool):l.count true+l.count false=l.length:=by
 induction l with
 | nil=>rfl
 | cons x l ih=>cases x <;> simp <;> omega
theorem aAs (gt:Nat) (bs:List Bool) (k:Nat) (b:Bool) (w:World) (h:TreeAt w gt bs) (hk:k<=bs.length):
 Calls Tryz.prog 195 #[.pointer (some ⟨gt,0,none⟩),.int .i64 (k:Int),.bool b] w fun e w'=>e=.returned (.int .i64 (((bs.take k).count b:Nat):Int))/\VisK (fun b=>b=gt) w w':=by
 have hbl:bs.length<=128:=by
  obtain ⟨ga,v,⟨rfl,vl,h2⟩|⟨h1,h2,h3⟩⟩:=h
  · simp
  exact h2
 have hv0:∃cs,Bk w gt 223 cs/\3 < cs.size:=by obtain ⟨ga,v,⟨rfl,vl,h2⟩|⟨h1,h2,gl,cl,gb,h3⟩⟩:=h;exact ⟨_,h2,by simp⟩;exact ⟨_,h3.tree,by simp⟩
 obtain ⟨cs,hcs,hc3⟩:=hv0;have hv1:=VisK.set_tree hcs 0;have ht1:=h.vis hv1.1;have hgl:=hcs.lt;have c3:w.cell? ⟨gt,3,none⟩=some cs[3]:=by rw [hcs.cell 3];simp [hc3]
 have f3:=hcs.frozen 3;have m1:max (k:Int) 0=(k:Int):=oM;have m2:min (k:Int) (bs.length:Int)=(k:Int):=oM;obtain ⟨HV,Hh,Hbl,Ht⟩:=hqq4 hv1 h hbl ht1;obtain ⟨N,hN⟩:=eqx bs.length;obtain ⟨HN,Hk⟩:=hqq2 hN hk;clear h hbl hv1 ht1 hcs hN hk;go_enter Tryz.func195,Tryz.ntmps195;go_wp2_with fail;clear c3 f3;refine (fW gt bs _ Ht.out).mono ?_;rintro e w2 ⟨rfl,hb2⟩;have hv2:=HV.out.below hb2;have ht2:=Hh.out.vis hv2.1;obtain ⟨HV2,Ht2⟩:=hqq2 hv2 ht2;clear hv2 ht2 HV Ht hb2 Hh;rcases zBa k with hk0 | hk0
 · subst hk0;go_wp2_with fail;go_ret;exact ⟨rfl,HV2.out⟩
 · have hk1:¬((k:Int)=0):=oM;obtain ⟨ga,v,⟨hbe,_,_⟩|⟨hbe,hb2,gl,cl,gb,hl⟩⟩:=Ht2.out;have h1:=Hk.out;rw [hbe] at h1;simp at h1;omega;obtain ⟨c0,c1,c2,c3,d0,d1,d2,d3,d4,d5,d6,d7⟩:=hl.cells;have hl2:=hl.row.lt;have hgl2:=hl.tree.lt;have hgt_gl:gt≠gl:=hl.row.bk_ne hl.tree dC;have f3:=hl.tree.frozen 3;obtain ⟨Hl,H2⟩:=hqq2 hl hb2;clear hl hb2 hbe;go_wp2_with fail;go_loopw [1,7,8] (fun x y z wr=>x=.int .i64 (k:Int)/\y=.int .i64 0/\z=.int .i64 0/\wr=w2) (fun _ _ _ _=>0)
   case atStart=>exact ⟨rfl,rfl,rfl,rfl⟩
   case round=>obtain ⟨rfl,rfl,rfl,rfl⟩:=hrel;go_wp2_with fail;have hgb:=Bk.ne Hl.out.blk Hl.out.tree dC;have hv3:=(VisK.set_tree Hl.out.tree (wrap64 (v+1))).alloc (.cells #[.int .i64 (-1),.int .i64 (-1),.int .i64 0,.int .i64 (bs.length:Int),.int .i64 ((bs.count true:Nat):Int),.int .i64 0,.int .i64 0,.pointer (some ⟨gb,0,none⟩)] 226);refine (yH gb bs k _ ((Hl.out.blk.far hgb _).alloc _) H2.out (by rw [HN.out] at*;exact Hk.out)).mono ?_;rintro e w4 ⟨rfl,hb4⟩;have hv4:=(HV2.out.trans hv3).below hb4;obtain ⟨q,hq⟩:=eqx (List.count true (List.take k bs));have hqk:q<=k:=(by rw [<-hq];exact zAk zBv (by rw [zAj];omega));have hfin:(if b then q else k - q)=(bs.take k).count b:=(by have h1:=oU (bs.take k);have h2:(bs.take k).length=k:=(by rw [zAj];have:=Hk.out;omega);cases b;simp;omega;simp;omega);rw [hq];obtain ⟨HF,HV4⟩:=hqq2 hfin hv4;have hkN:k<=128:=zAk Hk.out Hbl.out;clear hq hfin hv3 hb4 hv4;go_wp2_with fail;refine (uT k q b _ hkN hqk).mono ?_;rintro e w5 ⟨rfl,hb5⟩;rw [HF.out];have hv5:=HV4.out.below hb5;have hcb:(bs.take k).count b<=128:=zAk zBv (by rw [zAj];omega);obtain ⟨r,hr⟩:=eqx (List.count b (List.take k bs));rw [hr] at hcb⊢;clear HF HV4;go_wp2_with fail;go_ret;exact ⟨fC (by rw [hr] <;> omega),hv5⟩
theorem jB (w:World) (B:Nat) (e:TypeId) (sz:Nat):w.ownsRow B e sz (.slice none 0 0) 0 []:=World.ownsRow_nil _ _ _ _
theorem aBU (A:Option Addr) (m c B:Nat) (bs:List Bool) (w:World) (hr:Rd w B 1 A m (bs.map Value.bool)) (hB:B<=w.heap.size) (hm:m<=128) (hmc:m<=c):
 Calls Tryz.prog 222 #[.slice A m c] w fun e w'=>∃gt,e=.returned (.pointer (some ⟨gt,0,none⟩))/\TreeB w' w.heap.size gt bs/\Below w.heap.size w w':=by
 have hbl:bs.length=m:=by simpa using hr.1
 obtain ⟨Hr,Hbl⟩:=hqq2 hr hbl;clear hr hbl;go_enter Tryz.func222,Tryz.ntmps222;go_wp2_with fail;refine (qX _).mono ?_;rintro e w1 ⟨rfl,ha1,hb1⟩;obtain ⟨Ha1,Hb1⟩:=hqq2 ha1 hb1;have hs1:=hb1.size;clear ha1 hb1;rcases zBa m with h0 | h0
 · subst h0;have hnil:bs= []:=zBk Hbl.out;go_wp2_with fail;go_ret;have hbB:=Hb1.out.alloc hs1 (.cells #[.pointer (some ⟨w.heap.size,0,none⟩),.slice none 0 0,.int .i64 (-1),.int .i64 0] 223);exact ⟨_,rfl,⟨_,0,hs1,zAs _,.inl ⟨hnil,Bk.new _ _ _,Ha1.out.alloc _⟩⟩,hbB⟩
 · have hq1:((m:Int)+128 - 1)/ 128=1:=oM;have hne:bs≠ []:=(by intro e;have:=Hbl.out;rw [e] at this;simp at this;omega);have hb2:=Hb1.out.alloc hs1 (.cells #[.pointer (some ⟨w.heap.size,0,none⟩),.slice none 0 0,.int .i64 (-1),.int .i64 0] 223);have ht2:=Bk.new w1 223 #[.pointer (some ⟨w.heap.size,0,none⟩),.slice none 0 0,.int .i64 (-1),.int .i64 0];have ha2:=Ha1.out.alloc (.cells #[.pointer (some ⟨w.heap.size,0,none⟩),.slice none 0 0,.int .i64 (-1),.int .i64 0] 223);have hr2:=((Hr.out.mono hB).below hb2).mono hb2.size;obtain ⟨w2,hw2⟩:=eqx (w1.alloc (.cells #[.pointer (some ⟨w.heap.size,0,none⟩),.slice none 0 0,.int .i64 (-1),.int .i64 0] 223));obtain ⟨Ht2,Ha2,Hr2,Hb2⟩:=hqq4 ht2 ha2 hr2 hb2;clear ht2 ha2 hr2 hb2;go_wp2_with fail;rw [hw2] at Ht2 Ha2 Hr2 Hb2;clear hw2;refine (aEX w1.heap.size w.heap.size 0 A m c w2.heap.size bs w2 Ht2.out Ha2.out Hr2.out nL hm hmc).mono ?_;rintro e w3 ⟨rfl,hk3,gl,cl,gb,hl,hgb⟩;have c2:=hl.tree.lt;have f2:=hl.tree.frozen 2;have c2':w3.cell? ⟨w1.heap.size,2,none⟩=some (.int .i64 (-1)):=(hl.tree.cell 2).trans rfl;obtain ⟨Hl,Hk3⟩:=hqq2 hl hk3;clear hl hk3;go_wp2_with fail;go_ret;have hset:∀b t cs,t≠223->Bk w3 b t cs->Bk (w3.setCell ⟨w1.heap.size,2,none⟩ (.int .i64 0)) b t cs:=fun b t cs ht h=>h.far (Bk.ne h Hl.out.tree ht) _;obtain ⟨A',c',h5,h6⟩:=Hl.out.arena;have hk3:Below w.heap.size w2 w3:=Hk3.out.to_below Hb2.out.size (fun b hb e=>by rcases e with e | e <;> omega);have hb4:Below w.heap.size w w3:=Hb2.out.trans hk3;have hs2:=Hb2.out.size;refine ⟨_,rfl,⟨_,0,hs1,zAs _,.inr ⟨hne,by rw [Hbl.out];exact hm,gl,cl,gb,by omega,Hl.out.tree.set 2 _,bX (aB Hl.out.row fun b cs _ h=>hset _ _ _ dC h) hs2,hset _ _ _ dC Hl.out.blk,A',c',hset _ _ _ dC h5,(nH h6 fun b cs h=>hset _ _ _ dC h).mono hs2⟩⟩,?_⟩;exact hb4.setCell hs1 _
end Go.Proofs.YtnhmjomhloainaaGreatDoor
