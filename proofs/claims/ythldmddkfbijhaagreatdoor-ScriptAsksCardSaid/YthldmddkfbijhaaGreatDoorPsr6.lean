/- Lemmas of the walk. Conditions: each its own. -/
import Derived.Test.YthldmddkfbijhaaGreatDoorPsr3
import Derived.Test.YthldmddkfbijhaaGreatDoorProg
set_option linter.all false
set_option maxRecDepth 100000
set_option maxHeartbeats 1000000
namespace Go.Proofs.YthldmddkfbijhaaGreatDoor
section
open Go.RowKit
def sv (s:Nat):Value:=.int .i64 (s:Int)
def bG (s lv:Nat):Nat:=s / 2 ^(9 - lv)
def gO (s lv:Nat):Bool:=decide (s / 2 ^(8 - lv)% 2=1)
theorem fJ (s:Nat) (w:World) (hs:s < 257):
 Calls Tryz.prog 98 #[(s:Int)] w fun e w'=>e=.returned (.bool true)/\Below w.heap.size w w':=by
 have h0:(0:Int)<=(s:Int):=oM;have h1:(s:Int) < 257:=oM;go_enter Tryz.func98,Tryz.ntmps98;go_wp2;go_ret;exact ⟨rfl,Below.refl _ _⟩
theorem aCZ (s k:Nat):(s:Int)/ 2 ^ k=((s / 2 ^ k:Nat):Int):=by push_cast;rfl
theorem aLp (q:Nat) (h:q < 257):bits .and .i64 (q:Int) 1=((q % 2:Nat):Int):=by
 have h1:=(bits_nat .i64 10 dC (fun n h0 h1=>by rw [IntKind.wrap_i64];omega) q 1 oM oM).1;rw [show ((1:Nat):Int)=1 from rfl] at h1;rw [h1,Nat.and_one_is_mod]
theorem lC (s lv:Nat) (w:World) (hs:s < 257) (hl:lv<=9):
 Calls Tryz.prog 169 #[(s:Int),(lv:Int)] w fun e w'=>e=.returned (.int .i64 ((bG s lv:Nat):Int))/\Below w.heap.size w w':=by
 have h0:¬((lv:Int) < 0):=oM;have h1:¬((lv:Int) > 9):=oM;go_enter Tryz.func169,Tryz.ntmps169;go_wp2_with fail;refine (fJ s _ hs).mono ?_;rintro e w1 ⟨rfl,hb⟩;go_wp2_with fail;go_ret;exact ⟨fL (aCZ _ _),hb⟩
theorem mW (s lv:Nat) (w:World) (hs:s < 257) (hl:lv < 9):
 Calls Tryz.prog 170 #[(s:Int),(lv:Int)] w fun e w'=>e=.returned (.bool (gO s lv))/\Below w.heap.size w w':=by
 have h0:¬((lv:Int) < 0):=oM;have h1:¬((lv:Int)>=9):=oM;go_enter Tryz.func170,Tryz.ntmps170;go_wp2_with fail;refine (fJ s _ hs).mono ?_;rintro e w1 ⟨rfl,hb⟩;go_wp2_with fail;go_ret;refine ⟨bX ?_,hb⟩;have hq:s / 2 ^(8 - lv) < 257:=Nat.lt_of_le_of_lt (Nat.div_le_self _ _) hs;rw [aCZ,aLp _ hq];unfold gO;generalize s / 2 ^(8 - lv)% 2=r;by_cases h:r=1;subst h;rfl
 · have h2:((r:Int)==1)=false:=(by simp;omega);rw [h2];simp [h]
@[irreducible] def tcells (L:List Nat):Array Value:=Array.ofFn (n:=258) fun i=>.int .i64 (((if i.val < 257 then L.count i.val else L.length):Nat):Int)
theorem dR (L:List Nat) {s:Nat} (h:s < 257):(tcells L)[s]?=some (.int .i64 ((L.count s:Nat):Int)):=by
 unfold tcells;rw [Array.getElem?_ofFn,dif_pos oM,zBx h]
theorem iJ (L:List Nat):(tcells L)[257]?=some (.int .i64 ((L.length:Nat):Int)):=by
 unfold tcells;rw [Array.getElem?_ofFn,dif_pos oM];rfl
theorem eM (L:List Nat):(tcells L).size=258:=by unfold tcells;simp
theorem pU (cs:Array Value) (L:List Nat) (h0:cs.size=258) (h1:∀s,s < 257->cs[s]?=some (.int .i64 ((L.count s:Nat):Int))) (h2:cs[257]?=some (.int .i64 ((L.length:Nat):Int))):cs=tcells L:=by
 apply Array.ext_getElem?;intro i;rcases zBe i 257 with h | h
 · rw [h1 i h,dR L h]
 · rcases Nat.eq_or_lt_of_le h with h | h
   · rw [<-h,h2,iJ]
   · rw [Array.getElem?_eq_none oM,Array.getElem?_eq_none (by rw [eM];omega)]
theorem aDV (L:List Nat) (s:Nat) (hs:s < 257):((tcells L).setIfInBounds s (.int .i64 (((L.count s+1:Nat)):Int))).setIfInBounds 257 (.int .i64 ((L.length+1:Nat):Int))=tcells (L++ [s]):=by
 apply pU
 · simp [eM]
 · intro i hi;rw [zCe oM];by_cases e:s=i
   · subst e;rw [Array.getElem?_setIfInBounds_self_of_lt (by rw [eM];omega)];simp
   rw [zCe e,dR L hi];have: [s].count i=0:=(by simp [e]);rw [zCc,this];rfl
 · rw [Array.getElem?_setIfInBounds_self_of_lt (by simp [eM])];simp
theorem uR (gt:Nat) (L:List Nat) (s:Nat) (w:World) (h:Bk w gt 199 (tcells L)) (hs:s < 257):
 Calls Tryz.prog 106 #[gt,(s:Int)] w fun e w'=>e=.returned (.int .i64 ((L.count s:Nat):Int))/\Below w.heap.size w w':=by
 have H:=lhd h;clear h;go_enter Tryz.func106,Tryz.ntmps106;go_wp2_with fail;refine (fJ s _ hs).mono ?_;rintro e w1 ⟨rfl,hb⟩;have c0:w1.cell? ⟨gt,s,none⟩=some (.int .i64 ((L.count s:Nat):Int)):=((H.out.below hb H.out.lt).cell s).trans (dR L hs);have h0:¬((s:Int) < 0):=oM;have h1:((s:Int) < 257):=oM;clear H;go_wp2_with fail;go_ret;exact ⟨rfl,hb⟩
theorem uN (L:List Nat) (k:Nat):L.countP (fun x=>decide (x < k+1))=L.countP (fun x=>decide (x < k))+L.count k:=by
 induction L with
 | nil=>rfl
 | cons x l ih=>
   rw [zBn,zBn,List.count_cons,ih];by_cases h1:x < k;have h2:x < k+1:=oM;have h3:x≠k:=oM;simp [h1,h2,h3];omega
   · by_cases h2:x=k;subst h2;simp;omega
     · have h3:¬x < k+1:=oM;simp [h1,h2,h3]
theorem kM (gt:Nat) (L:List Nat) (s:Nat) (w:World) (h:Bk w gt 199 (tcells L)) (hs:s < 257) (hl:L.length<=1000):
 Calls Tryz.prog 107 #[gt,(s:Int)] w fun e w'=>e=.returned (.int .i64 ((L.countP (fun x=>decide (x < s)):Nat):Int))/\Below w.heap.size w w':=by
 have H:=lhd h;clear h;have m1:max (s:Int) 0=(s:Int):=oM;have m2:min (s:Int) 257=(s:Int):=oM;go_enter Tryz.func107,Tryz.ntmps107;go_wp2_with fail;go_loopw [5,10] (fun v i wr=>∃k:Nat,k<=s/\i=.int .i64 k/\v=.int .i64 ((L.countP (fun x=>decide (x < k)):Nat):Int)/\Below w.heap.size w wr) (fun _ i _=>s -(intOf i).toNat)
 case atStart=>exact ⟨0,by omega,rfl,by simp,Below.refl _ _⟩
 case round=>
  obtain ⟨k,hk,rfl,rfl,hb⟩:=hrel;have hsz:=hb.size;by_cases hlt:k < s
  · go_wp2_with fail;refine (uR gt L k wr (H.out.below hb H.out.lt) oM).mono ?_;rintro e w1 ⟨rfl,hb1⟩;have hb2:=hb.trans (hb1.mono hsz);have hst:=uN L k;have hbd:L.countP (fun x=>decide (x < k+1))<=1000:=zAk zBh hl;obtain ⟨p,hp⟩:∃p,L.countP (fun x=>decide (x < k))=p:=⟨_,rfl⟩;obtain ⟨q,hq⟩:=eqx (L.count k);rw [hst] at hbd;rw [hp,hq] at hst hbd;rw [hq]
    try rw [hp]
    have HS:=lhd hst;clear hst hp hq;go_wp2_with fail;go_roundw
    case rel=>exact ⟨k+1,by omega,by go_num,by rw [HS.out];exact dD oM,hb2⟩
    case measure=>simp [intOf];omega
  · have hks:k=s:=oM;subst hks;go_wp2_with fail;go_ret;exact ⟨rfl,hb⟩
theorem sE (gt:Nat) (L:List Nat) (s:Nat) (w:World) (h:Bk w gt 199 (tcells L)) (hs:s < 257) (hl:L.length<=1000):
 Calls Tryz.prog 117 #[gt,(s:Int),.int .i64 1] w fun e w'=>e=.returned (.int .i64 0)/\Bk w' gt 199 (tcells (L++ [s]))/\Keep (fun b=>b=gt) w w':=by
 have H:=lhd h;clear h;have h0:¬((s:Int) < 0):=oM;have h1:((s:Int) < 257):=oM;obtain ⟨q,hq⟩:=eqx (L.count s);obtain ⟨n,hn⟩:=eqx L.length;have hql:q<=1000:=by rw [<-hq];exact zAk zBv hl
 rw [hn] at hl;have hadd:=aDV L s hs;rw [hq,hn] at hadd;obtain ⟨HA,HQ,HN⟩:=hqq3 hadd hq hn;clear hadd hq hn;go_enter Tryz.func117,Tryz.ntmps117;go_wp2_with fail;refine (fJ s _ hs).mono ?_;rintro e w1 ⟨rfl,hb⟩;have hbk:=H.out.below hb H.out.lt;have c0:w1.cell? ⟨gt,s,none⟩=some (.int .i64 (q:Int)):=by rw [<-HQ.out];exact (hbk.cell s).trans (dR L hs)
 have c1:w1.cell? ⟨gt,257,none⟩=some (.int .i64 (n:Int)):=by rw [<-HN.out];exact (hbk.cell 257).trans (iJ L)
 have n1:¬((1:Int) < -(q:Int)):=oM;have n2:¬((1:Int) > 2147483648 -(n:Int)):=oM;obtain ⟨HB,Hbk⟩:=hqq2 hb hbk;clear hb hbk H;go_wp2_with fail;refine wp_region_any kR ?_;refine bH [33,34,35,36,37,38,39,40,41,42,43] (fun b=>b=gt) 11 [5,11] (fun w2=>Bk w2 gt 199 (tcells L)) (fun _ w2=>Bk w2 gt 199 ((tcells L).setIfInBounds s (.int .i64 ((q+1:Nat):Int)))) [is gt,is (s:Int),is gt,is gt,is (.pointer (some ⟨gt,s,none⟩)),is (q:Int),is (.int .i64 1),is (.int .i64 ((q+1:Nat):Int)),is gt,is gt,is (.pointer (some ⟨gt,s,none⟩)),cR] _ _ rfl kR kR (Hbk.out) (fun w2 w3 h _ hg=>Bk.below h hg h.lt) (fun _ _ _ h k=>Bk.below h k h.lt) tA0 ?_ ?_
 · refine aM ?_;refine pH3 0 (.pointer (some ⟨gt,0,none⟩)) ?_;refine pH3 1 (.int .i64 (s:Int)) ?_;refine pV3 0 33 ?_;refine pV3 2 35 ?_;refine pW3 3 36 1 34 ?_;refine sC3 (fun _ w5 _ hU _ _ _ hval _ _ _ hK=>?_) ?_
   · have hpre:=hU rfl;have e37:_=_:=hval 4 37 kR rfl;have c38:w5.cell? ⟨gt,s,none⟩=some (.int .i64 (q:Int)):=(by rw [<-HQ.out];exact (hpre.cell s).trans (dR L hs));go_simp;exact kq hK rfl
   refine pH3 2 (.int .i64 1) ?_;refine sC3 (fun _ _ _ _ _ _ _ hval _ _ _ hK=>?_) ?_
   · have e38:_=_:=hval 5 38 kR rfl;have e39:_=_:=hval 6 39 kR rfl;go_simp;exact hK _ _ (aJ bR) (dD (by rw [IntKind.wrap_i64];omega))
   refine pV3 0 33 ?_;refine pV3 8 41 ?_;refine pW3 9 42 1 34 ?_;refine sC3 (fun _ w5 _ hU _ _ _ hval _ _ _ hK=>?_) ?_
   · have hpre:=hU rfl;have e43:_=_:=hval 10 43 kR rfl;have e40:_=_:=hval 7 40 kR rfl;have c43:w5.cell? ⟨gt,s,none⟩=some (.int .i64 (q:Int)):=(by rw [<-HQ.out];exact (hpre.cell s).trans (dR L hs));have f43:=hpre.frozen s;go_simp;exact hK (.bool true) _ (aW (Keep.setCell (F:=fun b=>b=gt) (Keep.refl _ _) (p:=⟨gt,s,none⟩) (.inl rfl) _)) (hpre.set s _)
   exact aC
 · intro ev w6 hS hval hall;replace hS:Keep (fun b=>b=gt) w1 w6:=kD hS;obtain ⟨vJ,pJ⟩:∃vJ0,(fun _ w2=>Bk w2 gt 199 ((tcells L).setIfInBounds s (.int .i64 ((q+1:Nat):Int)))) vJ0 w6:=hall 11 dC;simp only [aI,zq1,zq2,Act.put,zq3,zq4,zq5];clear hval hall;have c257:w6.cell? ⟨gt,257,none⟩=some (.int .i64 (n:Int)):=(by refine (pJ.cell 257).trans ?_;rw [zCe oM,<-HN.out];exact iJ L);have f257:=pJ.frozen 257;obtain ⟨PJ,HS⟩:=hqq2 pJ hS;have hglt:=pJ.lt;clear pJ hS;go_wp2_with fail;go_ret;refine ⟨rfl,?_,?_⟩;rw [<-HA.out];exact PJ.out.set 257 _;exact ((Keep.of_below HB.out).trans HS.out).setCell (.inl rfl) _
theorem aDU:tcells []=Tryz.zeroCells199:=by kernel_rfl
theorem sD (A:Option Addr) (m c B:Nat) (L:List Nat) (w:World) (hr:Rd w B 1 A m (L.map sv)) (hB:B<=w.heap.size) (hm:m<=1000) (hL:∀s∈L,s < 257):
 Calls Tryz.prog 105 #[.slice A m c] w fun e w'=>∃gt,e=.returned (.tuple #[.pointer (some ⟨gt,0,none⟩),.int .i64 0])/\w.heap.size<=gt/\Bk w' gt 199 (tcells L)/\Below w.heap.size w w':=by
 have hll:L.length=m:=by simpa using hr.1
 obtain ⟨Hr,HL,Hll,HB⟩:=hqq4 hr hL hll hB;clear hr hL hll;go_enter Tryz.func105,Tryz.ntmps105;go_wp2_with fail;obtain ⟨gt,hgt⟩:=eqx w.heap.size;have hbk0:Bk (w.alloc (.cells Tryz.zeroCells199 199)) gt 199 (tcells (L.take 0)):=by rw [List.take_zero,aDU,<-hgt];exact Bk.new _ _ _
 have hb0:=(Below.refl w.heap.size w).alloc nL (.cells Tryz.zeroCells199 199)
 try rw [hgt]
 go_loopw [12] (fun i wr=>∃k:Nat,k<=m/\i=.int .i64 k/\Bk wr gt 199 (tcells (L.take k))/\Below w.heap.size w wr) (fun i _=>m -(intOf i).toNat)
 case atStart=>exact ⟨0,by omega,rfl,hbk0,hb0⟩
 case round=>
  obtain ⟨k,hk,rfl,hbk,hb⟩:=hrel;have hsz:=hb.size;by_cases hlt:k < m
  · have hkl:k < L.length:=(by rw [Hll.out];exact hlt);obtain ⟨s,hs⟩:∃s,L[k]?=some s:=⟨L[k],zAa hkl⟩;obtain ⟨b,off,u,rfl,hbl,hu,hc⟩:=((Hr.out.mono HB.out).below hb).get hlt;rw [zAf,hs] at hu;simp at hu;subst hu;have hs257:s < 257:=HL.out s (zAd hs);have htk:L.take (k+1)=L.take k++ [s]:=(by rw [zAv,hs];rfl);have htl:(L.take k).length<=1000:=(by rw [zAj];omega);unfold sv at hc;obtain ⟨HTK,Hbk⟩:=hqq2 htk hbk;clear htk hbk hs;go_wp2_with fail;refine (sE gt (L.take k) s _ Hbk.out hs257 htl).mono ?_;rintro e w1 ⟨rfl,hb1,hk1⟩;have hb2:Below w.heap.size w w1:=hb.trans (hk1.to_below hsz (fun b hb e=>by omega));rw [<-HTK.out] at hb1;have Hb1:=lhd hb1;clear hb1 hk1;go_wp2_with fail;go_roundw
    case rel=>exact ⟨k+1,by omega,by go_num,Hb1.out,hb2⟩
    case measure=>simp [intOf];omega
  · have hkm:k=m:=oM;subst hkm;rw [zAg (by rw [Hll.out];omega)] at hbk;have Hbk:=lhd hbk;clear hbk;go_wp2_with fail;go_ret2;exact ⟨gt,rfl,by omega,Hbk.out,hb⟩
@[irreducible] def wcells (S:Nat->Value) (n v:Int):Array Value:=#[S 0,S 1,S 2,S 3,S 4,S 5,S 6,S 7,S 8,.int .i64 n,.int .i64 v]
theorem bI (S:Nat->Value) (n v:Int):(wcells S n v)[0]?=some (S 0)/\(wcells S n v)[1]?=some (S 1)/\(wcells S n v)[2]?=some (S 2)/\(wcells S n v)[3]?=some (S 3)/\(wcells S n v)[4]?=some (S 4)/\(wcells S n v)[5]?=some (S 5)/\(wcells S n v)[6]?=some (S 6)/\(wcells S n v)[7]?=some (S 7)/\(wcells S n v)[8]?=some (S 8)/\(wcells S n v)[9]?=some (.int .i64 n)/\(wcells S n v)[10]?=some (.int .i64 v):=by
 unfold wcells;exact ⟨rfl,rfl,rfl,rfl,rfl,rfl,rfl,rfl,rfl,rfl,rfl⟩
theorem cO (S:Nat->Value) (n v v':Int):(wcells S n v).setIfInBounds 10 (.int .i64 v')=wcells S n v':=by
 unfold wcells;rfl
theorem tE (S:Nat->Value) (n v:Int) (i:Nat) (hi:i < 9):(wcells S n v)[i]?=some (S i):=by
 obtain ⟨h0,h1,h2,h3,h4,h5,h6,h7,h8,_⟩:=bI S n v;rcases i with _ | _ | _ | _ | _ | _ | _ | _ | _ | i
 all_goals first | assumption | omega
theorem aDQ (S:Nat->Value) (n v:Int) (i:Nat) (hi:i < 9) (u:Value):(wcells S n v).setIfInBounds i u=wcells (fun j=>if j=i then u else S j) n v:=by
 unfold wcells;rcases i with _ | _ | _ | _ | _ | _ | _ | _ | _ | i
 all_goals first | rfl | omega
theorem Vis.waveC {w w':World} {g:Nat} {S:Nat->Value} {n v:Int} (h:Vis w w') (hb:Bk w g 154 (wcells S n v)):∃v',Bk w' g 154 (wcells S n v'):=by
 rcases h.wave hb with h1 |⟨v',h1⟩;exact ⟨v,h1⟩;rw [cO] at h1;exact ⟨v',h1⟩
theorem aHb (gt gk gb gn:Nat) (lv p:Int) (x:Value) (bs:List Bool) (k:Nat) (b:Bool) (w:World) (ht:TreeAt w gt bs) (hk:Bk w gk 3 #[(k:Int)]) (hb:Bk w gb 4 #[.bool b]) (hn:Bk w gn 3 #[x]) (hkl:k<=bs.length):
 Calls Tryz.prog 167 #[.agg #[gt,.int .i64 lv,.int .i64 p],gk,gb,gn] w fun e w'=>e=.returned (.tuple #[])/\
  ∃w1,VisK (fun b=>b=gt) w w1/\Bk w1 gn 3 #[x]/\w'=w1.setCell ⟨gn,0,none⟩ (.int .i64 (((bs.take k).count b:Nat):Int)):=by
 have c1:w.cell? ⟨gk,0,none⟩=some (.int .i64 (k:Int)):=(hk.cell 0).trans rfl;have c2:w.cell? ⟨gb,0,none⟩=some (.bool b):=(hb.cell 0).trans rfl;have l1:=hk.lt;have l2:=hb.lt;have l3:=hn.lt;obtain ⟨Ht,Hn⟩:=hqq2 ht hn;clear ht hk hb hn;go_enter Tryz.func167,Tryz.ntmps167;go_wp2_with fail;refine (aBJ gt bs k b _ (Ht.out.below (bR.alloc nL _)) hkl).mono ?_;rintro e w1 ⟨rfl,hv⟩;have hv0:VisK (fun b=>b=gt) w w1:=(VisK.of_below (bR.alloc nL _)).trans hv;have hn1:=hv0.1.bk Hn.out dC dC;have c3:w1.cell? ⟨gn,0,none⟩=some x:=(hn1.cell 0).trans rfl;have f3:=hn1.frozen 0;obtain ⟨HV,Hn1⟩:=hqq2 hv0 hn1;clear hv hv0 hn1;go_wp2_with fail;go_end0;exact ⟨rfl,w1,HV.out,Hn1.out,rfl⟩
theorem Vis.of_wave {w w':World} {gv:Nat} {S:Nat->Value} {n v v':Int} (k:Keep (fun b=>b=gv) w w') (h:Bk w gv 154 (wcells S n v)) (h':Bk w' gv 154 (wcells S n v')):Vis w w':=by
 refine ⟨k.os,k.tape,k.output,k.size,fun b hb _=>?_⟩;by_cases e:b=gv;subst e;exact .inr (.inr ⟨_,v',h,by rw [cO];exact h'⟩);exact .inl (k.block b hb e)
theorem aHi (gv gt gk gb gn:Nat) (S:Nat->Value) (n v lv p:Int) (x:Value) (bs:List Bool) (k:Nat) (b:Bool) (w:World) (hw:Bk w gv 154 (wcells S n v)) (ht:TreeAt w gt bs) (hk:Bk w gk 3 #[(k:Int)]) (hb:Bk w gb 4 #[.bool b]) (hn:Bk w gn 3 #[x]) (hkl:k<=bs.length):
 Calls Tryz.prog 111 #[gv,.agg #[gt,.int .i64 lv,.int .i64 p],.func (.func 167) #[] #[gk,gb,gn]] w fun e w'=>e=.returned (.tuple #[])/\
  VisF (fun b=>b=gn) w w'/\Keep (fun b=>b=gv∨b=gt∨b=gn) w w'/\Bk w' gn 3 #[.int .i64 (((bs.take k).count b:Nat):Int)]:=by
 obtain ⟨o,ho⟩:=eqx (Obj.cells #[gt,.int .i64 lv,.int .i64 p] 157);have hal:=(Below.refl w.heap.size w).alloc nL o;have hs1:=Bk.new w 157 #[gt,.int .i64 lv,.int .i64 p];rw [ho] at hs1;have l1:=hk.lt;have l2:=hb.lt;have l3:=hn.lt;have l4:=hw.lt;have n1:=Bk.ne hn hw dC;obtain ⟨Ht,Hn,Hk,Hb,Hw,HA,Hs,Ho⟩:=hqq8 ht hn hk hb hw hal hs1 ho;clear ht hk hb hn hw hal hs1 ho;go_enter Tryz.func111,Tryz.ntmps111;go_wp2_with fail;rw [Ho.out];refine (aHb gt gk gb gn lv p x bs k b _ (Ht.out.below HA.out) (Hk.out.alloc _) (Hb.out.alloc _) (Hn.out.alloc _) hkl).mono ?_;rintro e w2 ⟨rfl,w1,hv1,hn1,rfl⟩;obtain ⟨v1,hw1⟩:=((Vis.of_below HA.out).trans hv1.1).waveC Hw.out;have hw2:=hw1.far (p:=⟨gn,0,none⟩) (fun h=>n1 h.symm) (.int .i64 (((bs.take k).count b:Nat):Int));have ht1:=Ht.out.vis ((Vis.of_below HA.out).trans hv1.1);have ht2:TreeAt (w1.setCell ⟨gn,0,none⟩ (.int .i64 (((bs.take k).count b:Nat):Int))) gt bs:=ht1.same fun c t cs hin h=>h.far (fun e=>by
  have e':c=gn:=e;subst e';rw [<-(aR hn1 h).1] at hin;exact absurd hin dC) _
 obtain ⟨vt,hvt⟩:=ht2.visits;have hs2:=(hv1.1.bk Hs.out dC dC).far (p:=⟨gn,0,none⟩) (fun h=>absurd (show w.heap.size=gn from h) oM) (.int .i64 (((bs.take k).count b:Nat):Int));have hnn:=hn1.set 0 (.int .i64 (((bs.take k).count b:Nat):Int));have hfin:VisF (fun b=>b=gn) w (w1.setCell ⟨gn,0,none⟩ (.int .i64 (((bs.take k).count b:Nat):Int))):=VisF.put (F:=fun b=>b=gn) (VisF.of_vis ((Vis.of_below HA.out).trans hv1.1)) (p:=⟨gn,0,none⟩) (.inl rfl) _;have hkp:Keep (fun b=>b=gv∨b=gt∨b=gn) w (w1.setCell ⟨gn,0,none⟩ (.int .i64 (((bs.take k).count b:Nat):Int))):=Keep.setCell (F:=fun b=>b=gv∨b=gt∨b=gn) ((Keep.of_below HA.out).trans (hv1.2.mono fun b _ e=>.inr (.inl e))) (p:=⟨gn,0,none⟩) (.inl (.inr (.inr rfl))) _;obtain ⟨W,hW⟩:=eqx (w1.setCell ⟨gn,0,none⟩ (.int .i64 (((bs.take k).count b:Nat):Int)));rw [hW] at hw2 ht2 hvt hs2 hnn hfin hkp⊢;have s0:W.cell? ⟨w.heap.size,0,none⟩=some (.pointer (some ⟨gt,0,none⟩)):=(hs2.cell 0).trans rfl;obtain ⟨Hw2,Hs2,HN,HF,HK,Ht2,Hvt⟩:=hqq7 hw2 hs2 hnn hfin hkp ht2 hvt;have htlt:=ht2.lt;have hslt:=hs2.lt;have hgs:=Bk.ne hw2 hs2 dC;have hgn:=Bk.ne hw2 hnn dC;have hgvt:gt≠gv:=by rintro rfl;obtain ⟨ga,v,⟨_,_,h2⟩|⟨_,_,_,_,_,h3⟩⟩:=Ht2.out;exact absurd (aR h2 Hw2.out).1 dC;exact absurd (aR h3.tree Hw2.out).1 dC
 clear hw2 hs2 hnn hfin hkp ht2 hvt hW hw1 ht1 hn1 hv1 HA Ht Hn Hk Hb Hw Hs s0;go_wp2_with fail;refine wp_region_any kR ?_;refine bH [9,10,11,12,13,14,15,16,17,18] (fun b=>b=gv) 10 [3,10] (fun w2=>Bk w2 gv 154 (wcells S n v1)) (fun _ w2=>Bk w2 gv 154 (wcells S n (IntKind.i64.wrap (v1+vt)))) [is gv,is gv,is (.pointer (some ⟨gv,10,none⟩)),is (.int .i64 v1),is w.heap.size,is gt,is (.int .i64 vt),is (.int .i64 (IntKind.i64.wrap (v1+vt))),is gv,is (.pointer (some ⟨gv,10,none⟩)),cR] _ _ rfl kR kR (Hw2.out) (fun w2 w3 h _ hg=>Bk.below h hg h.lt) (fun _ _ _ h k=>Bk.below h k h.lt) tA0 ?_ ?_
 · refine aM ?_;refine pH3 0 (.pointer (some ⟨gv,0,none⟩)) ?_;refine pV3 0 9 ?_;refine pV3 1 10 ?_;refine sC3 (fun _ w5 _ hU _ _ _ hval _ _ _ hK=>?_) ?_
   · have hpre:=hU rfl;have e11:_=_:=hval 2 11 kR rfl;have c12:w5.cell? ⟨gv,10,none⟩=some (.int .i64 v1):=(hpre.cell 10).trans (bI _ _ _).2.2.2.2.2.2.2.2.2.2;go_simp;exact kq hK rfl
   refine pH3 4 (.pointer (some ⟨w.heap.size,0,none⟩)) ?_;refine sC3 (fun _ w5 hS _ _ _ _ hval _ _ _ hK=>?_) ?_
   · replace hS:Keep (fun b=>b=gv) W w5:=kD hS;have e13:_=_:=hval 4 13 kR rfl;have c14:w5.cell? ⟨w.heap.size,0,none⟩=some (.pointer (some ⟨gt,0,none⟩)):=((hS.bk Hs2.out (fun h=>hgs (show w.heap.size=gv from h).symm)).cell 0).trans rfl;go_simp;exact kq hK rfl
   refine sC3 (fun _ w5 hS _ _ _ _ hval _ _ _ hK=>?_) ?_
   · replace hS:Keep (fun b=>b=gv) W w5:=kD hS;have e14:_=_:=hval 5 14 kR rfl;go_simp;refine (fS gt vt w5 ((hS.cell htlt hgvt).trans Hvt.out)).mono ?_;rintro e w8 ⟨rfl,hb8⟩;exact hK _ _ (aJ hb8) rfl
   refine pW3 3 12 6 15 ?_;refine pV3 0 9 ?_;refine pV3 8 17 ?_;refine sC3 (fun _ w5 _ hU _ _ _ hval _ _ _ hK=>?_) ?_
   · have hpre:=hU rfl;have e18:_=_:=hval 9 18 kR rfl;have e16:_=_:=hval 7 16 kR rfl;have c18:w5.cell? ⟨gv,10,none⟩=some (.int .i64 v1):=(hpre.cell 10).trans (bI _ _ _).2.2.2.2.2.2.2.2.2.2;have f18:=hpre.frozen 10;go_simp;refine hK (.bool true) _ (aW (Keep.setCell (F:=fun b=>b=gv) (Keep.refl _ _) (p:=⟨gv,10,none⟩) (.inl rfl) _)) ?_;rw [<-cO S n v1];exact hpre.set 10 _
   exact aC
 · intro ev w6 hS hval hall;replace hS:Keep (fun b=>b=gv) W w6:=kD hS;obtain ⟨vJ,pJ⟩:∃vJ0,(fun _ w2=>Bk w2 gv 154 (wcells S n (IntKind.i64.wrap (v1+vt)))) vJ0 w6:=hall 10 dC;simp only [aI,zq1,zq2,Act.put,zq3,zq4,zq5];clear hval hall;have hv6:=Vis.of_wave hS Hw2.out pJ;have h1:=VisF.trans HF.out (VisF.of_vis hv6);have h2:=HK.out.trans (hS.mono fun b _ e=>.inl e);have h3:=hS.bk HN.out (fun e=>hgn (show gn=gv from e).symm);obtain ⟨H1,H2,H3⟩:=hqq3 h1 h2 h3;clear hv6 h1 h2 h3 pJ hS;go_wp2_with fail;go_end0;exact ⟨rfl,H1.out,H2.out,H3.out⟩
theorem mV (gv gt:Nat) (S:Nat->Value) (n v lv p:Int) (bs:List Bool) (k:Nat) (b:Bool) (w:World) (hw:Bk w gv 154 (wcells S n v)) (ht:TreeAt w gt bs) (hkl:k<=bs.length):
 Calls Tryz.prog 114 #[gv,.agg #[gt,.int .i64 lv,.int .i64 p],(k:Int),.bool b] w fun e w'=>e=.returned (.int .i64 (((bs.take k).count b:Nat):Int))/\VisK (fun b=>b=gv∨b=gt) w w':=by
 have hmf:∀(fn:Fn) (first cap:Array Value) (w:World),(Instr.makeFunc fn first cap).run Tryz.prog w=.ok (.func fn first cap) w:=fun _ _ _ _=>rfl;obtain ⟨W,hW⟩:=eqx ((((w.alloc (.cells #[gt,.int .i64 lv,.int .i64 p] 157)).alloc (.cells #[(k:Int)] 3)).alloc (.cells #[.bool b] 4)).alloc (.cells #[.int .i64 0] 3));have hB:Below w.heap.size w W:=by rw [<-hW];exact (((bR.alloc nL _).alloc (by simp) _).alloc (by simp;omega) _).alloc (by simp;omega) _
 have h1:Bk W (w.heap.size+1) 3 #[(k:Int)]:=by rw [<-hW];have h:=Bk.new (w.alloc (.cells #[gt,.int .i64 lv,.int .i64 p] 157)) 3 #[(k:Int)];rw [show (w.alloc (.cells #[gt,.int .i64 lv,.int .i64 p] 157)).heap.size=w.heap.size+1 from by simp] at h;exact (h.alloc _).alloc _
 have h2:Bk W (w.heap.size+1+1) 4 #[.bool b]:=by rw [<-hW];have h:=Bk.new ((w.alloc (.cells #[gt,.int .i64 lv,.int .i64 p] 157)).alloc (.cells #[(k:Int)] 3)) 4 #[.bool b];rw [show ((w.alloc (.cells #[gt,.int .i64 lv,.int .i64 p] 157)).alloc (.cells #[(k:Int)] 3)).heap.size=w.heap.size+1+1 from by simp] at h;exact h.alloc _
 have h3:Bk W (w.heap.size+1+1+1) 3 #[.int .i64 0]:=by rw [<-hW];have h:=Bk.new (((w.alloc (.cells #[gt,.int .i64 lv,.int .i64 p] 157)).alloc (.cells #[(k:Int)] 3)).alloc (.cells #[.bool b] 4)) 3 #[.int .i64 0];rw [show (((w.alloc (.cells #[gt,.int .i64 lv,.int .i64 p] 157)).alloc (.cells #[(k:Int)] 3)).alloc (.cells #[.bool b] 4)).heap.size=w.heap.size+1+1+1 from by simp] at h;exact h
 have hw1:=hw.below hB hw.lt;have ht1:=ht.below hB;obtain ⟨Hw1,Ht1,H1,H2,H3,HW,HB⟩:=hqq7 hw1 ht1 h1 h2 h3 hW hB;clear hw ht hw1 ht1 h1 h2 h3 hW hB;go_enter Tryz.func114,Tryz.ntmps114;go_wp2_with fail;rw [HW.out];refine (aHi gv gt _ _ _ S n v lv p _ bs k b W Hw1.out Ht1.out H1.out H2.out H3.out hkl).mono ?_;rintro e w1 ⟨rfl,hvf,hkp,hn⟩;have hfin:Vis w w1:=VisF.to_vis (VisF.trans (VisF.of_vis (Vis.of_below HB.out)) hvf) (fun b hb e=>by omega);have hkf:Keep (fun b=>b=gv∨b=gt) w w1:=(Keep.of_below HB.out).trans' hkp (fun b hb e=>by
  rcases e with e | e | e;exact .inl e;exact .inr e
  · omega)
 have c9:w1.cell? ⟨w.heap.size+1+1+1,0,none⟩=some (.int .i64 (((bs.take k).count b:Nat):Int)):=(hn.cell 0).trans rfl;obtain ⟨HF,HK⟩:=hqq2 hfin hkf;clear hvf hkp hn hfin hkf;go_wp2_with fail;go_ret;exact ⟨rfl,HF.out,HK.out⟩
theorem gC:(Tryz.prog.info? 3).map (fun i=>(i.zero,i.size,i.bytes))=some (some (.int .i64 0),1,8):=by kernel_rfl
theorem qD (l:List Nat):∀u∈l.map sv,u.oneCell'=true:=by
 intro u hu;obtain ⟨x,_,rfl⟩:=zAy.1 hu;rfl
def dF (t:List UInt8):List Nat:=t.map (fun c=>c.toNat+1)
def aG (t:List UInt8):List Nat:=dF t++ [0]
theorem aT (t:List UInt8):(aG t).length=t.length+1:=by simp [aG,dF]
theorem eT (t:List UInt8):∀s∈aG t,s < 257:=by
 intro s hs;unfold aG dF at hs;rcases zCp.1 hs with h | h;obtain ⟨c,_,rfl⟩:=zAy.1 h;have:=c.toNat_lt;omega;simp at h;omega
theorem pF (c:UInt8) (w:World):
 Calls Tryz.prog 52 #[.int .u8 (c.toNat:Int)] w fun e w'=>e=.returned (.int .i64 ((c.toNat+1:Nat):Int))/\Below w.heap.size w w':=by
 have hc:=c.toNat_lt;have h64:IntKind.i64.wrap (c.toNat:Int)=(c.toNat:Int):=by rw [IntKind.wrap_i64];omega
 go_enter Tryz.func52,Tryz.ntmps52;go_wp2;go_ret;exact ⟨fL oM,Below.refl _ _⟩
theorem yR (gs g0:Nat) (A:Option Addr) (m c B:Nat) (t:List UInt8) (w:World) (hs:Bk w gs 26 #[.slice A m c]) (hr:Rd w B 1 A m (t.map bv)) (hB:B<=w.heap.size) (hm:m<=1000):
 Calls Tryz.prog 143 #[.slice (some ⟨gs,0,none⟩) 1 1] w fun e w'=>∃A' c',e=.returned (.slice A' (m+1) c')/\Made w' w.heap.size 3 1 A' (m+1) c' ((aG t).map sv)/\Below w.heap.size w w':=by
 obtain ⟨i0,hi0,hz0,hz1,hz2⟩:=info_parts gC;have htl:t.length=m:=by simpa using hr.1
 have c0:w.cell? ⟨gs,0,none⟩=some (.slice A m c):=(hs.cell 0).trans rfl;have hgs:=hs.lt;obtain ⟨Hr,Htl⟩:=hqq2 (hr.mono hB) htl;clear hs hr htl;go_enter Tryz.func143,Tryz.ntmps143;go_wp2_with fail;go_loopw [3,10] (fun v i wr=>∃k:Nat,k<=1/\i=.int .i64 k/\wr.ownsRow w.heap.size 3 1 v (if k=0 then 0 else m) ((if k=0 then [] else dF t).map sv)/\Below w.heap.size w wr) (fun _ i _=>1 -(intOf i).toNat)
 case atStart=>exact ⟨0,by omega,rfl,World.ownsRow_nil _ _ _ _,Below.refl _ _⟩
 case round=>
  obtain ⟨k,hk,rfl,hown,hb⟩:=hrel;have hsz:=hb.size;rcases k with _ | k
  · have d0:wr.cell? ⟨gs,0,none⟩=some (.slice A m c):=(hb.cell hgs).trans c0;obtain ⟨Hown,Hb⟩:=hqq2 hown hb;clear hown hb;go_wp2_with fail;obtain ⟨W,hW⟩:∃W,W=wr:=⟨_,rfl⟩;subst hW;go_loopw [3,16] (fun v i wr2=>∃k:Nat,k<=m/\i=.int .i64 k/\wr2.ownsRow w.heap.size 3 1 v k ((dF (t.take k)).map sv)/\Below w.heap.size w wr2) (fun _ i _=>m -(intOf i).toNat)
    case atStart=>exact ⟨0,by omega,rfl,Hown.out,Hb.out⟩
    case round=>
        obtain ⟨k,hk,rfl,hown,hb⟩:=hrel;have hsz:=hb.size;by_cases hlt:k < m
        · have hkl:k < t.length:=(by rw [Htl.out];exact hlt);obtain ⟨x,hx⟩:∃x,t[k]?=some x:=⟨t[k],zAa hkl⟩;obtain ⟨b,off,u,rfl,hbl,hu,hc⟩:=(Hr.out.below hb).get hlt;rw [zAf,hx] at hu;simp at hu;subst hu;have htk:t.take (k+1)=t.take k++ [x]:=(by rw [zAv,hx];rfl);unfold bv at hc;obtain ⟨HTK,Hown2⟩:=hqq2 htk hown;clear htk hx hown;go_wp2_with fail;refine (pF x _).mono ?_;rintro e w1 ⟨rfl,hb1⟩;have hown1:=aP Hown2.out hb1;have hb2:=hb.trans (hb1.mono hsz);have hsz2:=hb2.size;have Hown3:=lhd hown1;clear hown1;go_wp2_with (at_builtin;refine bP _ rfl (.tmp 20) (.tmp 23) _ rfl w.heap.size 3 i0 (.int .i64 0) 1 8 Tryz.underlying22 hi0 hz0 hz1 hz2 rfl dC _ k _ rfl Hown3.out rfl rfl (by simp [Value.oneCell']) (by unfold maxLen;omega) oM hsz2 ?_;intro v2 w2 hown2 hg2 hs2 hat2);have hb3:=aZ hb2 Hown3.out hg2 hsz2;clear hg2 hat2;go_roundw
          case rel=>refine ⟨k+1,by omega,by go_num,?_,hb3⟩;rw [HTK.out,dF,zAz,zAz];exact hown2
          case measure=>simp [intOf];omega
        · have hkm:k=m:=oM;subst hkm;rw [zAg (by rw [Htl.out];omega)] at hown;have Hown2:=lhd hown;clear hown;go_wp2_with fail;go_roundw
          case rel=>exact ⟨1,by omega,by go_num,Hown2.out,hb⟩
          case measure=>simp [intOf]
  · have hk0:k=0:=oM;subst hk0;rw [zBw oM,zBw oM] at hown;have Hown:=lhd hown;have hlS:(aG t).map sv=(dF t).map sv++ [.int .i64 0]:=(by simp [aG,sv]);have HlS:=lhd hlS;clear hown hlS;go_wp2_with (at_builtin;refine bP _ rfl (.tmp 27) (.tmp 28) _ rfl w.heap.size 3 i0 (.int .i64 0) 1 8 Tryz.underlying22 hi0 hz0 hz1 hz2 rfl dC _ m _ rfl Hown.out rfl rfl (by simp [Value.oneCell']) (by unfold maxLen;omega) oM hsz ?_;intro v2 w2 hown2 hg2 hs2 hat2);have hb3:=aZ hb Hown.out hg2 hsz;obtain ⟨A',c',rfl,hm'⟩:=aS hown2;go_ret;exact ⟨A',c',rfl,by rw [HlS.out];exact hm',hb3⟩
theorem aAr (A:Option Addr) (n c B:Nat) (l:List Nat) (w:World) (hr:Rd w B 1 A n (l.map sv)) (hB:B<=w.heap.size) (hn:n<=1073741824):
 Calls Tryz.prog 144 #[.slice A n c] w fun e w'=>∃A' c',e=.returned (.slice A' n c')/\Made w' w.heap.size 3 1 A' n c' (l.map sv)/\Below w.heap.size w w':=by
 obtain ⟨i0,hi0,hz0,hz1,hz2⟩:=info_parts gC;have q22:∀(w:World) (a:Option Addr) (n c:Nat),(binOp .eql 22 (.slice a n c) (.slice none 0 0)).run Tryz.prog w=.ok (.bool a.isNone) w:=fun w a n c=>Lib.run_eql_slice_nil w _ _ a n c _ _ Tryz.underlying22;rcases A with _ | a
 · have hn0:n=0:=by
    rcases zBa n with h | h;exact h
    · obtain ⟨_,_,h,_⟩:=hr.2 h;cases h
   subst hn0;have hl:l= []:=(by have:=hr.1;simp only [zBc,Nat.zero_mul] at this;exact zBk this);subst hl;go_enter Tryz.func144,Tryz.ntmps144;go_wp2;go_ret;exact ⟨none,0,rfl,⟨World.ownsRow_nil _ _ _ _,Rd.nil _ _ _ _,zAs _,zAp _⟩,Below.refl _ _⟩
 · have Hr:=lhd hr;clear hr;go_enter Tryz.func144,Tryz.ntmps144;go_wp2_with (at_builtin;refine aX _ rfl (.tmp 5) (.tmp 6) _ rfl w.heap.size 3 i0 (.int .i64 0) 1 8 Tryz.underlying22 hi0 hz0 hz1 hz2 rfl dC (.slice (some ⟨w.heap.size,0,none⟩) 0 0) 0 [] rfl (jW w 3 1) w.heap.size (some a) n c _ rfl ((Hr.out.mono hB).alloc nL _) (qD _) (by unfold maxLen;omega) oM (by simp) ?_;intro v5 w5 hown5 hg5 hat5);have hB5:=aZ ((Below.refl w.heap.size w).alloc nL _) (jW w 3 1) hg5 (by simp);rw [zBi,List.nil_append] at hown5;obtain ⟨A',c',rfl,hm⟩:=aS hown5;go_wp2;go_ret;exact ⟨A',c',rfl,hm,hB5⟩
structure OrdAt (W:World) (gw gn gr:Nat) (w n:Nat) (A:Option Addr) (c:Nat) (R:List Nat):Prop where
 wide:W.cell? ⟨gw,0,none⟩=some (.int .i64 (w:Int))
 len:W.cell? ⟨gn,0,none⟩=some (.int .i64 (n:Int))
 rank:W.cell? ⟨gr,0,none⟩=some (.slice A n c)
 rd:Rd W W.heap.size 1 A n (R.map sv)
theorem OrdAt.drewN {W:World} {gw gn gr w n c:Nat} {A:Option Addr} {R:List Nat} (h:OrdAt W gw gn gr w n A c R) (q:Nat):OrdAt (W.drewN q) gw gn gr w n A c R:=⟨h.wide,h.len,h.rank,h.rd⟩
theorem OrdAt.at {W:World} {gw gn gr w n c:Nat} {A:Option Addr} {R:List Nat} (h:OrdAt W gw gn gr w n A c R) {i:Nat} (hi:i < n):∃(b off x:Nat),A=some ⟨b,off,none⟩/\R[i]?=some x/\W.cell? ⟨b,off+i,none⟩=some (.int .i64 (x:Int)):=by
 obtain ⟨b,off,u,rfl,hbl,hu,hc⟩:=h.rd.get hi;rw [zAf] at hu;obtain ⟨x,hx,rfl⟩:=Option.map_eq_some_iff.1 hu;exact ⟨b,off,x,rfl,hx,hc⟩
theorem aAV (gw gn gr w n c:Nat) (A:Option Addr) (R:List Nat) (i:Nat) (W:World) (h:OrdAt W gw gn gr w n A c R) (hw:w<=1000) (hn:n<=1000) (hi:i < n):
 Calls Tryz.prog 145 #[(i:Int),gw,gn,gr] W fun e w'=>e=.returned (.int .i64 (aN R (i+w)))/\∃q,w'=W.drewN q:=by
 have hRl:R.length=n:=by simpa using h.rd.1
 have c0:=h.wide;have c1:=h.len;have c2:=h.rank;by_cases hlt:i+w < n
 · have hltI:(i:Int)+(w:Int) < (n:Int):=oM;obtain ⟨b,off,x,rfl,hx,hc⟩:=h.at hlt;have hfin:=lA hx;have HF:=lhd hfin;clear hx h hfin;go_enter Tryz.func145,Tryz.ntmps145;go_wp2;go_ret;exact ⟨by rw [HF.out];first | rfl | simp_all,0,rfl⟩
 · have hltI:¬((i:Int)+(w:Int) < (n:Int)):=oM;have hfin:=nK (l:=R) (p:=i+w) oM;have HF:=lhd hfin;clear h hfin;go_enter Tryz.func145,Tryz.ntmps145;go_wp2;go_ret;exact ⟨by rw [HF.out];rfl,0,rfl⟩
theorem aAU (gw gn gr gb w n c:Nat) (A:Option Addr) (R:List Nat) (x y:Nat) (W:World) (h:OrdAt W gw gn gr w n A c R) (hb:W.cell? ⟨gb,0,none⟩=some (.func (.func 145) #[] #[gw,gn,gr])) (hw:w<=1000) (hn:n<=1000) (hR:∀r∈R,r<=1000) (hx:x < n) (hy:y < n):
 Calls Tryz.prog 146 #[(x:Int),(y:Int),gr,gb] W fun e w'=>e=.returned (.int .i64 (kQ (aN R) w x y))/\∃q,w'=W.drewN q:=by
 have c2:=h.rank;have H:=lhd h;obtain ⟨b,off,p,hA,hp,hcp⟩:=h.at hx;obtain ⟨b',off',q,hA',hq,hcq⟩:=h.at hy;rw [hA] at hA';injection hA' with hA';injection hA' with e1 e2;subst e1 e2;have hp1:=hR p (zAd hp);have hq1:=hR q (zAd hq);have ep:=lA hp;have eq:=lA hq;have bound:∀i,-1<=aN R i/\aN R i<=1000:=by
  intro i;unfold aN;split
  · next z hz=>
    have:=hR z (zAd hz);omega
  omega
 have b1:=bound (x+w);have b2:=bound (y+w);have hov:kQ (aN R) w x y=if (p:Int)≠(q:Int) then (p:Int) -(q:Int) else aN R (x+w) - aN R (y+w):=by unfold kQ;rw [ep,eq]
 obtain ⟨u,hu⟩:=eqx (aN R (x+w));obtain ⟨v,hv⟩:=eqx (aN R (y+w));rw [hu,hv] at hov;rw [hu] at b1;rw [hv] at b2;rw [hov];subst hA;obtain ⟨Hu,Hv⟩:=hqq2 hu hv;clear h hp hq ep eq bound hov hu hv hR;by_cases hpq:p=q
 · subst hpq;rw [zBw (by simp)];go_enter Tryz.func146,Tryz.ntmps146;go_wp2;go_quiet (fail);go_wp2;have k1:∀m:Nat,Calls Tryz.prog 145 #[(x:Int),gw,gn,gr] (W.drewN (nq+m)) fun e w''=>e=.returned (.int .i64 u)/\∃n,w''=W.drewN (nq+n):=fun m=>by have h:=aAV gw gn gr w n c _ R x (W.drewN (nq+m)) (H.out.drewN _) hw hn hx;rw [Hu.out] at h;exact h.mono fun _ _ ⟨he,q,hq⟩=>⟨he,m+q,by rw [hq,World.drewN_drewN,Nat.add_assoc]⟩
   have k2:∀m:Nat,Calls Tryz.prog 145 #[(y:Int),gw,gn,gr] (W.drewN (nq+m)) fun e w''=>e=.returned (.int .i64 v)/\∃n,w''=W.drewN (nq+n):=fun m=>by have h:=aAV gw gn gr w n c _ R y (W.drewN (nq+m)) (H.out.drewN _) hw hn hy;rw [Hv.out] at h;exact h.mono fun _ _ ⟨he,q,hq⟩=>⟨he,m+q,by rw [hq,World.drewN_drewN,Nat.add_assoc]⟩
   have h64:IntKind.i64.wrap (u - v)=u - v:=(by rw [IntKind.wrap_i64];omega);go_quiet ((first |(with_reducible exact k1 _)|(with_reducible exact k2 _)));go_wp2;go_ret;exact ⟨fL (by first | omega | rfl),_,World.drewN_drewN _ _ _⟩
 · have hpI:¬((p:Int)=(q:Int)):=oM;rw [zBx hpI];go_enter Tryz.func146,Tryz.ntmps146;go_wp2;go_quiet (fail);go_wp2;go_quiet (fail);go_wp2;go_ret;exact ⟨fL oM,_,World.drewN_drewN _ _ _⟩
end
section
open Go.RowKit Go Go.Sort
def sufLt (l:List Nat) (p q:Nat):Prop:=∃w,ltW (aN l) w p q
theorem aBj {a:Nat->Int} {w w' i j:Nat} (h:ltW a w i j) (hw:w<=w'):ltW a w' i j:=by
 obtain ⟨k,h1,h2⟩:=h;exact ⟨k,by omega,h2⟩
theorem sufLt.asymm {l:List Nat} {p q:Nat} (h:sufLt l p q) (k:sufLt l q p):False:=by
 obtain ⟨w,h⟩:=h;obtain ⟨w',k⟩:=k;exact (aBj h (Nat.le_max_left w w')).asymm (aBj k (Nat.le_max_right w w'))
theorem sufLt.trans {l:List Nat} {p q r:Nat} (h:sufLt l p q) (k:sufLt l q r):sufLt l p r:=by
 obtain ⟨w,h⟩:=h;obtain ⟨w',k⟩:=k;exact ⟨_,(aBj h (Nat.le_max_left w w')).trans (aBj k (Nat.le_max_right w w'))⟩
structure IsSuf (l rs:List Nat):Prop where
 perm:rs.Perm (List.range l.length)
 sorted:rs.Pairwise (sufLt l)
theorem IsSuf.len {l rs:List Nat} (h:IsSuf l rs):rs.length=l.length:=by simpa using h.perm.length_eq
theorem IsSuf.lt {l rs:List Nat} (h:IsSuf l rs) {p:Nat} (hp:p∈rs):p < l.length:=by simpa using h.perm.mem_iff.1 hp
theorem IsSuf.mem {l rs:List Nat} (h:IsSuf l rs) {p:Nat} (hp:p < l.length):p∈rs:=h.perm.mem_iff.2 (by simpa using hp)
theorem IsSuf.nodup {l rs:List Nat} (h:IsSuf l rs):rs.Nodup:=h.perm.nodup_iff.2 List.nodup_range
theorem IsSuf.unique {l rs rs':List Nat} (h:IsSuf l rs) (h':IsSuf l rs'):rs=rs':=by
 refine List.Perm.eq_of_pairwise (le:=sufLt l) ?_ h.sorted h'.sorted (h.perm.trans h'.perm.symm);intro a b _ _ h1 h2;exact (h1.asymm h2).elim
def fF (m:Nat) (x:Fin (m+1)):Value:=.int .i64 ((x.val:Nat):Int)
theorem mL (m:Nat) (x:Fin (m+1)):(fF m x).oneCell'=true:=rfl
section
variable {α : Type} [Inhabited α] {enc : α -> Value} {w : World} {blk : Nat} {t : TypeId} {d d' : Array α}
theorem aCS (d:Array α) (i:Nat) (h:i < d.size):d[i]! =d[i]:=getElem!_pos d i h
theorem aBe (hs:d'.size=d.size):putCells enc 0 d' (d.map enc)=d'.map enc:=by
 apply Array.ext
 · simp [putCells,hs]
 · intro i h1 h2;have hi:i < d'.size:=(by simpa using h2);simp [putCells,hi,aCS]
theorem aJx (h:Bk w blk t (d.map enc)) (hs:d'.size=d.size) (n:Nat) (os:Array Obj):Bk (sortWorld enc w blk 0 n d' os) blk t (d'.map enc):=by
 have hlt:=h.lt;unfold Bk at h⊢;have e:(putRow enc (Sort.ahead w n) blk 0 d').heap[blk]?=some (.cells (d'.map enc) t (0,0)):=by show (w.heap.modify blk _)[blk]?=_;rw [Array.getElem?_modify,zBx rfl,h];simp only [Option.map_some,onCells];rw [aBe hs]
 unfold sortWorld;rw [heap_grow_old _ _ (by show blk < (w.heap.modify blk _).size;simpa using hlt)];exact e
theorem jU (hb:blk < w.heap.size) (off n:Nat) (d':Array α) (os:Array Obj):Keep (fun b=>b=blk) w (sortWorld enc w blk off n d' os):=by
 refine ⟨rfl,rfl,rfl,?_,fun k hk hn=>?_⟩
 · show w.heap.size<=((w.heap.modify blk _)++os).size;simp
 · unfold sortWorld;rw [heap_grow_old _ _ (by show k < (w.heap.modify blk _).size;simpa using hk)];show (w.heap.modify blk _)[k]?=_;rw [Array.getElem?_modify,zBw (fun e=>hn e.symm)]
theorem aI1 (h:Bk w blk t (d.map enc)):Holds enc w blk 0 d:=by
 intro j hj;rw [zBi];refine ⟨?_,h.frozen j⟩;rw [h.cell];simp [hj,aCS]
end
theorem xE {α:Type} [Inhabited α] {d d':Array α} (h:PermIn 0 d.size d d'):d'.toList.Perm d.toList:=by
 have h2:=h.2.2;have e1:d'.extract 0 d.size=d':=by rw [<-h.1];exact Array.extract_size
 have e2:d.extract 0 d.size=d:=Array.extract_size;rwa [e1,e2] at h2
def eB {m:Nat} (d:Array (Fin (m+1))) (i:Nat):Nat:=(d[i]!).val
structure RowsOk (m:Nat) (d:Array (Fin (m+1))):Prop where
 size:d.size=m+1
 perm:d.toList.Perm (List.finRange (m+1))
theorem lL {m:Nat} {d:Array (Fin (m+1))} {i:Nat} (hi:i < d.size):(d.toList.map (·.val))[i]?=some (eB d i):=by
 rw [zAf,Array.getElem?_toList,zAq hi];simp [eB,aCS d i hi]
section
variable {m : Nat} {d : Array (Fin (m + 1))}
theorem RowsOk.lt (h:RowsOk m d) (i:Nat):eB d i < m+1:=(d[i]!).isLt
theorem RowsOk.vals (h:RowsOk m d):(d.toList.map (·.val)).Perm (List.range (m+1)):=by
 have h1:=h.perm.map (·.val);have e:(List.finRange (m+1)).map (·.val)=List.range (m+1):=by
  apply List.ext_getElem
  · simp
  · intro i h1 h2;simp
 rwa [e] at h1
theorem RowsOk.nodup (h:RowsOk m d):(d.toList.map (·.val)).Nodup:=h.vals.nodup_iff.2 List.nodup_range
theorem RowsOk.inj (h:RowsOk m d) {i j:Nat} (hi:i < m+1) (hj:j < m+1) (e:eB d i=eB d j):i=j:=by
 refine (List.getElem?_inj (l:=d.toList.map (·.val)) (by simpa [h.size] using hi) h.nodup).1 ?_;rw [lL (by rw [h.size];exact hi),lL (by rw [h.size];exact hj),e]
theorem RowsOk.sur (h:RowsOk m d) {p:Nat} (hp:p < m+1):∃i,i < m+1/\eB d i=p:=by
 have h1:p∈d.toList.map (·.val):=h.vals.mem_iff.2 (by simpa using hp);obtain ⟨i,hi,he⟩:=List.getElem_of_mem h1;have hl:i < m+1:=by simpa [h.size] using hi
 refine ⟨i,hl,?_⟩;have h2:=lL (d:=d) (i:=i) (by rw [h.size];exact hl);rw [zAa hi,he] at h2;injection h2 with h2;exact h2.symm
theorem RowsOk.cell (h:RowsOk m d) {i:Nat} (hi:i < m+1):(d.map (fF m))[i]?=some (.int .i64 ((eB d i:Nat):Int)):=by
 have:i < d.size:=by rw [h.size];exact hi
 simp [fF,eB,this,aCS]
theorem RowsOk.of_perm {d':Array (Fin (m+1))} (h:RowsOk m d) (hp:PermIn 0 d.size d d'):RowsOk m d':=
 ⟨hp.1.trans h.size,(xE hp).trans h.perm⟩
theorem RowsOk.suf (h:RowsOk m d) {l:List Nat} (hl:l.length=m+1) {w:Nat} (hs:∀i j,i < j->j < m+1->ltW (aN l) w (eB d i) (eB d j)):IsSuf l (d.toList.map (·.val)):=by
 refine ⟨by rw [hl];exact h.vals,?_⟩;rw [zAr];intro i j hi hj hij;have hi':i < m+1:=by simpa [h.size] using hi
 have hj':j < m+1:=by simpa [h.size] using hj
 have e1:=lL (d:=d) (i:=i) (by rw [h.size];exact hi');have e2:=lL (d:=d) (i:=j) (by rw [h.size];exact hj');rw [zAa hi] at e1;rw [zAa hj] at e2;injection e1 with e1;injection e2 with e2;rw [e1,e2];exact ⟨w,hs i j hij hj'⟩
end
def wW (m:Nat):Array (Fin (m+1)):=(List.finRange (m+1)).toArray
theorem aH1 (m:Nat):RowsOk m (wW m):=⟨by simp [wW],by simp [wW]⟩
theorem aIc {n:Nat} {cs:Array Value} {f:Nat->Nat} {v:Nat->Nat} (hsz:n<=cs.size) (hf:∀j,j < n->f j < n) (hc:∀j,j < n->cs[f j]?=some (.int .i64 ((v j:Nat):Int))) (hsur:∀p,p < n->∃i,i < n/\f i=p):
 ∃R:List Nat,R.length=n/\(∀j,j < n->R[f j]?=some (v j))/\(∀(j:Nat) u,(R.map sv)[j]?=some u->cs[j]?=some u)/\∀r∈R,∃j,j < n/\r=v j:=by
 let g:Nat->Nat:=fun p=>match cs[p]? with
  | some (.int _ z)=>z.toNat
  | _=>0
 have hg:∀j,j < n->g (f j)=v j:=by intro j hj;show (match cs[f j]? with | some (.int _ z)=>z.toNat | _=>0)=v j;rw [hc j hj];simp
 refine ⟨(List.range n).map g,by simp,fun j hj=>?_,fun j u hu=>?_,fun r hr=>?_⟩
 · simp [hf j hj,hg j hj]
 have hj:j < n:=(by have:=(zAc.1 hu).1;simpa using this);obtain ⟨i,hi,rfl⟩:=hsur j hj;simp [hf i hi,hg i hi] at hu;rw [hc i hi,<-hu];rfl;obtain ⟨p,hp,rfl⟩:=zAy.1 hr;obtain ⟨i,hi,rfl⟩:=hsur p (by simpa using hp);exact ⟨i,hi,hg i hi⟩
def cfF (m w:Nat) (R:List Nat) (x y:Fin (m+1)):Int:=kQ (aN R) w x.val y.val
theorem aKz {l R:List Nat} {w:Nat} (m:Nat) (h:RankOk (aN l) (aN R) w):SWO (ltOf (cfF m w R)) where
 irrefl x:=by unfold ltOf cfF;rw [decide_eq_false_iff_not,vS h];exact fun h=>h.irrefl
 trans x y z h1 h2:=by
  unfold ltOf cfF at*
  rw [decide_eq_true_iff,vS h] at*
  exact h1.trans h2
 ntrans x y z h1 h2:=by
  unfold ltOf cfF at*
  rw [decide_eq_false_iff_not,vS h] at*
  intro h3;rcases oS (a:=aN l) (w+w) x.val y.val with h4 | h4 | h4;exact h1 h4;exact h2 (ltW.eq_left h4.symm h3);exact h2 (h4.trans h3)
theorem aHP {l R:List Nat} {w m:Nat} {d:Array (Fin (m+1))} (h:RankOk (aN l) (aN R) w) (hz:d.size=m+1) (hs:SortedIn (ltOf (cfF m w R)) 0 (m+1) d) (i:Nat) (hi:i+1 < m+1):¬ltW (aN l) (w+w) (eB d (i+1)) (eB d i):=by
 have h1:=hs i (i+1) (zAp _) oM hi;unfold ltOf cfF at h1;rw [decide_eq_false_iff_not,vS h] at h1;exact h1
end
end Go.Proofs.YthldmddkfbijhaaGreatDoor
