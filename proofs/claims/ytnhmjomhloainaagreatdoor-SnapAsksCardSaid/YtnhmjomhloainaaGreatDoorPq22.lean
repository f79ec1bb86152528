/- Parts of the walk, joined from several texts. Conditions: what each lemma says. -/
import Derived.Test.YtnhmjomhloainaaGreatDoorPq21
set_option linter.all false
set_option maxRecDepth 100000
set_option maxHeartbeats 4000000
namespace Go.Proofs.YtnhmjomhloainaaGreatDoor
open Go.RowKit
theorem PermAt.vis {w w':World} {B gp ga:Nat} {vl vo vt vf:Value} {R P:Nat} {ks:List Nat} {C:List (Nat×Nat)} {tk:List Bool} {fr:List Nat} (h:PermAt w B gp ga vl vo vt vf R P ks C tk fr) (k:Vis w w'):PermAt w' B gp ga vl vo vt vf R P ks C tk fr:=
 ⟨k.bk h.blk dC dC,k.own h.lrow dC dC,k.own h.orow dC dC,k.bk h.ar dC dC,k.own h.trow dC dC,k.own h.frow dC dC,h.apart,h.lt,h.lo⟩
theorem LiveAt.vis {w w':World} {Bw gl gk gp ga:Nat} {vl vo vt:Value} {B n rate:Nat} {L:List Nat} {C:List (Nat×Nat)} {tk:List Bool} (h:LiveAt w Bw gl gk gp ga vl vo vt B n rate L C tk) (k:Vis w w'):LiveAt w' Bw gl gk gp ga vl vo vt B n rate L C tk:=
 ⟨k.bk h.blk dC dC,h.walk.vis k,h.perm.vis k⟩
theorem aFJ (rs:List Nat) (rate n i p:Nat):(i,p)∈cP rs rate n↔i < n/\rs.getD i 0=p/\p % rate=0:=by
 unfold cP;rw [zAy];constructor;rintro ⟨a,ha,e⟩;rw [zCt,zCi] at ha;cases e;exact ⟨ha.1,rfl,by simpa using ha.2⟩;rintro ⟨h1,rfl,h2⟩;exact ⟨i,zCt.2 ⟨zCi.2 h1,by simpa using h2⟩,rfl⟩
theorem zT (C:List (Nat×Nat)) (h:C.Pairwise (fun a b=>a.1 < b.1)):(List.range C.length).Pairwise (fun a b=>aC C a < aC C b):=by
 rw [zAr];intro i j hi hj hij;rw [zCh] at hi hj;rw [List.getElem_range,List.getElem_range];have:=zAr.1 h i j hi hj hij;unfold aC;rw [zAb,zAb,zAa hi,zAa hj];exact this
theorem aFK (rs:List Nat) (rate n:Nat):(cP rs rate n).length<=n:=by
 unfold cP;rw [zBc];exact zAk (zCs _ _) (by simp)
theorem VisF.waveC {F:Nat->Prop} {w w':World} {g:Nat} {S:Nat->Value} {n v:Int} (h:VisF F w w') (hb:Bk w g 170 (wcells S n v)) (hn:¬F g):∃v',Bk w' g 170 (wcells S n v'):=by
 rcases VisF.wave h hb hn with h1 |⟨v',h1⟩;exact ⟨v,h1⟩;rw [cI] at h1;exact ⟨v',h1⟩
def aH5 (x:Value) (w:World):Nat:=match x with
 | .pointer (some a)=>match w.cell? a with
   | some v=>(intOf v+1).toNat
   | none=>0
 | _=>0
theorem aBs {w:World} {a:Addr} {z:Int} (h:w.cell? a=some (.int .i64 z)):aH5 (.pointer (some a)) w=(z+1).toNat:=by
 show (match w.cell? a with | some v=>(intOf v+1).toNat | none=>0)=_;rw [h];rfl
theorem vP (B gv:Nat) (L:List Nat) (r j s:Nat) (w:World) (h:WaveAt w B gv L) (hr:L[r]?=some s) (hj:(L.take r).count s=j) (hL:∀x∈L,x < 257) (hn:L.length<=1000) (hT:TabW w) (hB0:1 < B):
 Calls Tryz.prog 204 #[.pointer (some ⟨gv,0,none⟩),.int .i64 (j:Int),.int .i64 (s:Int)] w fun e w'=>e=.returned (.int .i64 (r:Int))/\VB B w w':=by
 have hrl:=(zAc.1 hr).1;have hrs:=(zAc.1 hr).2;have hs:s < 257:=by rw [<-hrs];exact hL _ (zBj hrl)
 have hcnt:(L.take r).count s < L.count s:=by
  have h1:L.count s=(L.take (r+1)).count s+(L.drop (r+1)).count s:=by rw [<-zCc,zAu]
  have h2:(L.take (r+1)).count s=(L.take r).count s+1:=by rw [zAv,hr,zCc];simp
  omega
 have h90:=kJ L r s (zCl hrl) hL hs;have h99:=zC L r s;rw [hj] at h99 hcnt;have hat:∀lv,(aK L lv (bB s lv))[fH L r s lv]?=some (fS s lv):=fun lv=>by have:=aAo L r lv hrl;rw [hrs] at this;exact this
 have hwA:=h;obtain ⟨hBg,S,v,hb,hrows⟩:=h;obtain ⟨n,hnn⟩:=eqx L.length;have hqq:(L.take n).count s=L.count s:=by rw [<-hnn,List.take_length]
 obtain ⟨q,hq⟩:=eqx (L.count s);rw [hq] at hqq hcnt;rw [hnn] at hb hrl;have hlt:=hb.lt;have hj0:decide ((j:Int) < 0)=false:=by simp
 have hbel:=((Below.refl w.heap.size w).alloc nL (.cells #[.int .i64 (j:Int)] 3)).alloc (by simp) (.cells #[.int .i64 (s:Int)] 3);have hg4:=(Bk.new w 3 #[.int .i64 (j:Int)]).alloc (.cells #[.int .i64 (s:Int)] 3);have hg5:=Bk.new (w.alloc (.cells #[.int .i64 (j:Int)] 3)) 3 #[.int .i64 (s:Int)];rw [World.size_alloc] at hg5;obtain ⟨W,hW⟩:∃x,(w.alloc (.cells #[.int .i64 (j:Int)] 3)).alloc (.cells #[.int .i64 (s:Int)] 3)=x:=⟨_,rfl⟩;obtain ⟨g4,hg4e⟩:∃x,w.heap.size=x:=⟨_,rfl⟩;obtain ⟨g5,hg5e⟩:∃x,g4+1=x:=⟨_,rfl⟩;rw [hW] at hbel hg4 hg5;rw [hg4e] at hg4;rw [hg4e,hg5e] at hg5;have l4:=hg4.lt;have l5:=hg5.lt;obtain ⟨Hj9,H0,HwA,Hwb,Hwb0,Hrows,Hat,HL,HN⟩:=hqq9 h99 h90 (hwA.vis (Vis.of_below hbel)) (hb.below hbel hlt) hb hrows hat hL hnn;obtain ⟨Hn1000,Hq,Hjq,HT,Hg4,Hg5,HW,Hbel,He4⟩:=hqq9 hn hqq (show ¬q<=j by omega) hT hg4 hg5 hW hbel hg4e;have He5:=lhd hg5e;clear h99 h90 hwA hb hrows hat hL hnn hqq hq hcnt hj hr hrs hT hg4 hg5 hW hbel hn hrl;go_enter Tryz.func204,Tryz.ntmps204;go_wp2_with fail;rw [HW.out];refine wp_region_any kR ?_;refine aX [8,9,10,11,12,13,14,15,16,17,18,19,20,21,22,23,24] (VB B) (Vs [is (.pointer (some ⟨gv,0,none⟩)),is (.bool false),is (.bool false),is (.int .i64 (j:Int)),is (.bool false),is (.bool false),is (.bool false),is (.int .i64 (j:Int)),is (.pointer (some ⟨gv,0,none⟩)),is (.pointer (some ⟨gv,0,none⟩)),is (.pointer (some ⟨gv,0,none⟩)),is (.pointer (some ⟨gv,9,none⟩)),is (.int .i64 (n:Int)),is (.int .i64 (s:Int)),is (.int .i64 (q:Int)),is (.bool false),is (.bool false)]) _ _ rfl kR vR (fun _ _=>VisK.trans) (cY (by repeat' (first | exact cA _ _ | exact bS _ |(refine zAe.2 ⟨?_,?_⟩)|(intro p hp;cases hp)))) ?_ ?_
 · refine aT ?_;refine pH 0 (.pointer (some ⟨gv,0,none⟩)) ?_;refine pV 0 8 ?_;refine pV 1 9 ?_;refine aA (aL (d:=10) (b:=false) rfl rfl rfl kR (fun _ _ _ h=>h) fun ev w5 hS _ _ hold _ _ _ _ hK=>?_) ?_
   · have e4:ev (.tmp 4)=.pointer (some ⟨g4,0,none⟩):=hold 4 kR;replace hS:(VB B) W w5:=bD hS;have k5:w5.cell? ⟨g4,0,none⟩=some (.int .i64 (j:Int)):=((hS.1.bk Hg4.out dC dC).cell 0).trans rfl;go_simp;exact hK _ _ vR rfl
   refine aA (aL (d:=10) (b:=false) rfl rfl rfl kR (fun _ _ _ h=>h) fun _ _ _ _ _ _ hval _ _ _ hK=>?_) ?_
   · have e11:_=_:=hval 3 11 kR rfl;go_simp;exact hK _ _ vR rfl
   refine pW 2 10 4 12 ?_;refine pV 5 13 ?_;refine aA (aL (d:=14) (b:=false) rfl rfl rfl kR (fun _ _ _ h=>h) fun ev w5 hS _ _ hold _ _ _ _ hK=>?_) ?_
   · have e4:ev (.tmp 4)=.pointer (some ⟨g4,0,none⟩):=hold 4 kR;replace hS:(VB B) W w5:=bD hS;have k5:w5.cell? ⟨g4,0,none⟩=some (.int .i64 (j:Int)):=((hS.1.bk Hg4.out dC dC).cell 0).trans rfl;go_simp;exact hK _ _ vR rfl
   refine aA (aL (d:=14) (b:=false) rfl rfl rfl kR (fun _ _ _ h=>h) fun ev _ _ _ _ hold _ _ _ _ hK=>?_) ?_
   · have e0:ev (.tmp 0)=.pointer (some ⟨gv,0,none⟩):=hold 0 kR;go_simp;exact hK _ _ vR rfl
   refine aA (aL (d:=14) (b:=false) rfl rfl rfl kR (fun _ _ _ h=>h) fun ev _ _ _ _ hold _ _ _ _ hK=>?_) ?_
   · have e0:ev (.tmp 0)=.pointer (some ⟨gv,0,none⟩):=hold 0 kR;go_simp;exact hK _ _ vR rfl
   refine aA (aL (d:=14) (b:=false) rfl rfl rfl kR (fun _ _ _ h=>h) fun _ _ _ _ _ _ hval _ _ _ hK=>?_) ?_
   · have e17:_=_:=hval 9 17 kR rfl;go_simp;exact hK _ _ vR rfl
   refine aA (aL (d:=14) (b:=false) rfl rfl rfl kR (fun _ _ _ h=>h) fun _ _ _ _ _ _ hval _ _ _ hK=>?_) ?_
   · have e18:_=_:=hval 10 18 kR rfl;go_simp;exact hK _ _ vR rfl
   refine aA (aL (d:=14) (b:=false) rfl rfl rfl kR (fun _ _ _ h=>h) fun _ w5 hS _ _ _ hval _ _ _ hK=>?_) ?_
   · have e19:_=_:=hval 11 19 kR rfl;replace hS:(VB B) W w5:=bD hS;obtain ⟨v5,hw5⟩:=hS.1.waveC Hwb.out;have c9:w5.cell? ⟨gv,9,none⟩=some (.int .i64 (n:Int)):=(hw5.cell 9).trans (bH S n v5).2.2.2.2.2.2.2.2.2.1;go_simp;exact hK _ _ vR rfl
   refine aA (aL (d:=14) (b:=false) rfl rfl rfl kR (fun _ _ _ h=>h) fun ev w5 hS _ _ hold _ _ _ _ hK=>?_) ?_
   · have e5:ev (.tmp 5)=.pointer (some ⟨g5,0,none⟩):=hold 5 kR;replace hS:(VB B) W w5:=bD hS;have k5:w5.cell? ⟨g5,0,none⟩=some (.int .i64 (s:Int)):=((hS.1.bk Hg5.out dC dC).cell 0).trans rfl;go_simp;exact hK _ _ vR rfl
   refine aA (aL (d:=14) (b:=false) rfl rfl rfl kR (fun _ _ _ h=>h) fun _ w5 hS _ _ _ hval _ _ _ hK=>?_) ?_
   · have e16:_=_:=hval 8 16 kR rfl;have e20:_=_:=hval 12 20 kR rfl;have e21:_=_:=hval 13 21 kR rfl;replace hS:(VB B) W w5:=bD hS;go_simp;refine (gF B gv L n s w5 (HwA.out.vis hS.1) hs (zCr HN.out.symm) HL.out Hn1000.out).mono ?_;rintro e w8 ⟨rfl,hv8⟩;rw [Hq.out];exact hK _ _ hv8 rfl
   refine aA (aL (d:=14) (b:=false) rfl rfl rfl kR (fun _ _ _ h=>h) fun _ _ _ _ _ _ hval _ _ _ hK=>?_) ?_
   · have e15:_=_:=hval 7 15 kR rfl;have e22:_=_:=hval 14 22 kR rfl;have hjq:=Hjq.out;have hjq2:decide (q<=j)=false:=zBy hjq;go_simp;exact hK _ _ vR rfl
   refine pW 6 14 15 23 ?_;exact aG
 · intro ev w6 hS hval;replace hS:(VB B) W w6:=bD hS;have e24:ev (.tmp 24)=.bool false:=hval 16 24 rfl;simp only [aO,zq1,zq2,Act.put,zq3,zq4,zq5];rw [e24];clear hval;have hvW:VB B w w6:=(VisK.of_below (hg4e ▸ Hbel.out)).trans hS;have hg4:=hS.1.bk Hg4.out dC dC;have hg5:=hS.1.bk Hg5.out dC dC;have hs6:=hS.1.size;obtain ⟨W6,hW6⟩:∃x,x=w6:=⟨_,rfl⟩;subst hW6;have h8:=Bk.new W6 3 #[.int .i64 8];have hg47:=hg4.alloc (.cells #[.int .i64 8] 3);have hg57:=hg5.alloc (.cells #[.int .i64 8] 3);have hv7:=hvW.alloc (.cells #[.int .i64 8] 3);obtain ⟨H8,Hg47,Hg57,Hv7⟩:=hqq4 h8 hg47 hg57 hv7;have hB4:B<=g4:=oM;have hgw:w.heap.size<=W6.heap.size:=hvW.1.size;clear h8 hg47 hg57 hv7 hg4 hg5 hS hvW Hg4 Hg5 hj0;go_wp2_with fail;go_loopw [7] (fun x wr=>∃(g7 m:Nat) (z:Int),m<=9/\z=(m:Int) - 1/\x=.pointer (some ⟨g7,0,none⟩)/\Bk wr g7 3 #[.int .i64 z]/\Bk wr g4 3 #[.int .i64 ((fH L r s m:Nat):Int)]/\Bk wr g5 3 #[.int .i64 (s:Int)]/\VB B w wr/\g5 < g7) (fun x wr=>aH5 x wr)
   case atStart=>exact ⟨W6.heap.size,9,8,by omega,by omega,rfl,H8.out,by rw [Hj9.out];exact Hg47.out,Hg57.out,Hv7.out,by omega⟩
   case round=>
    obtain ⟨g7,m9,z,hm9,hz,rfl,hg7,hgk,hg5,hv,hg57⟩:=hrel;have c7:wr.cell? ⟨g7,0,none⟩=some (.int .i64 z):=(hg7.cell 0).trans rfl;rcases m9 with _ | lv
    · have hz0:decide (z>=0)=false:=(by simp;omega);have c4:wr.cell? ⟨g4,0,none⟩=some (.int .i64 ((fH L r s 0:Nat):Int)):=(hgk.cell 0).trans rfl;rw [H0.out] at c4;have Hv:=lhd hv;clear hgk hg5 hg7 hv;go_wp2_with fail;go_ret;exact ⟨rfl,Hv.out⟩
    · obtain rfl:z=(lv:Int):=oM;have hl9:lv < 9:=oM;have hz0:decide ((lv:Int)>=0)=true:=(by simp);obtain ⟨G,hown,htr⟩:=Hrows.out lv hl9;obtain ⟨m,hm⟩:=eqx (2 ^ lv);obtain ⟨p,hp⟩:=eqx (bB s lv);have hpm:p < m:=(by rw [<-hm,<-hp];exact kT s lv hs oM);rw [hm] at hown htr;obtain ⟨g,cap,hSl,hnc,hgl⟩:=World.ownsRow.form hown oM;rw [hSl] at hown;obtain ⟨x,hx⟩:=eqx (fH L r s lv);obtain ⟨y,hy⟩:=eqx (fH L r s (lv+1));have hxy:=kK L r s lv hl9;have hxa:=Hat.out lv;rw [hp,hx,hy] at hxy;rw [hp,hx] at hxa;rw [hy] at hgk;have hpI:(p:Int) < (m:Int):=oM;have hown2:=hv.1.own hown dC dC;have hgw2:=hown.lt;have hgne:∀b,(Value.slice (some ⟨g,0,none⟩) m cap).ownBlock=some b->b≠g4:=fun b hbo=>by have hgb:g=b:=(by simpa [Value.ownBlock] using hbo);omega
      have Hgne:=lhd hgne;clear hgne;have hwb2:∃v2,Bk wr gv 170 (wcells S n v2):=hv.1.waveC Hwb0.out;obtain ⟨v2,hwb2⟩:=hwb2;have hTr:=HT.out.vb hv hB0 oM;have hwr:=hv.1.size;obtain ⟨Hxy,Hxa,Hown,Htr,Hp,Hx,Hy,Hv,HSl⟩:=hqq9 hxy hxa hown2 (htr p hpm) hp hx hy hv hSl;obtain ⟨Hwb,HTr,Hg7,Hg5,Hgk,C7⟩:=hqq6 hwb2 hTr hg7 hg5 hgk c7;obtain ⟨Wx,hWx⟩:∃x,x=wr:=⟨_,rfl⟩;subst hWx;clear hown htr hSl hm hp hx hy hxy hxa hv hown2 hwb2 hTr hg7 hg5 hgk hz;go_wp2_with fail;refine wp_region_any kR ?_;refine cK B 14 [29,30,31,32,33,34,35,36,37,38,39,40,41,42] (fun b=>b=g4) 13 [13] (fun w2=>Bk w2 g4 3 #[.int .i64 (y:Int)]) (fun _ w2=>Bk w2 g4 3 #[.int .i64 (x:Int)]) [is (.pointer (some ⟨gv,0,none⟩)),is (.pointer (some ⟨gv,0,none⟩)),is (.int .i64 (lv:Int)),is (.pointer (some ⟨gv,0,none⟩)),is (.pointer (some ⟨gv,0,none⟩)),is (.pointer (some ⟨gv,lv,none⟩)),is (.slice (some ⟨g,0,none⟩) m cap),is (.int .i64 (s:Int)),is (.int .i64 (lv:Int)),is (.int .i64 (p:Int)),is (.pointer (some ⟨g,p*3,none⟩)),is (.agg #[.pointer (some ⟨G p,0,none⟩),.int .i64 (lv:Int),.int .i64 (p:Int)]),is (.func (.func 244) #[] #[.pointer (some ⟨g4,0,none⟩),.pointer (some ⟨g5,0,none⟩),.pointer (some ⟨g7,0,none⟩)]),dJ] _ _ rfl dC kR kR kR (Hgk.out) (fun w1 w2 h _ k=>k.1.bk h dC dC) (fun _ _ _ h k=>k.1.bk h dC dC) (by repeat' (first | exact cA _ _ | exact bS _ |(refine zAe.2 ⟨?_,?_⟩)|(intro p hp;cases hp))) ?_ ?_
      · refine cC ?_;refine pH3 0 (.pointer (some ⟨gv,0,none⟩)) ?_;refine pH3 0 (.pointer (some ⟨gv,0,none⟩)) ?_;refine sC3 (fun ev w5 hS _ _ _ hold _ _ _ _ hK=>?_) ?_
        · replace hS:VFB B (fun b=>b=g4) Wx w5:=fD hS;have e7:ev (.tmp 7)=.pointer (some ⟨g7,0,none⟩):=hold 7 kR;have k5:w5.cell? ⟨g7,0,none⟩=some (.int .i64 (lv:Int)):=((hS.1.bk Hg7.out dC dC (fun h=>absurd (show g7=g4 from h) oM)).cell 0).trans rfl;go_simp;exact hK _ _ (aH vR) rfl
        refine pV3 1 30 ?_;refine pV3 3 32 ?_;refine sC3 (fun _ _ _ _ _ _ _ hval _ _ _ hK=>?_) ?_
        · have e33:_=_:=hval 4 33 kR rfl;have e31:_=_:=hval 2 31 kR rfl;have hl9I:(lv:Int) < 9:=oM;go_simp;exact hK _ _ (aH vR) rfl
        refine sC3 (fun _ w5 hS _ _ _ _ hval _ _ _ hK=>?_) ?_
        · replace hS:VFB B (fun b=>b=g4) Wx w5:=fD hS;have e34:_=_:=hval 5 34 kR rfl;obtain ⟨v5,hw5⟩:=hS.1.waveC Hwb.out (fun h=>absurd (show gv=g4 from h) oM);have c9:w5.cell? ⟨gv,lv,none⟩=some (.slice (some ⟨g,0,none⟩) m cap):=(hw5.cell lv).trans ((qZ S n v5 lv hl9).trans (congrArg some HSl.out));go_simp;exact hK _ _ (aH vR) rfl
        refine sC3 (fun ev w5 hS _ _ _ hold _ _ _ _ hK=>?_) ?_
        · replace hS:VFB B (fun b=>b=g4) Wx w5:=fD hS;have e5:ev (.tmp 5)=.pointer (some ⟨g5,0,none⟩):=hold 5 kR;have k5:w5.cell? ⟨g5,0,none⟩=some (.int .i64 (s:Int)):=((hS.1.bk Hg5.out dC dC (fun h=>absurd (show g5=g4 from h) oM)).cell 0).trans rfl;go_simp;exact hK _ _ (aH vR) rfl
        refine sC3 (fun ev w5 hS _ _ _ hold _ _ _ _ hK=>?_) ?_
        · replace hS:VFB B (fun b=>b=g4) Wx w5:=fD hS;have e7:ev (.tmp 7)=.pointer (some ⟨g7,0,none⟩):=hold 7 kR;have k5:w5.cell? ⟨g7,0,none⟩=some (.int .i64 (lv:Int)):=((hS.1.bk Hg7.out dC dC (fun h=>absurd (show g7=g4 from h) oM)).cell 0).trans rfl;go_simp;exact hK _ _ (aH vR) rfl
        refine sC3 (fun _ w5 _ _ _ _ _ hval _ _ _ hK=>?_) ?_
        · have e36:_=_:=hval 7 36 kR rfl;have e37:_=_:=hval 8 37 kR rfl;go_simp;refine (jU s lv w5 hs oM).mono ?_;rintro e w8 ⟨rfl,hb8⟩;rw [Hp.out];exact hK _ _ (aH (VisK.of_below hb8)) rfl
        refine pW3 6 35 9 38 ?_;refine sC3 (fun _ w5 hS _ _ _ _ hval _ _ _ hK=>?_) ?_
        · replace hS:VFB B (fun b=>b=g4) Wx w5:=fD hS;have e39:_=_:=hval 10 39 kR rfl;have hrow5:=aB Hown.out fun b cs hbo hb=>hS.1.bk hb dC dC (fun h=>absurd (show b=g4 from h) (Hgne.out b hbo));obtain ⟨q0,q1,q2⟩:=fQ G lv m p hpm;have a0:w5.cell? ⟨g,p*3,none⟩=_:=(World.ownsRow.cellAt hrow5 (p*3) oM).trans q0;have a1:w5.cell? ⟨g,p*3+1,none⟩=_:=(World.ownsRow.cellAt hrow5 (p*3+1) oM).trans q1;have a2:w5.cell? ⟨g,p*3+2,none⟩=_:=(World.ownsRow.cellAt hrow5 (p*3+2) oM).trans q2;go_simp;exact hK _ _ (aH vR) rfl
        refine sC3 (fun ev _ _ _ _ _ hold _ _ _ _ hK=>?_) ?_
        · have e4:ev (.tmp 4)=.pointer (some ⟨g4,0,none⟩):=hold 4 kR;have e5:ev (.tmp 5)=.pointer (some ⟨g5,0,none⟩):=hold 5 kR;have e7:ev (.tmp 7)=.pointer (some ⟨g7,0,none⟩):=hold 7 kR;go_simp;exact hK _ _ (aH vR) rfl
        refine sC3 (fun _ w5 hS hU _ _ _ hval _ _ _ hK=>?_) ?_
        · replace hS:VFB B (fun b=>b=g4) Wx w5:=fD hS;have hpre:=hU rfl;have e29:_=_:=hval 0 29 kR rfl;have e40:_=_:=hval 11 40 kR rfl;have e41:_=_:=hval 12 41 kR rfl;go_simp;have hvw:Vis w w5:=(VisF.trans (VisF.of_vis Hv.out.1) hS.1).to_vis (fun b hb e=>by have:b=g4:=e;omega);obtain ⟨v5,hw5⟩:∃v5,Bk w5 gv 170 (wcells S n v5):=hvw.waveC Hwb0.out;have hg5:=hS.1.bk Hg5.out dC dC (fun h=>absurd (show g5=g4 from h) oM);have hg7:=hS.1.bk Hg7.out dC dC (fun h=>absurd (show g7=g4 from h) oM);have hT5:TabW w5:=fun j hj=>(hS.2.cell (p:=⟨1,j,none⟩) (by show 1 < Wx.heap.size;omega) (by show ¬(1=g4∨B<=1);omega)).trans (HTr.out j hj);refine (aFb B gv (G p) g4 g5 g7 S n v5 p lv (aK L lv p) x y s w w5 hw5 Htr.out.2 hvw oM hpre hg5 hg7 hl9 hs Hxa.out Hxy.out hT5 hB0 hBg Htr.out.1 oM).mono ?_;rintro e w8 ⟨rfl,hf8,hk8,hb8⟩;exact hK _ _ (lT ⟨hf8,hk8.mono fun b _ h=>.inr h⟩) hb8
        exact aG
      · intro ev w6 f hS hval hall;replace hS:VFB B (fun b=>b=g4) Wx w6:=fD hS;obtain ⟨vJ,pJ0⟩:=hall 13 dC;have pJ:(fun _ w2=>Bk w2 g4 3 #[.int .i64 (x:Int)]) vJ w6:=pJ0;clear pJ0 hall;simp only [aO,zq1,zq2,Act.put,zq3,zq4,zq5];clear hval;change wpAny Tryz.prog Region.Mode.any _ _ (0+f) (cF 14 14) _ w6;refine cM kR ?_;have hg5:=hS.1.bk Hg5.out dC dC (fun h=>absurd (show g5=g4 from h) oM);have hg7:=hS.1.bk Hg7.out dC dC (fun h=>absurd (show g7=g4 from h) oM);have hvn:VB B w w6:=⟨(VisF.trans (VisF.of_vis Hv.out.1) hS.1).to_vis (fun b hb e=>by have:b=g4:=e;omega),Hv.out.2.trans (hS.2.mono fun b _ h=>by rcases h with h | h;(have:b=g4:=h;omega);exact h)⟩;have hs6:=hS.1.size;have c7:w6.cell? ⟨g7,0,none⟩=some (.int .i64 (lv:Int)):=(hg7.cell 0).trans rfl;have l7:=hg7.lt;obtain ⟨Hg5n,Hg4n,Hvn⟩:=hqq3 hg5 pJ hvn;clear hg5 hg7 hvn hS pJ;go_wp2_with fail;refine ⟨⟨w6.heap.size,lv,(lv:Int) - 1,by omega,rfl,rfl,Bk.new _ _ _,by rw [Hx.out];exact Hg4n.out.alloc _,Hg5n.out.alloc _,Hvn.out.alloc _,by omega⟩,?_⟩;have n1:=((Bk.new w6 3 #[.int .i64 ((lv:Int) - 1)]).cell 0);rw [aBs (n1.trans rfl),aBs C7.out];omega
def WalkT (w:World) (B gk:Nat) (L T:List Nat):Prop:=
 ∃gv gt,Bk w gk 99 #[.pointer (some ⟨gv,0,none⟩),.pointer (some ⟨gt,0,none⟩)]/\WaveAt w B gv L/\Bk w gt 229 (tcells T)
theorem WalkT.vis {w w':World} {B gk:Nat} {L T:List Nat} (h:WalkT w B gk L T) (k:Vis w w'):WalkT w' B gk L T:=by
 obtain ⟨gv,gt,h1,h2,h3⟩:=h;exact ⟨gv,gt,k.bk h1 dC dC,h2.vis k,k.bk h3 dC dC⟩
def sZ (L T:List Nat) (s k:Nat):Nat:=T.countP (fun x=>decide (x < s))+(L.take k).count s
theorem aAr (B gk:Nat) (L T:List Nat) (w:World) (h:WalkT w B gk L T):
 Calls Tryz.prog 123 #[.pointer (some ⟨gk,0,none⟩)] w fun e w'=>e=.returned (.int .i64 (L.length:Int))/\w=w':=by
 obtain ⟨gv,gt,h1,h2,h3⟩:=h;have c0:=h1.cell 0;clear h1 h3;go_enter Tryz.func123,Tryz.ntmps123;go_wp2_with fail;refine (sI B gv L _ h2).mono ?_;rintro e w' ⟨rfl,rfl⟩;go_wp2_with fail;go_ret;exact ⟨rfl,rfl⟩
theorem vW (B gk:Nat) (L T:List Nat) (s:Nat) (w:World) (h:WalkT w B gk L T) (hs:s < 257) (hl:T.length<=1000):
 Calls Tryz.prog 189 #[.pointer (some ⟨gk,0,none⟩),.int .i64 (s:Int)] w fun e w'=>e=.returned (.int .i64 ((T.countP (fun x=>decide (x < s)):Nat):Int))/\Below w.heap.size w w':=by
 obtain ⟨gv,gt,h1,h2,h3⟩:=h;have c1:=h1.cell 1;clear h1 h2;have H3:=lhd h3;clear h3;go_enter Tryz.func189,Tryz.ntmps189;go_wp2_with fail;refine (jF gt T s _ H3.out hs hl).mono ?_;rintro e w' ⟨rfl,hb⟩;obtain ⟨q,hq⟩:∃q,T.countP (fun x=>decide (x < s))=q:=⟨_,rfl⟩;rw [hq];go_wp2_with fail;go_ret;exact ⟨by rw [hq];rfl,hb⟩
theorem aBR (B gk:Nat) (L T:List Nat) (i:Nat) (w:World) (h:WalkT w B gk L T) (hi:i < L.length):
 Calls Tryz.prog 188 #[.pointer (some ⟨gk,0,none⟩),.int .i64 (i:Int)] w fun e w'=>e=.returned (.bool true)/\w=w':=by
 obtain ⟨n,hn⟩:=eqx L.length;rw [hn] at hi;have hiI:(i:Int) < (n:Int):=oM;obtain ⟨Hn,H⟩:=hqq2 hn h;clear hn h;go_enter Tryz.func188,Tryz.ntmps188;go_wp2_with fail;refine (aAr B gk L T w H.out).mono ?_;rintro e w' ⟨rfl,rfl⟩;rw [Hn.out];go_wp2_with fail;go_ret;exact ⟨rfl,rfl⟩
theorem oC (B gk:Nat) (L T:List Nat) (i s:Nat) (w:World) (h:WalkT w B gk L T) (his:L[i]?=some s) (hL:∀x∈L,x < 257) (hl:L.length<=1000) (hT:T.length<=1000):
 Calls Tryz.prog 126 #[.pointer (some ⟨gk,0,none⟩),.int .i64 (i:Int)] w fun e w'=>e=.returned (.int .i64 ((sZ L T s i:Nat):Int))/\VB B w w':=by
 have hi:=(zAc.1 his).1;have hs:s < 257:=hL _ (zAd his);have hH:=h;obtain ⟨gv,gt,h1,h2,h3⟩:=h;have c0:=h1.cell 0;have hlt:=h1.lt;obtain ⟨j,hj⟩:=eqx (sZ L T s i);obtain ⟨q1,hq1⟩:∃q,T.countP (fun x=>decide (x < s))=q:=⟨_,rfl⟩;obtain ⟨q2,hq2⟩:∃q,(L.take i).count s=q:=⟨_,rfl⟩;have hj2:q1+q2=j:=by rw [<-hq1,<-hq2,<-hj];rfl
 have hb1:q1<=1000:=by rw [<-hq1];exact zAk zBh hT
 have hb2:q2<=1000:=by rw [<-hq2];exact zAk zBv (by rw [zAj];omega)
 rw [hj];obtain ⟨H,H1,H2,Hi,His,HL,Hl,HT,Hq1⟩:=hqq9 hH h1 h2 hi his hL hl hT hq1;obtain ⟨Hq2,Hj⟩:=hqq2 hq2 hj2;clear hH h1 h2 h3 hi his hL hl hq1 hq2 hj hj2;go_enter Tryz.func126,Tryz.ntmps126;go_wp2_with fail;refine (aBR B gk L T i w H.out Hi.out).mono ?_;rintro e w1 ⟨rfl,rfl⟩;go_wp2_with fail;refine (eI B gv L i s w H2.out Hi.out (zAc.1 His.out).2 HL.out Hl.out).mono ?_;rintro e W ⟨rfl,hv⟩;have hW:=H.out.vis hv.1;have h1W:=hv.1.bk H1.out dC dC;have h2W:=H2.out.vis hv.1;obtain ⟨HW,H1W,H2W,Hv⟩:=hqq4 hW h1W h2W hv;clear hW h1W h2W hv c0;go_wp2_with fail;refine wp_region_any kR ?_;refine aX [20,21,22,23,24,25,26,27,28,29,30,4] (VB B) (Vs [is (.pointer (some ⟨gk,0,none⟩)),is (.int .i64 (s:Int)),is (.int .i64 (q1:Int)),is (.pointer (some ⟨gk,0,none⟩)),is (.pointer (some ⟨gk,0,none⟩)),is (.pointer (some ⟨gk,0,none⟩)),is (.pointer (some ⟨gv,0,none⟩)),is (.int .i64 (i:Int)),is (.int .i64 (s:Int)),is (.int .i64 (q2:Int)),is (.int .i64 (j:Int)),is (.int .i64 (j:Int))]) _ _ rfl kR vR (fun _ _=>VisK.trans) (cY (by repeat' (first | exact cA _ _ | exact bS _ |(refine zAe.2 ⟨?_,?_⟩)|(intro p hp;cases hp)))) ?_ ?_
 · refine aT ?_;refine pH 0 (.pointer (some ⟨gk,0,none⟩)) ?_;refine pH 5 (.int .i64 (s:Int)) ?_;refine sC (fun _ w5 hS _ _ _ hval _ _ _ hK=>?_) ?_
   · have e20:_=_:=hval 0 20 kR rfl;have e21:_=_:=hval 1 21 kR rfl;replace hS:(VB B) W w5:=bD hS;go_simp;refine (vW B gk L T s w5 (HW.out.vis hS.1) hs HT.out).mono ?_;rintro e w8 ⟨rfl,hb8⟩;rw [Hq1.out];exact hK _ _ (VisK.of_below hb8) rfl
   refine pH 0 (.pointer (some ⟨gk,0,none⟩)) ?_;refine pV 3 23 ?_;refine pV 4 24 ?_;refine sC (fun _ w5 hS _ _ _ hval _ _ _ hK=>?_) ?_
   · have e25:_=_:=hval 5 25 kR rfl;replace hS:(VB B) W w5:=bD hS;have c26:w5.cell? ⟨gk,0,none⟩=some (.pointer (some ⟨gv,0,none⟩)):=((hS.1.bk H1W.out dC dC).cell 0).trans rfl;go_simp;exact hK _ _ vR rfl
   refine pH 1 (.int .i64 (i:Int)) ?_;refine pH 5 (.int .i64 (s:Int)) ?_;refine sC (fun _ w5 hS _ _ _ hval _ _ _ hK=>?_) ?_
   · have e26:_=_:=hval 6 26 kR rfl;have e27:_=_:=hval 7 27 kR rfl;have e28:_=_:=hval 8 28 kR rfl;replace hS:(VB B) W w5:=bD hS;go_simp;refine (gF B gv L i s w5 (H2W.out.vis hS.1) hs (zCl Hi.out) HL.out Hl.out).mono ?_;rintro e w8 ⟨rfl,hv8⟩;rw [Hq2.out];exact hK _ _ hv8 rfl
   refine sC (fun _ _ _ _ _ _ hval _ _ _ hK=>?_) ?_
   · have e22:_=_:=hval 2 22 kR rfl;have e29:_=_:=hval 9 29 kR rfl;have hx1:IntKind.i64.wrap ((q1:Int)+(q2:Int))=(j:Int):=(by rw [IntKind.wrap_i64];have:=Hj.out;omega);go_simp;exact hK _ _ vR rfl
   refine pV 10 30 ?_;exact aG
 · intro ev w6 hS hval;replace hS:(VB B) W w6:=bD hS;have e4:ev (.tmp 4)=.int .i64 (j:Int):=hval 11 4 rfl;simp only [aO,zq1,zq2,Act.put,zq3,zq4,zq5];rw [e4];clear hval;have hv6:=Hv.out.trans hS;go_wp2_with fail;go_ret;exact ⟨rfl,hv6⟩
def WalkE (w:World) (B:Nat) (own:Nat->Nat) (gk:Nat) (L T:List Nat):Prop:=
 ∃gv gt,Bk w gk 99 #[.pointer (some ⟨gv,0,none⟩),.pointer (some ⟨gt,0,none⟩)]/\own gk=2/\WaveE w B own gv L/\Bk w gt 229 (tcells T)/\own gt=2
section
variable {w w' : World} {B : Nat} {own own' : Nat -> Nat} {gk : Nat} {L T : List Nat}
theorem WalkE.atT (h:WalkE w B own gk L T):WalkT w B gk L T:=by
 obtain ⟨gv,gt,h1,_,h2,h3,_⟩:=h;exact ⟨gv,gt,h1,h2.at,h3⟩
theorem WalkE.at (h:WalkE w B own gk L T) (hp:T.Perm L):WalkAt w B gk L:=by
 obtain ⟨gv,gt,h1,_,h2,h3,_⟩:=h;rw [rX hp] at h3;exact ⟨gv,gt,h1,h2.at,h3⟩
theorem WalkE.vis (h:WalkE w B own gk L T) (k:Vis w w'):WalkE w' B own gk L T:=by
 obtain ⟨gv,gt,h1,h2,h3,h4,h5⟩:=h;exact ⟨gv,gt,k.bk h1 dC dC,h2,h3.vis k,k.bk h4 dC dC,h5⟩
theorem WalkE.far (h:WalkE w B own gk L T) {H:Nat->Prop} (k:Keep H w w') (hH:∀b,H b->own b≠2/\own b < 16):WalkE w' B own gk L T:=by
 obtain ⟨gv,gt,h1,h2,h3,h4,h5⟩:=h;exact ⟨gv,gt,k.bk h1 (fun f=>by have:=hH _ f;omega),h2,h3.far k hH,k.bk h4 (fun f=>by have:=hH _ f;omega),h5⟩
theorem WalkE.paint (h:WalkE w B own gk L T) (h1:∀b,b < w.heap.size->2<=own b->own' b=own b) (h2:∀b,own' b≠0->B<=b/\b < w.heap.size):WalkE w B own' gk L T:=by
 obtain ⟨gv,gt,g1,g2,g3,g4,g5⟩:=h;exact ⟨gv,gt,g1,by rw [h1 _ g1.lt oM];exact g2,g3.paint h1 h2,g4,by rw [h1 _ g4.lt oM];exact g5⟩
theorem WalkE.tally {T':List Nat} (h:WalkE w B own gk L T) (hp:T.Perm T'):WalkE w B own gk L T':=by
 obtain ⟨gv,gt,g1,g2,g3,g4,g5⟩:=h;rw [rX hp] at g4;exact ⟨gv,gt,g1,g2,g3,g4,g5⟩
theorem WaveE.bnd (h:WaveE w B own gk L):∀b,own b≠0->B<=b/\b < w.heap.size:=by
 obtain ⟨S,v,h⟩:=h;exact h.bnd
theorem WalkE.bnd (h:WalkE w B own gk L T):∀b,own b≠0->B<=b/\b < w.heap.size:=by
 obtain ⟨gv,gt,g1,g2,g3,g4,g5⟩:=h;exact g3.bnd
end
structure Grew (w w':World) (own own':Nat->Nat):Prop where
 old:∀b,b < w.heap.size->own' b=own b
 new:∀b,w.heap.size<=b->own' b≠1
 keep:Keep (fun b=>own b=2∨16<=own b) w w'
theorem Grew.refl {w:World} {own:Nat->Nat} (h:∀b,own b≠0->b < w.heap.size):Grew w w own own:=⟨fun _ _=>rfl,fun b hb e=>by have:=h b oM;omega,Keep.refl _ _⟩
theorem Grew.trans {w w1 w':World} {own own1 own':Nat->Nat} (h:Grew w w1 own own1) (k:Grew w1 w' own1 own'):Grew w w' own own':=by
 have hs:=h.keep.size;refine ⟨fun b hb=>(k.old b oM).trans (h.old b hb),fun b hb=>?_,h.keep.trans' k.keep fun b hb f=>by rw [<-h.old b hb];exact f⟩;by_cases c:b < w1.heap.size;rw [k.old b c];exact h.new b hb;exact k.new b oM
theorem Grew.of_vb {B:Nat} {w w':World} {own:Nat->Nat} (k:Keep (fun b=>own b=2∨16<=own b) w w') (h:∀b,own b≠0->b < w.heap.size):Grew w w' own own:=⟨fun _ _=>rfl,fun b hb e=>by have:=h b oM;omega,k⟩
theorem iG (B gk:Nat) (own:Nat->Nat) (L T:List Nat) (k s:Nat) (w:World) (h:WalkE w B own gk L T) (hs:s < 257) (hk:k<=L.length) (hL:∀x∈L,x < 257) (hn:L.length<=127):
 Calls Tryz.prog 62 #[.pointer (some ⟨gk,0,none⟩),.int .i64 (k:Int),.int .i64 (s:Int)] w fun e w'=>e=.returned (.tuple #[])/\∃own',WalkE w' B own' gk (aQ L k s) T/\Grew w w' own own':=by
 obtain ⟨gv,gt,h1,h2,h3,h4,h5⟩:=h;have c0:w.cell? ⟨gk,0,none⟩=some (.pointer (some ⟨gv,0,none⟩)):=(h1.cell 0).trans rfl;have hgk:=h1.lt;have hgv2:own gv=2:=by obtain ⟨S,v,h⟩:=h3;exact h.base.2
 have hgkv:gk≠gv:=by obtain ⟨S,v,h⟩:=h3;exact Bk.ne h1 h.blk dC
 have hgtv:gt≠gv:=by obtain ⟨S,v,h⟩:=h3;exact Bk.ne h4 h.blk dC
 obtain ⟨H1,H3,H4⟩:=hqq3 h1 h3 h4;clear h1 h3 h4;go_enter Tryz.func62,Tryz.ntmps62;go_wp2_with fail;refine (vQ B gv own L k s w H3.out hs hk hL hn).mono ?_;rintro e w1 ⟨rfl,own',hw1,ho1,ho2,hk1⟩;have hb1:=hk1.bk H1.out (fun f=>by rcases f with f | f;exact hgkv f;omega);have ht1:=hk1.bk H4.out (fun f=>by rcases f with f | f;exact hgtv f;omega);have hg:Grew w w1 own own':=⟨ho1,ho2,hk1.mono fun b _ f=>by rcases f with f | f;left;rw [f,hgv2];right;exact f⟩;have HG:=lhd hg;have hE:WalkE w1 B own' gk (aQ L k s) T:=⟨gv,gt,hb1,by rw [ho1 _ hgk];exact h2,hw1,ht1,by rw [ho1 _ H4.out.lt];exact h5⟩;have HE:=lhd hE;clear hw1 ho1 ho2 hk1 hb1 ht1 hg hE c0;go_wp2_with fail;go_end0;exact ⟨rfl,own',HE.out,HG.out⟩
theorem iH (B gk:Nat) (own:Nat->Nat) (L T:List Nat) (k s:Nat) (w:World) (h:WalkE w B own gk L T) (hks:L[k]?=some s) (hL:∀x∈L,x < 257) (hn:L.length<=128):
 Calls Tryz.prog 132 #[.pointer (some ⟨gk,0,none⟩),.int .i64 (k:Int)] w fun e w'=>e=.returned (.int .i64 (s:Int))/\∃own',WalkE w' B own' gk (aI L k) T/\Grew w w' own own':=by
 obtain ⟨gv,gt,h1,h2,h3,h4,h5⟩:=h;have c0:w.cell? ⟨gk,0,none⟩=some (.pointer (some ⟨gv,0,none⟩)):=(h1.cell 0).trans rfl;have hgk:=h1.lt;have hgv2:own gv=2:=by obtain ⟨S,v,h⟩:=h3;exact h.base.2
 have hgkv:gk≠gv:=by obtain ⟨S,v,h⟩:=h3;exact Bk.ne h1 h.blk dC
 have hgtv:gt≠gv:=by obtain ⟨S,v,h⟩:=h3;exact Bk.ne h4 h.blk dC
 obtain ⟨H1,H3,H4,Hks⟩:=hqq4 h1 h3 h4 hks;clear h1 h3 h4 hks;go_enter Tryz.func132,Tryz.ntmps132;go_wp2_with fail;refine (vS B gv own L k s w H3.out Hks.out hL hn).mono ?_;rintro e w1 ⟨rfl,own',hw1,ho1,ho2,hk1⟩;have hb1:=hk1.bk H1.out (fun f=>by rcases f with f | f;exact hgkv f;omega);have ht1:=hk1.bk H4.out (fun f=>by rcases f with f | f;exact hgtv f;omega);have hg:Grew w w1 own own':=⟨ho1,ho2,hk1.mono fun b _ f=>by rcases f with f | f;left;rw [f,hgv2];right;exact f⟩;have HG:=lhd hg;have hE:WalkE w1 B own' gk (aI L k) T:=⟨gv,gt,hb1,by rw [ho1 _ hgk];exact h2,hw1,ht1,by rw [ho1 _ H4.out.lt];exact h5⟩;have HE:=lhd hE;clear hw1 ho1 ho2 hk1 hb1 ht1 hg hE c0;go_wp2_with fail;go_ret;exact ⟨rfl,own',HE.out,HG.out⟩
theorem mL (B gk:Nat) (own:Nat->Nat) (L T:List Nat) (k s0 s:Nat) (w:World) (h:WalkE w B own gk L T) (hks:L[k]?=some s0) (hs:s < 257) (hL:∀x∈L,x < 257) (hn:L.length<=128):
 Calls Tryz.prog 60 #[.pointer (some ⟨gk,0,none⟩),.int .i64 (k:Int),.int .i64 (s:Int)] w fun e w'=>e=.returned (.tuple #[])/\∃own',WalkE w' B own' gk (L.set k s) T/\Grew w w' own own':=by
 have hkl:=(zAc.1 hks).1;have hdl:=dA L hkl;have hset:aQ (aI L k) k s=L.set k s:=by
  apply List.ext_getElem?;intro j;rw [iB _ _ oM,zBm];by_cases c1:j < k
  · rw [zBx c1,zBw oM,eE _ hkl,zBx c1]
  · rw [zBw c1];by_cases c2:j=k
    · subst c2;rw [zBx rfl,zBx rfl,zBx hkl]
    · rw [zBw c2,zBw (fun e=>c2 e.symm),eE _ hkl,zBw oM,show j - 1+1=j by omega]
 obtain ⟨H,Hks,Hset⟩:=hqq3 h hks hset;clear h hks hset;go_enter Tryz.func60,Tryz.ntmps60;go_wp2_with fail;refine (iH B gk own L T k s0 w H.out Hks.out hL hn).mono ?_;rintro e w1 ⟨rfl,own1,h1,g1⟩;obtain ⟨H1,G1⟩:=hqq2 h1 g1;clear h1 g1;go_wp2_with fail;refine (iG B gk own1 (aI L k) T k s w1 H1.out hs oM (qA hL) oM).mono ?_;rintro e w2 ⟨rfl,own2,h2,g2⟩;rw [Hset.out] at h2;obtain ⟨H2,G2⟩:=hqq2 h2 (G1.out.trans g2);clear h2 g2;go_wp2_with fail;go_end0;exact ⟨rfl,own2,H2.out,G2.out⟩
theorem tA (B gk:Nat) (own:Nat->Nat) (L T:List Nat) (s:Nat) (w:World) (h:WalkE w B own gk L T) (hs:s < 257) (hT:T.length<=1000):
 Calls Tryz.prog 63 #[.pointer (some ⟨gk,0,none⟩),.int .i64 (s:Int),.int .i64 1] w fun e w'=>e=.returned (.tuple #[])/\WalkE w' B own gk L (T++ [s])/\Grew w w' own own:=by
 have hbnd:=h.bnd;obtain ⟨gv,gt,h1,h2,h3,h4,h5⟩:=h;have c1:w.cell? ⟨gk,1,none⟩=some (.pointer (some ⟨gt,0,none⟩)):=(h1.cell 1).trans rfl;have hgk:=h1.lt;have hgkt:gk≠gt:=Bk.ne h1 h4 dC;obtain ⟨H1,H3,H4⟩:=hqq3 h1 h3 h4;clear h1 h3 h4;go_enter Tryz.func63,Tryz.ntmps63;go_wp2_with fail;refine (qH gt T s w H4.out hs hT).mono ?_;rintro e w1 ⟨rfl,ht,hk⟩;have hb1:=hk.bk H1.out hgkt;have hw1:WaveE w1 B own gv L:=by
  obtain ⟨S,v,h⟩:=H3.out;refine ⟨S,v,hk.bk h.blk (Bk.ne h.blk H4.out dC),h.base,fun lv hl=>?_,fun b hb=>⟨(h.bnd b hb).1,zAl (h.bnd b hb).2 hk.size⟩⟩;obtain ⟨G,g1,g2,g3⟩:=h.rows lv hl;exact ⟨G,aB g1 fun b cs _ hk'=>hk.bk hk' (Bk.ne hk' H4.out dC),g2,fun p hp=>(g3 p hp).keep hk fun b t cs hin hk' _ e=>by
   have e':b=gt:=e;subst e';rw [(aM hk' H4.out).1] at hin;exact absurd hin dC⟩
 have hE:WalkE w1 B own gk L (T++ [s]):=⟨gv,gt,hb1,h2,hw1,ht,h5⟩;have hg:Grew w w1 own own:=Grew.of_vb (B:=B) (hk.mono fun b _ e=>by left;rw [show b=gt from e,h5]) fun b hb=>(hbnd b hb).2;obtain ⟨HE,HG⟩:=hqq2 hE hg;clear ht hk hb1 hw1 hE hg;go_wp2_with fail;go_end0;exact ⟨rfl,HE.out,HG.out⟩
theorem rQ (B gk:Nat) (own:Nat->Nat) (L T T':List Nat) (s:Nat) (w:World) (h:WalkE w B own gk L T) (hP:T.Perm (s::T')) (hs:s < 257) (hT:T.length<=1000):
 Calls Tryz.prog 63 #[.pointer (some ⟨gk,0,none⟩),.int .i64 (s:Int),.int .i64 (-1)] w fun e w'=>e=.returned (.tuple #[])/\WalkE w' B own gk L T'/\Grew w w' own own:=by
 have hbnd:=h.bnd;obtain ⟨gv,gt,h1,h2,h3,h4,h5⟩:=h;have c1:w.cell? ⟨gk,1,none⟩=some (.pointer (some ⟨gt,0,none⟩)):=(h1.cell 1).trans rfl;have hgk:=h1.lt;have hgkt:gk≠gt:=Bk.ne h1 h4 dC;obtain ⟨H1,H3,H4,HP⟩:=hqq4 h1 h3 h4 hP;clear h1 h3 h4 hP;go_enter Tryz.func63,Tryz.ntmps63;go_wp2_with fail;refine (aAu gt T T' s w HP.out H4.out hs hT).mono ?_;rintro e w1 ⟨rfl,ht,hk⟩;have hb1:=hk.bk H1.out hgkt;have hw1:WaveE w1 B own gv L:=by
  obtain ⟨S,v,h⟩:=H3.out;refine ⟨S,v,hk.bk h.blk (Bk.ne h.blk H4.out dC),h.base,fun lv hl=>?_,fun b hb=>⟨(h.bnd b hb).1,zAl (h.bnd b hb).2 hk.size⟩⟩;obtain ⟨G,g1,g2,g3⟩:=h.rows lv hl;exact ⟨G,aB g1 fun b cs _ hk'=>hk.bk hk' (Bk.ne hk' H4.out dC),g2,fun p hp=>(g3 p hp).keep hk fun b t cs hin hk' _ e=>by
   have e':b=gt:=e;subst e';rw [(aM hk' H4.out).1] at hin;exact absurd hin dC⟩
 have hE:WalkE w1 B own gk L T':=⟨gv,gt,hb1,h2,hw1,ht,h5⟩;have hg:Grew w w1 own own:=Grew.of_vb (B:=B) (hk.mono fun b _ e=>by left;rw [show b=gt from e,h5]) fun b hb=>(hbnd b hb).2;obtain ⟨HE,HG⟩:=hqq2 hE hg;clear ht hk hb1 hw1 hE hg;go_wp2_with fail;go_end0;exact ⟨rfl,HE.out,HG.out⟩
end Go.Proofs.YtnhmjomhloainaaGreatDoor
