/- Parts of the walk, joined from several texts. Conditions: what each lemma says. -/
import Derived.Test.YtnhmjomhloainaaGreatDoorPq35
set_option linter.all false
set_option maxRecDepth 100000
set_option maxHeartbeats 4000000
namespace Go.Proofs.YtnhmjomhloainaaGreatDoor
open Go.RowKit
theorem StAt.save {w:World} {Bw gs gl most rate:Nat} {own:Nat->Nat} {t:List UInt8} {rs:List Nat} (h:StAt w Bw own gs gl most rate t) (hs:IsSuf (aD t) rs):
 Calls Tryz.prog 18 #[.pointer (some ⟨gl,0,none⟩),.int .i64 (most:Int)] w (dS w Bw (cG (aE (aD t) rs) rs most rate t.length)):=by
 obtain ⟨rs',gk,gp,pr,hs',hl,hrt,hz0,hn127⟩:=h.tp;obtain rfl:=hs'.unique hs;exact iR Bw gl gk gp rate most t rs' pr w hl hrt hs' hn127 h.r1 h.r2 h.len h.max
theorem lG (Bw:Nat) (own:Nat->Nat) (gs gl most rate:Nat) (t:List UInt8) (rs:List Nat) (w:World) (h:StAt w Bw own gs gl most rate t) (hs:IsSuf (aD t) rs):
 Calls Tryz.prog 30 #[.pointer (some ⟨gs,0,none⟩)] w (dS w Bw (cG (aE (aD t) rs) rs most rate t.length)):=by
 have hsave:∀w1,VB Bw w w1->Calls Tryz.prog 18 #[.pointer (some ⟨gl,0,none⟩),.int .i64 (most:Int)] w1 (dS w1 Bw (cG (aE (aD t) rs) rs most rate t.length)):=fun w1 k=>(h.vb k.1).save hs;obtain ⟨bs,hbs⟩:=eqx (cG (aE (aD t) rs) rs most rate t.length);rw [hbs] at hsave⊢;obtain ⟨nb,hK⟩:=eqx bs.length;obtain ⟨Hsave,HK,Hblk⟩:=hqq3 hsave hK h.blk;clear hsave h hs hbs hK;unfold dS;rw [HK.out];go_enter Tryz.func30,Tryz.ntmps30;go_wp2_with fail;refine wp_region_any kR ?_;refine aX [6,7,8,9,10,11,12,13,14,15,16,2,3] (VB Bw) (Vs [is (.pointer (some ⟨gs,0,none⟩)),is (.pointer (some ⟨gs,0,none⟩)),is (.pointer (some ⟨gs,0,none⟩)),is (.pointer (some ⟨gl,0,none⟩)),is (.pointer (some ⟨gs,0,none⟩)),is (.pointer (some ⟨gs,0,none⟩)),is (.pointer (some ⟨gs,1,none⟩)),is (.int .i64 (most:Int)),fun v w2=>∃A' c',v=.tuple #[.slice A' nb c',.int .i64 0]/\Made w2 w.heap.size 5 1 A' nb c' (bs.map bv),fun v w2=>∃A' c',v=.slice A' nb c'/\Made w2 w.heap.size 5 1 A' nb c' (bs.map bv),is (.int .i64 0),fun v w2=>∃A' c',v=.slice A' nb c'/\Made w2 w.heap.size 5 1 A' nb c' (bs.map bv),is (.int .i64 0)]) _ _ rfl kR vR (fun _ _=>VisK.trans) (cY (by repeat' (first | exact cA _ _ | exact bS _ | exact fun _ _ _ ⟨A,c,h1,h2⟩ k=>⟨A,c,h1,k.1.made h2 dC dC⟩|(refine zAe.2 ⟨?_,?_⟩)|(intro p hp;cases hp)))) ?_ ?_
 · refine aT ?_;refine pH 0 (.pointer (some ⟨gs,0,none⟩)) ?_;refine pV 0 6 ?_;refine pV 1 7 ?_;refine sC (fun _ w5 hS _ _ _ hval _ _ _ hK=>?_) ?_
   · have e8:_=_:=hval 2 8 kR rfl;replace hS:(VB Bw) w w5:=bD hS;have hb5:=hS.1.bk Hblk.out dC dC;have c9:=hb5.cell 0;go_simp;exact hK _ _ vR rfl
   refine pH 0 (.pointer (some ⟨gs,0,none⟩)) ?_;refine pV 4 10 ?_;refine pV 5 11 ?_;refine sC (fun _ w5 hS _ _ _ hval _ _ _ hK=>?_) ?_
   · have e12:_=_:=hval 6 12 kR rfl;replace hS:(VB Bw) w w5:=bD hS;have hb5:=hS.1.bk Hblk.out dC dC;have c9:=hb5.cell 1;go_simp;exact hK _ _ vR rfl
   refine sC (fun _ w5 hS _ _ _ hval _ _ _ hK=>?_) ?_
   · have e9:_=_:=hval 3 9 kR rfl;have e13:_=_:=hval 7 13 kR rfl;replace hS:(VB Bw) w w5:=bD hS;go_simp;have hsv:=Hsave.out w5 hS;unfold dS at hsv;rw [HK.out] at hsv;refine hsv.mono ?_;rintro e w8 ⟨A',c',rfl,hm9,hv9⟩;exact hK _ _ hv9 ⟨A',c',rfl,hm9.mono hS.1.size⟩
   refine sC (fun ev w5 _ _ _ _ hval _ _ _ hK=>?_) ?_
   · have p14:(fun v w2=>∃A' c',v=.tuple #[.slice A' nb c',.int .i64 0]/\Made w2 w.heap.size 5 1 A' nb c' (bs.map bv)) (ev (.tmp 14)) w5:=hval 8 14 kR rfl;obtain ⟨A',c',e14,hm9⟩:=p14;go_simp;exact hK _ _ vR ⟨A',c',rfl,hm9⟩
   refine sC (fun ev w5 _ _ _ _ hval _ _ _ hK=>?_) ?_
   · have p14:(fun v w2=>∃A' c',v=.tuple #[.slice A' nb c',.int .i64 0]/\Made w2 w.heap.size 5 1 A' nb c' (bs.map bv)) (ev (.tmp 14)) w5:=hval 8 14 kR rfl;obtain ⟨A',c',e14,hm9⟩:=p14;go_simp;exact hK _ _ vR rfl
   refine sC (fun ev w5 _ _ _ _ hval _ _ _ hK=>?_) ?_
   · have p15:(fun v w2=>∃A' c',v=.slice A' nb c'/\Made w2 w.heap.size 5 1 A' nb c' (bs.map bv)) (ev (.tmp 15)) w5:=hval 9 15 kR rfl;obtain ⟨A',c',e15,hm9⟩:=p15;go_simp;exact hK _ _ vR ⟨A',c',rfl,hm9⟩
   refine pV 10 16 ?_;exact aG
 · intro ev w6 hS hval;replace hS:(VB Bw) w w6:=bD hS;have p2:(fun v w2=>∃A' c',v=.slice A' nb c'/\Made w2 w.heap.size 5 1 A' nb c' (bs.map bv)) (ev (.tmp 2)) w6:=hval 11 2 rfl;have e3:ev (.tmp 3)=.int .i64 0:=hval 12 3 rfl;simp only [aO,zq1,zq2,Act.put,zq3,zq4,zq5];rw [e3];clear hval;obtain ⟨A',c',e2,hm⟩:=p2;rw [e2];obtain ⟨Hm,HS⟩:=hqq2 hm hS;clear hm hS;go_wp2_with fail;go_ret2;exact ⟨A',c',rfl,Hm.out,HS.out⟩
theorem rS (most rate:Nat) (w:World) (hm:most<=2147483648) (h1:1<=rate) (h2:rate<=64):
 Calls Tryz.prog 28 #[.int .i64 (most:Int),.int .i64 (rate:Int)] w fun e w'=>∃gs gl own,e=.returned (.tuple #[.pointer (some ⟨gs,0,none⟩),.int .i64 0])/\StAt w' w.heap.size own gs gl most rate []/\Below w.heap.size w w':=by
 have hnew:=fI rate none 0 0 w.heap.size [] [] 0 rfl rfl w (Rd.nil _ _ _ _) (fun s hs=>by cases hs) nL oM oM h1 h2;have n1:¬((most:Int) < 0):=oM;have n2:¬((most:Int) > 2147483648):=oM;have n3:decide ((most:Int) > 2147483648)=false:=zBy n2;have Hnew:=lhd hnew;clear hnew;go_enter Tryz.func28,Tryz.ntmps28;go_wp2_with fail;refine Hnew.out.mono ?_;rintro e w1 ⟨gl,own,rfl,hgl,hle,hb⟩;have hal:Below w1.heap.size w1 (w1.alloc (.cells #[.pointer (some ⟨gl,0,none⟩),.int .i64 (most:Int)] 136)):=bR.alloc nL _;have hst:StAt (w1.alloc (.cells #[.pointer (some ⟨gl,0,none⟩),.int .i64 (most:Int)] 136)) w.heap.size own w1.heap.size gl most rate []:=
  ⟨Bk.new _ _ _,hb.size,Nat.eq_zero_of_not_pos fun f=>by have:=(hle.bnd w1.heap.size oM).2;omega,hle.vis (Vis.of_below hal),by simp,by simp,hm,h1,h2⟩
 obtain ⟨Hst,Hb⟩:=hqq2 hst (hb.trans (hal.mono hb.size));clear hst hal hb hle Hnew;go_wp2_with fail;go_ret2;exact ⟨_,gl,own,rfl,Hst.out,Hb.out⟩
theorem xO (most:Int) (rate:Int) (w:World) (hm:most < 0∨most > 2147483648):
 Calls Tryz.prog 28 #[.int .i64 most,.int .i64 rate] w fun e w'=>e=.returned (.tuple #[.pointer none,.int .i64 1])/\w=w':=by
 by_cases c:most < 0
 · have n1:decide (most < 0)=true:=zBz c;go_enter Tryz.func28,Tryz.ntmps28;go_wp2_with fail;go_ret2;exact ⟨rfl,rfl⟩
 · have n1:decide (most < 0)=false:=zBy c;have n2:decide (most > 2147483648)=true:=zBz oM;go_enter Tryz.func28,Tryz.ntmps28;go_wp2_with fail;go_ret2;exact ⟨rfl,rfl⟩
theorem aCb (rate:Int) (A:Option Addr) (n c:Nat) (w:World) (hr:rate < 1∨rate > 64):
 Calls Tryz.prog 16 #[.int .i64 rate,.slice A n c] w fun e w'=>e=.returned (.tuple #[.pointer none,.int .i64 1])/\w=w':=by
 by_cases c1:rate < 1
 · have n1:decide (rate < 1)=true:=zBz c1;go_enter Tryz.func16,Tryz.ntmps16;go_wp2_with fail;go_ret2;exact ⟨rfl,rfl⟩
 · have n1:decide (rate < 1)=false:=zBy c1;have n2:decide (rate > 64)=true:=zBz oM;go_enter Tryz.func16,Tryz.ntmps16;go_wp2_with fail;go_ret2;exact ⟨rfl,rfl⟩
theorem xN (most:Nat) (rate:Int) (w:World) (hm:most<=2147483648) (hr:rate < 1∨rate > 64):
 Calls Tryz.prog 28 #[.int .i64 (most:Int),.int .i64 rate] w fun e w'=>e=.returned (.tuple #[.pointer none,.int .i64 1])/\w=w':=by
 have hnew:=aCb rate none 0 0 w hr;have n1:¬((most:Int) < 0):=oM;have n2:¬((most:Int) > 2147483648):=oM;have n3:decide ((most:Int) > 2147483648)=false:=zBy n2;have Hnew:=lhd hnew;clear hnew hr;go_enter Tryz.func28,Tryz.ntmps28;go_wp2_with fail;refine Hnew.out.mono ?_;rintro e w1 ⟨rfl,rfl⟩;go_wp2_with fail;go_ret2;exact ⟨rfl,rfl⟩
theorem LF.belowS {B:Nat} {w w':World} {own own':Nat->Nat} (k:LF B w w' own own') (hB:B<=w.heap.size):Below B w w':=k.keep.to_below hB fun b hb f=>by have f':B<=b:=f;omega
theorem TpAt.save {w:World} {Bw gl rate most:Nat} {t:List UInt8} {rs:List Nat} (h:TpAt w Bw gl t rate) (hs:IsSuf (aD t) rs) (hr1:1<=rate) (hr2:rate<=64) (hm1:t.length<=most) (hm2:most<=2147483648):
 Calls Tryz.prog 18 #[.pointer (some ⟨gl,0,none⟩),.int .i64 (most:Int)] w (dS w Bw (cG (aE (aD t) rs) rs most rate t.length)):=by
 obtain ⟨rs',gk,gp,pr,hs',hl,hrt,hz0,hn127⟩:=h;obtain rfl:=hs'.unique hs;exact iR Bw gl gk gp rate most t rs' pr w hl hrt hs' hn127 hr1 hr2 hm1 hm2
theorem aFD {w:World} {Bw gl rate:Nat} {t:List UInt8} (h:TpAt w Bw gl t rate):∃rs,IsSuf (aD t) rs:=by
 obtain ⟨rs,_,_,_,hs,_⟩:=h;exact ⟨rs,hs⟩
theorem aGt (l:List UInt8) (b:UInt8):aQ l l.length b=l++ [b]:=by
 unfold aQ;simp
theorem xS (A:Option Addr) (n c:Nat) (l:List Int) (A1:Option Addr) (n1 c1:Nat) (l1:List Int) (a b:Int) (w:World) (hr:Rd w w.heap.size 1 A n (l.map iv)) (hn:n<=maxLen) (hr1:Rd w w.heap.size 1 A1 n1 (l1.map iv)) (hn1:n1<=maxLen) (hT:TabW w):
 Calls Tryz.prog 3 #[.slice A n c,.slice A1 n1 c1,.int .i64 a,.int .i64 b] w fun e w'=>e=.returned (.bool true)/\Below w.heap.size w w':=by
 have hw:=hT.pos;have HT:=lhd hT;obtain ⟨ra,ha,hal⟩:=fM a 3 oM;obtain ⟨rb,hb,hbl⟩:=fM b 3 oM;have g1:IntKind.i64.wrap (ra:Int)=(ra:Int):=by rw [IntKind.wrap_i64];omega
 have g2:IntKind.i64.wrap (1+(ra:Int))=((ra+1:Nat):Int):=by rw [IntKind.wrap_i64];omega
 have g3:IntKind.i64.wrap (rb:Int)=(rb:Int):=by rw [IntKind.wrap_i64];omega
 have g4:IntKind.i64.wrap (1+(rb:Int))=((rb+1:Nat):Int):=by rw [IntKind.wrap_i64];omega
 obtain ⟨r,hrq⟩:=eqx (ra+1);obtain ⟨q,hqq⟩:=eqx (rb+1);rw [hrq] at g2;rw [hqq] at g4;have hr1':1<=r:=oM;have hr64:r<=64:=oM;have hq1:1<=q:=oM;have hq64:q<=64:=oM;obtain ⟨Hr,Hr1⟩:=hqq2 hr hr1;clear hr hr1 hT hrq hqq hal hbl;go_enter Tryz.func3,Tryz.ntmps3;go_wp2_with fail;refine (wH A n c w.heap.size l 40 true w Hr.out nL hn oM).mono ?_;rintro e w1 ⟨t,A2,c2,ht40,_,rfl,hm1,hb1⟩;obtain ⟨N,hN⟩:=eqx t.length;rw [hN] at hm1 ht40;rw [hN];obtain ⟨HN,Hm1,Hb1⟩:=hqq3 hN hm1 hb1;clear hm1 hb1 hN;go_wp2_with fail;refine (wH A1 n1 c1 w.heap.size l1 40 true w1 (Hr1.out.below Hb1.out) Hb1.out.size hn1 oM).mono ?_;rintro e w2 ⟨u,A3,c3,hu40,_,rfl,hm2,hb2⟩;obtain ⟨M,hM⟩:=eqx u.length;rw [hM] at hm2 hu40;rw [hM];obtain ⟨HM,Hm1',Hm2,Hb2⟩:=hqq4 hM (Hm1.out.below hb2) hm2 (Hb1.out.trans (hb2.mono Hb1.out.size));have hcm:=Hm2.out.cap;have hcx:=Hm2.out.max;have Hc:=lhd (And.intro hcm hcx);clear hm2 hb2 hM Hr Hr1 Hm1 Hb1 hcm hcx;go_wp2_with fail;clear g1 g2 g3 g4 ha hb;have hbA:Below w2.heap.size w2 (w2.alloc (.cells #[.slice A2 N c2] 23)):=bR.alloc nL _;have hrd:=Rd.made w2 23 1 1 #[.slice A2 N c2] rfl;have hm1A:=Hm1'.out.below hbA;refine (fI r _ 1 1 _ [⟨A2,N,c2,t⟩] t N (by simp [gD]) HN.out _ hrd (fun s hs=>by simp at hs;subst hs;exact hm1A.rd) nL oM oM oM oM).mono ?_;rintro e w3 ⟨gx,ownx,rfl,hgx,hlx,hb3⟩;have hb23:=hbA.trans (hb3.mono hbA.size);obtain ⟨Hm1n,Hm2n,Hb3⟩:=hqq3 (Hm1'.out.below hb23) (Hm2.out.below hb23) (Hb2.out.trans (hb23.mono Hb2.out.size));have Hx:=lhd ((hlx.low (B':=w.heap.size) (by have:=Hb2.out.size;have:=hbA.size;omega)).tp (by rw [HN.out];omega));clear hbA hrd hm1A hgx hlx hb3 hb23 Hm1' Hm2 Hb2;go_wp2_with fail;refine (fI q none 0 0 w3.heap.size [] [] 0 (by simp [gD]) rfl w3 (Rd.nil _ _ _ _) (fun s hs=>by cases hs) nL oM oM oM oM).mono ?_;rintro e w4 ⟨gy,owny,rfl,hgy,hly,hb4⟩;obtain ⟨Hy,Hb4⟩:=hqq2 hly hb4;clear hgy hly hb4;go_wp2_with fail;go_loopw [17] (fun x wr=>∃(i:Nat) (own':Nat->Nat),i<=M/\x=.int .i64 (i:Int)/\LiveE wr w3.heap.size own' gy (u.take i) q/\Below w3.heap.size w3 wr) (fun x _=>M -(intOf x).toNat)
 case atStart=>exact ⟨0,owny,zAp _,rfl,Hy.out,Hb4.out⟩
 case round=>
  clear Hy Hb4;obtain ⟨i,own',hi,rfl,hly,hbr⟩:=hrel;obtain ⟨Hy,Hbr⟩:=hqq2 hly hbr;clear hly hbr;by_cases him:i < M
  · obtain ⟨bb,hbb⟩:∃b,u[i]?=some b:=⟨_,zAa (by rw [HM.out];exact him)⟩;have hmr:=Hm2n.out.below Hbr.out;obtain ⟨b0,o0,eA,hb0,hc0⟩:=hmr.rd.2 oM;subst eA;have d0:wr.cell? ⟨b0,o0+i,none⟩=some (.int .u8 (bb.toNat:Int)):=hc0 i _ (by rw [zAf,hbb];rfl);have e2:IntKind.i64.wrap ((i:Int)+1)=((i+1:Nat):Int):=(by rw [IntKind.wrap_i64];omega);have htl:(u.take i).length=i:=(by rw [zAj,HM.out];omega);have hnx:aQ (u.take i) i bb=u.take (i+1):=(by have h1:=aGt (u.take i) bb;rw [htl] at h1;rw [h1,zAv,hbb];rfl);obtain ⟨Hnx,Htl⟩:=hqq2 hnx htl;clear hnx htl hbb hmr hc0;go_wp2_with fail;refine (mQ wr w3.heap.size own' gy (u.take i) q i bb Hy.out (by rw [Htl.out];omega) (by rw [Htl.out];omega) hq1 hq64).mono ?_;rintro e w5 ⟨rfl,own5,hl5,hf5⟩;rw [Hnx.out] at hl5;obtain ⟨Hl5,Hb5⟩:=hqq2 hl5 (Hbr.out.trans (hf5.belowS Hbr.out.size));clear hl5 hf5 d0 Hnx Htl Hy Hbr;go_wp2_with fail;go_roundw
    case rel=>exact ⟨i+1,own5,by omega,by go_num,Hl5.out,Hb5.out⟩
    case measure=>simp [intOf];omega
  · obtain rfl:M=i:=oM;have hy:=Hy.out;rw [zAg (zCr HM.out)] at hy;have hx:=Hx.out.vis (Vis.of_below Hbr.out);have hy':=(hy.low (B':=w.heap.size) Hb3.out.size).tp (by rw [HM.out];omega);obtain ⟨rs,hs⟩:=aFD hx;obtain ⟨qs,hqs⟩:=aFD hy';obtain ⟨ka,hka,hkal⟩:=fM ((IntKind.u64.wrap a).tdiv 3) 2 oM;obtain ⟨kb,hkb,hkbl⟩:=fM ((IntKind.u64.wrap b).tdiv 3) 2 oM;obtain ⟨Hxx,Hyy,Hs,Hqs,Hm1r,Hm2r,Hbw⟩:=hqq7 hx hy' hs hqs (Hm1n.out.below Hbr.out) (Hm2n.out.below Hbr.out) (Hb3.out.trans (Hbr.out.mono Hb3.out.size));clear hx hy hy' hs hqs Hm1n Hm2n Hbr Hy Hx Hb3;go_wp2_with fail;clear hka hkb;obtain ⟨k,hkq⟩:∃k:Nat,100+ka=k:=⟨_,rfl⟩;obtain ⟨j,hjq⟩:∃j:Nat,100+kb=j:=⟨_,rfl⟩;have e5:(100:Int)+(ka:Int)=(k:Int):=oM;have e6:(100:Int)+(kb:Int)=(j:Int):=oM;rw [e5,e6];have hk1:100<=k:=oM;have hk2:k<=102:=oM;have hj1:100<=j:=oM;have hj2:j<=102:=oM;clear e5 e6 hkq hjq hkal hkbl;have hiff:=aEo (m:=k) (m':=j) Hs.out Hqs.out (by rw [HN.out];omega) (by rw [HM.out];omega) oM hr64 oM hq64;have hsv1:=Hxx.out.save (most:=k) Hs.out hr1' hr64 (by rw [HN.out];omega) oM;have hsv2:=fun w5 (v:Vis wr w5)=>(Hyy.out.vis v).save (most:=j) Hqs.out hq1 hq64 (by rw [HM.out];omega) oM;unfold dS at hsv1 hsv2;obtain ⟨bx,hbx⟩:=eqx (cG (aE (aD t) rs) rs k r t.length);obtain ⟨bz,hbz⟩:=eqx (cG (aE (aD u) qs) qs j q u.length);rw [hbx] at hsv1 hiff;rw [hbz] at hsv2 hiff;obtain ⟨nx,hnx⟩:=eqx bx.length;obtain ⟨nz,hnz⟩:=eqx bz.length;rw [hnx] at hsv1;rw [hnz] at hsv2;obtain ⟨Hiff,Hsv2⟩:=hqq2 hiff hsv2;clear hsv2 hiff hbx hbz hnx hnz Hs Hqs Hxx Hyy;refine hsv1.mono ?_;clear hsv1;rintro e w6 ⟨A6,c6,rfl,hm6,hv6⟩;have hsv2:=Hsv2.out w6 hv6.1;obtain ⟨Hm6,Hm1s,Hm2s,Hb6⟩:=hqq4 hm6 (hv6.1.made Hm1r.out dC dC) (hv6.1.made Hm2r.out dC dC) (Hbw.out.trans (VB.to_below hv6 Hbw.out.size));clear hm6 hv6 Hsv2 Hbw Hm1r Hm2r;go_wp2_with fail;refine hsv2.mono ?_;clear hsv2;rintro e w7 ⟨A7,c7,rfl,hm7,hv7⟩;obtain ⟨Hm7,Hm6s,Hm1t,Hm2t,Hb7⟩:=hqq5 hm7 (hv7.1.made Hm6.out dC dC) (hv7.1.made Hm1s.out dC dC) (hv7.1.made Hm2s.out dC dC) (Hb6.out.trans (VB.to_below hv7 Hb6.out.size));clear hm7 hv7 Hm6 Hm1s Hm2s Hb6;go_wp2_with fail;refine (wG w7 (HT.out.below Hb7.out hw)).mono ?_;rintro e w8 ⟨rfl,hb8⟩;have k1:=iK (Hm6s.out.rd.below hb8) c6;have k2:=iK (Hm7.out.rd.below hb8) c7;have k3:=iK (Hm1t.out.rd.below hb8) c2;have k4:=iK (Hm2t.out.rd.below hb8) c3;have Hb8:=lhd (Hb7.out.trans (hb8.mono Hb7.out.size));clear hb8 Hm6s Hm7 Hm1t Hm2t Hb7;by_cases ht:t=u
    · by_cases hrq:r=q
      · by_cases hkj:k=j
        · have hE:=Hiff.out.2 ⟨ht,hrq,hkj⟩;subst ht hrq hkj hE;go_wp2_with fail;go_ret;exact ⟨by first | rfl | simp,Hb8.out⟩
        · have hE:(bx==bz)=false:=beq_false_of_ne fun h=>hkj (Hiff.out.1 h).2.2;subst ht hrq;go_wp2_with fail;go_ret;exact ⟨by first | rfl |(simp [hE,hkj];omega),Hb8.out⟩
      · have hE:(bx==bz)=false:=beq_false_of_ne fun h=>hrq (Hiff.out.1 h).2.1;subst ht;go_wp2_with fail;go_ret;exact ⟨by first | rfl |(simp [hE,hrq];try omega),Hb8.out⟩
    · have hE:(bx==bz)=false:=beq_false_of_ne fun h=>ht (Hiff.out.1 h).1;have hE2:(t==u)=false:=beq_false_of_ne ht;go_wp2_with fail;go_ret;exact ⟨by first | rfl | simp [hE,hE2],Hb8.out⟩
section
open Go
theorem qY {P:Program} {ops:Array Oper} {Q:Exit->Act->World->Prop} {md:Region.Mode} (n:Nat) (ds:List Nat) (F:Nat->Prop) (J:Nat) (rd:List Nat) (pre:World->Prop) (pJ:Value->World->Prop) (l:List (Value->World->Prop)) (a0:Act) (W0:World)
 (hds:(ops.toList.take n).filterMap (·.dst)=ds) (hn:n<=ops.size) (hlaid:iA md ops a0.tmps.size=true) (htail:((List.range ops.size).all fun k=>decide (k < n)||(List.range n).all fun i=>upB md ops ops.size k i)=true)
 (hrd:(rd.all fun i=>i==J||upB md ops ops.size J i)=true)
 (hp0:pre W0) (hp:∀w w',pre w->Keep F W0 w->Grow w w'->pre w') (hJ:Stb pJ) (hst:∀p∈l,xM F p)
 (hstep:∀j o,j < n->ops[j]?=some o->dI P ops Q md (Keep F W0) (oF F J) (fun i w=>rd.contains i=true->pre w) (VsJ J pJ l) a0 j o)
 (hend:∀(ev:Operand->Value) w f,Keep F W0 w->(∀i d,i < n->((ops[i]?).bind (·.dst))=some d->VsJ J pJ l i (ev (.tmp d)) w)->(∀i,i < n->∃v,VsJ J pJ l i v w)->wpAny P md ops Q (ops.size - n+f) (cF n ops.size) (aO ev ds a0) w):
 wpAny P md ops Q ops.size (Array.replicate ops.size false) a0 W0:=by
 refine rW n ds (Keep F W0) (oF F J) (fun i w=>rd.contains i=true->pre w) (VsJ J pJ l) a0 W0 hds hn hlaid htail (Keep.refl _ _) (fun _ _=>hp0) (fun j w w' _ h k=>h.trans (iV k)) (fun i j w w' _ hij hup hi hC k hir=>?_) (fun i j v w w' _ hij _ hv _ k=>?_) hstep hend;by_cases hj:j=J;exfalso;subst hj;have h2:=zBf.1 hrd i (by simpa using hir);simp only [hup,Bool.or_false,zCp] at h2;exact hij h2;exact hp w w' (hi hir) hC (k.2 hj);unfold VsJ at hv⊢;by_cases hi:i=J;rw [zBx hi] at hv⊢;exact hJ v w w' hv (k.2 fun e=>hij (hi.trans e.symm));rw [zBw hi] at hv⊢;exact uE hst i v w w' hv (iV k)
end
def aGX (w:World) (B:Nat) (own:Nat->Nat) (gs most rate:Nat) (t:List UInt8) (e:Ending) (w':World):Prop:=
 e=.returned (.int .i64 0)/\∃own' gl',StAt w' B own' gs gl' most rate t/\LFS B gs w w' own own'
theorem wM (B:Nat) (own:Nat->Nat) (gs gl most0 rate0 most rate:Nat) (A:Option Addr) (n c:Nat) (t0 t:List UInt8) (rs:List Nat) (w:World) (h:StAt w B own gs gl most0 rate0 t0) (hs:IsSuf (aD t) rs) (hn:t.length<=127)
 (hr1:1<=rate) (hr2:rate<=64) (hm1:t.length<=most) (hm2:most<=2147483648) (hnn:(cG (aE (aD t) rs) rs most rate t.length).length=n) (hr:Rd w w.heap.size 1 A n ((cG (aE (aD t) rs) rs most rate t.length).map bv)) (hcl:n<=c) (hcm:c<=maxLen):
 Calls Tryz.prog 38 #[.pointer (some ⟨gs,0,none⟩),.slice A n c] w (aGX w B own gs most rate t):=by
 have hld:=lI A c w.heap.size most rate t rs w hs hn hr1 hr2 hm1 hm2 (by rw [hnn];exact hr) nL (by rw [hnn];exact hcl) hcm;rw [hnn] at hld;unfold mP at hld;obtain ⟨Hld,H⟩:=hqq2 hld h;clear hld hr h;go_enter Tryz.func38,Tryz.ntmps38;go_wp2_with fail;refine Hld.out.mono ?_;rintro e w1 ⟨gl',rfl,⟨own1,ht1⟩,hv1⟩;have hws:=hv1.1.size;have Hv1:=lhd hv1;have hb1:=hv1.1.bk H.out.blk dC dC;have hgs:=H.out.blk.lt;obtain ⟨gh,hgh⟩:∃g,w1.heap.size=g:=⟨_,rfl⟩;have hal:Below w1.heap.size w1 (w1.alloc (.cells #[.int .i64 (most:Int),.int .i64 (rate:Int),.int .i64 (t.length:Int)] 40)):=bR.alloc nL _;have hh1:Bk (w1.alloc (.cells #[.int .i64 (most:Int),.int .i64 (rate:Int),.int .i64 (t.length:Int)] 40)) gh 40 #[.int .i64 (most:Int),.int .i64 (rate:Int),.int .i64 (t.length:Int)]:=hgh ▸ Bk.new _ _ _;have hb1':=hb1.below hal hb1.lt;obtain ⟨Ht1,Hal,Hb1,Hh1,Hne⟩:=hqq5 (ht1.vis (Vis.of_below hal)) hal hb1' hh1 (show ¬gh=gs by omega);clear ht1 hv1 Hld hal hh1 hb1 hb1';unfold iC;go_wp2_with fail;generalize hW1:w1.alloc (.cells #[.int .i64 (most:Int),.int .i64 (rate:Int),.int .i64 (t.length:Int)] 40)=W1 at Ht1 Hal Hb1 Hh1⊢;clear hW1;refine wp_region_any kR ?_;refine qY 10 [18,19,20,21,22,23,24,25,26] (fun b=>b=gs) 7 [7] (fun w2=>Bk w2 gs 136 #[.pointer (some ⟨gl,0,none⟩),.int .i64 (most0:Int)]) (fun _ w2=>Bk w2 gs 136 #[.pointer (some ⟨gl',0,none⟩),.int .i64 (most0:Int)]) [is (.pointer (some ⟨gs,0,none⟩)),is (.pointer (some ⟨gs,0,none⟩)),is (.pointer (some ⟨gl',0,none⟩)),is (.pointer (some ⟨gh,0,none⟩)),is (.int .i64 (most:Int)),is (.pointer (some ⟨gs,0,none⟩)),is (.pointer (some ⟨gs,0,none⟩)),dJ,is (.pointer (some ⟨gs,0,none⟩)),is (.pointer (some ⟨gs,1,none⟩))] _ _ rfl dC kR kR kR (Hb1.out) (fun w1 w2 h _ hg=>Bk.below h hg h.lt) (fun _ _ _ h k=>Bk.below h k h.lt) (by repeat' (first | exact cL _ _ | exact bV _ |(refine zAe.2 ⟨?_,?_⟩)|(intro p hp;cases hp))) ?_ ?_
 · refine cC ?_;refine pH3 0 (.pointer (some ⟨gs,0,none⟩)) ?_;refine pH3 0 (.pointer (some ⟨gs,0,none⟩)) ?_;refine pH3 5 (.pointer (some ⟨gl',0,none⟩)) ?_;refine pH3 6 (.pointer (some ⟨gh,0,none⟩)) ?_;refine sC3 (fun _ w5 hS _ _ _ _ hval _ _ _ hK=>?_) ?_
   · replace hS:Keep (fun b=>b=gs) W1 w5:=kD hS;have e21:_=_:=hval 3 21 kR rfl;have cc:=(Keep.bk hS Hh1.out Hne.out).cell 0;go_simp;exact kq hK rfl
   refine pV3 0 18 ?_;refine pV3 5 23 ?_;refine sC3 (fun _ _ _ hU _ _ _ hval _ _ _ hK=>?_) ?_
   · have hpre:=hU rfl;have e24:_=_:=hval 6 24 kR rfl;have e20:_=_:=hval 2 20 kR rfl;have f7:=hpre.frozen 0;have c7:=hpre.cell 0;go_simp;exact hK (.bool true) _ (bG (Keep.setCell (F:=fun b=>b=gs) (Keep.refl _ _) (p:=⟨gs,0,none⟩) (.inl rfl) _)) (hpre.set 0 _)
   refine pV3 1 19 ?_;refine pV3 8 25 ?_;exact aG
 · intro ev w6 f hS hval hall;replace hS:Keep (fun b=>b=gs) W1 w6:=kD hS;have e22:ev (.tmp 22)=.int .i64 (most:Int):=hval 4 22 dC rfl;have e26:ev (.tmp 26)=.pointer (some ⟨gs,1,none⟩):=hval 9 26 dC rfl;simp only [aO,zq1,zq2,Act.put,zq3,zq4,zq5];rw [e22];rw [e26];clear hval;obtain ⟨vJ,pJ0⟩:=hall 7 dC;have pJ:(fun _ w2=>Bk w2 gs 136 #[.pointer (some ⟨gl',0,none⟩),.int .i64 (most0:Int)]) vJ w6:=pJ0;clear pJ0 hall;have hb6:=pJ;have f10:=hb6.frozen 1;have c10:=hb6.cell 1;obtain ⟨Hb6,Hk6⟩:=hqq2 hb6 hS;clear hb6;change wpAny Tryz.prog Region.Mode.any _ _ (1+f) (cF 10 11) _ w6;rw [zCq 1 f];refine bZ (f:=f) (i:=10) kR ?_;refine cJ rfl rfl ?_;generalize hK:wpAny Tryz.prog _ _ _ f _=K5;go_simp;subst hK;refine cM kR ?_;have hk7:Keep (fun b=>b=gs) W1 (w6.setCell ⟨gs,1,none⟩ (.int .i64 (most:Int))):=Hk6.out.setCell (p:=⟨gs,1,none⟩) (.inl rfl) _;have hbk7:=Hb6.out.set 1 (.int .i64 (most:Int));obtain ⟨Hk7,Hb7⟩:=hqq2 hk7 hbk7;have hH:=H.out;go_wp2_with fail;go_ret;have hw1:=Hal.out.size;have hbw:=hH.size;have hbnd:=Ht1.out.bnd;have h0:∀b,b < w.heap.size->own1 b=0:=fun b hb=>Nat.eq_zero_of_not_pos fun f=>by have:=(hbnd b oM).1;omega
   refine ⟨rfl,own1,gl',⟨Hb7.out,hH.low,h0 _ hgs,(Ht1.out.far0 hk7 (fun b f=>by have f':b=gs:=f;subst f';exact h0 _ hgs)).low hbw,hn,hm1,hm2,hr1,hr2⟩,⟨fun b hb f=>absurd (h0 b hb) f,?_,?_⟩⟩;exact ((VisF.of_vis Hv1.out.1).trans' (VisF.of_vis (Vis.of_below Hal.out)) (fun b _ f=>f)).trans' (VisF.of_keep hk7) (fun b _ f=>.inr f)
   · have k1:Keep (fun b=>B<=b) w w1:=Hv1.out.2.mono fun b hb f=>by have f':w.heap.size<=b:=f;show B<=b;omega
     exact (k1.trans (Keep.of_below Hal.out)).trans (hk7.mono fun b _ f=>by have f':b=gs:=f;subst f';exact hH.low)
def aIa (w:World) (r:Nat) (e:Ending) (w':World):Prop:=
 ∃(t:List UInt8) (gl:Nat) (own:Nat->Nat),t.length<=68/\e=.returned (.tuple #[.pointer (some ⟨gl,0,none⟩),.string ⟨t.toArray⟩])/\LiveE w' w.heap.size own gl t r/\Below w.heap.size w w'
theorem aG1 (A:Option Addr) (n c:Nat) (l:List Int) (few:Bool) (rate:Int) (A1:Option Addr) (n1 c1:Nat) (l1:List Int) (x:Nat) (hx1:(IntKind.u64.wrap rate).tmod 64=(x:Int)) (w:World) (hr:Rd w w.heap.size 1 A n (l.map iv)) (hn:n<=maxLen) (hr1:Rd w w.heap.size 1 A1 n1 (l1.map iv)) (hn1:n1<=maxLen) (hT:TabW w):
 Calls Tryz.prog 20 #[.slice A n c,.bool few,.int .i64 rate,.slice A1 n1 c1] w (aIa w (1+x)):=by
 obtain ⟨Hr,HT⟩:=hqq2 hr hT;have hw:=hT.pos;have hx64:x < 64:=by obtain ⟨y,hy,hy2⟩:=fM rate 64 oM;omega
 have hL:∃bL oL,0 < n1->A1=some ⟨bL,oL,none⟩/\∀(j:Nat) (z:Int),l1[j]?=some z->∀w',Below w.heap.size w w'->w'.cell? ⟨bL,oL+j,none⟩=some (.int .i64 z):=by
  rcases zBa n1 with h0 | h0;exact ⟨0,0,fun h=>by omega⟩
  · obtain ⟨b0,o0,e0,hb0,hc0⟩:=hr1.2 h0;exact ⟨b0,o0,fun _=>⟨e0,fun j z hz w' k=>(k.cell hb0).trans (hc0 j _ (by rw [zAf,hz];rfl))⟩⟩
 have hll:l1.length=n1:=by simpa using hr1.1
 obtain ⟨bL,oL,hL⟩:=hL;obtain ⟨HL,Hll⟩:=hqq2 hL hll;clear hr hr1 hT hL hll;go_enter Tryz.func20,Tryz.ntmps20;go_wp2_with fail;refine (wH A n c w.heap.size l 60 few w Hr.out nL hn oM).mono ?_;rintro e w1 ⟨t,A2,c2,ht60,_,rfl,hm1,hb1⟩;have s1:=iK hm1.rd c2;obtain ⟨A0,cap,W1,kb,hrd,hbw⟩:=aG9 w1 t _ rfl;have hb01:=hb1.trans (hbw.mono hb1.size);obtain ⟨N,hN⟩:=eqx t.length;rw [hN] at s1 kb hrd ht60⊢;have hbA:Below W1.heap.size W1 (W1.alloc (.cells #[.slice A0 N cap] 23)):=bR.alloc nL _;have hnew:=fI (1+x) _ 1 1 _ [⟨A0,N,cap,t⟩] t N (by simp [gD]) hN _ (Rd.made W1 23 1 1 #[.slice A0 N cap] rfl) (fun s hs=>by simp at hs;subst hs;exact (hrd.below hbA).mono hbA.size) nL oM oM oM oM;have e2:(((1+x:Nat)):Int)=1+(x:Int):=oM;rw [e2] at hnew;have hb0A:=hb01.trans (hbA.mono hb01.size);obtain ⟨Hb01,HN,Hnew⟩:=hqq3 hb0A hN hnew;clear hm1 hb1 Hr hrd hbw hb01 hb0A hnew hbA hN e2;go_wp2_with fail;refine Hnew.out.mono ?_;rintro e w2 ⟨gl,jB,rfl,hgl,hle,hb2⟩;have Hb2:=lhd (Hb01.out.trans (hb2.mono Hb01.out.size));have Hle:=lhd (hle.low (B':=w.heap.size) Hb01.out.size);clear hle hb2 Hnew kb s1 hgl Hb01 hx1;obtain ⟨r,hrr⟩:=eqx (1+x);rw [hrr] at Hle⊢;have hr1:1<=r:=oM;have hr2:r<=64:=oM;obtain ⟨Hr1,Hr2,Hrr⟩:=hqq3 hr1 hr2 hrr;clear hr1 hr2 hrr hx64;go_wp2_with fail;go_loopw [10,13] (fun s i wr=>∃(j:Nat) (tt:List UInt8) (own:Nat->Nat),j<=n1/\j<=8/\tt.length<=60+j/\s=.string ⟨tt.toArray⟩/\i=.int .i64 (j:Int)/\LiveE wr w.heap.size own gl tt r/\Below w.heap.size w wr) (fun _ i _=>8 -(intOf i).toNat)
 case atStart=>exact ⟨0,t,jB,zAp _,by omega,by rw [HN.out];omega,rfl,rfl,Hle.out,Hb2.out⟩
 case round=>
  clear Hle Hb2;obtain ⟨i,tt,own,hi,hi8,hM,rfl,rfl,hle,hbr⟩:=hrel;obtain ⟨M,htt⟩:=eqx tt.length;rw [htt] at hM;have hM68:M<=68:=oM;have z1:(⟨tt.toArray⟩:ByteArray).size=M:=(bU tt).trans htt;obtain ⟨Hle,Hbr,Htt⟩:=hqq3 hle hbr htt;clear hle htt hbr;by_cases hgo:i < n1/\i < 8
  · obtain ⟨hlt,hlt8⟩:=hgo;obtain ⟨z,hz⟩:∃z,l1[i]?=some z:=⟨_,zAa (by rw [Hll.out];exact hlt)⟩;obtain ⟨eA,hcl⟩:=HL.out oM;have d1:wr.cell? ⟨bL,oL+i,none⟩=some (.int .i64 z):=hcl i z hz wr Hbr.out;clear hcl HL;subst eA;obtain ⟨k,hk1,hk2⟩:=fM z ((M+1:Nat):Int) oM;have hkM:k<=M:=oM;have e1:IntKind.i64.wrap ((M:Int)+1)=((M+1:Nat):Int):=(by rw [IntKind.wrap_i64];omega);have e2:IntKind.u64.wrap ((M+1:Nat):Int)=((M+1:Nat):Int):=(by rw [IntKind.wrap_u64];omega);have e3:IntKind.i64.wrap (k:Int)=(k:Int):=(by rw [IntKind.wrap_i64];omega);obtain ⟨M1,hM1⟩:=eqx (M+1);rw [hM1] at e1 e2 hk1;have e4:¬M1=0:=oM;have e5:¬(M1:Int)=0:=oM;have hktt:k<=tt.length:=(by rw [Htt.out];exact hkM);have Hktt:=lhd hktt;obtain ⟨y,hy⟩:=eqx (bits .and .i64 z 1);clear hk2 hz hM1 hktt;by_cases hdel:y=1/\k < M
    · obtain ⟨rfl,hkl⟩:=hdel;have hd:=sV wr w.heap.size own gl tt r k Hle.out (HT.out.below Hbr.out hw) hw (by rw [Htt.out];omega) (by rw [Htt.out];exact hkl) Hr1.out Hr2.out;unfold aCd at hd;have Hd:=lhd hd;obtain ⟨m,hmk⟩:=eqx (k+1);have Hk1:=lhd (show m<=tt.length by rw [Htt.out];omega);have Hmk:=lhd hmk;clear hd hmk;go_wp2_with fail;refine Hd.out.mono ?_;rintro e w4 ⟨rfl,own4,hle4,hlf4⟩;obtain ⟨Hle4,Hb4⟩:=hqq2 hle4 (Hbr.out.trans (hlf4.belowS Hbr.out.size));clear hle4 hlf4 d1 Hd Hle Hbr hk1 e1 e2 e3 e4 e5 hy;go_wp2_with fail;refine wp_region_any kR ?_;have hktt:=Hktt.out;have htl:tt.length=M:=Htt.out;have hcl1:(tt.take k).length<=90:=(by rw [zAj,Htt.out];omega);have hcl2:(tt.drop k).length<=90:=(by rw [zAw,Htt.out];omega);have hcl3:(tt.drop m).length<=90:=(by rw [zAw,Htt.out];omega);refine aX [76,77,78,79,80,81,82,83,10] Grow (Vs [is (.string ⟨(tt).toArray⟩),is (.int .i64 (k:Int)),is (.string ⟨(tt.take k).toArray⟩),is (.string ⟨(tt).toArray⟩),is (.int .i64 (k:Int)),is (.int .i64 (m:Int)),is (.string ⟨(tt.drop m).toArray⟩),is (.string ⟨(aI tt k).toArray⟩),is (.string ⟨(aI tt k).toArray⟩)]) _ _ rfl kR bR (fun _ _=>Grow.trans) (pE (by repeat' (first | exact uF _ | exact pD _ _ _ |(refine zAe.2 ⟨?_,?_⟩)|(intro p hp;cases hp)))) ?_ ?_
      · refine aT ?_;refine sC (fun ev _ _ _ _ hold _ _ _ _ hK=>?_) ?_
        · have e10:ev (.tmp 10)=.string ⟨(tt).toArray⟩:=hold 10 kR;go_simp;exact hK _ _ bR rfl
        refine sC (fun ev _ _ _ _ hold _ _ _ _ hK=>?_) ?_
        · have e14:ev (.tmp 14)=.int .i64 (k:Int):=hold 14 kR;go_simp;exact hK _ _ bR rfl
        refine sC (fun _ w5 _ _ _ _ hval _ _ _ hK=>?_) ?_
        · have e76:_=_:=hval 0 76 kR rfl;have e77:_=_:=hval 1 77 kR rfl;have q1:=mT tt w5 k hktt;have q2:=uB tt w5 k hktt;go_simp;exact hK _ _ bR rfl
        refine sC (fun ev _ _ _ _ hold _ _ _ _ hK=>?_) ?_
        · have e10:ev (.tmp 10)=.string ⟨(tt).toArray⟩:=hold 10 kR;go_simp;exact hK _ _ bR rfl
        refine sC (fun ev _ _ _ _ hold _ _ _ _ hK=>?_) ?_
        · have e14:ev (.tmp 14)=.int .i64 (k:Int):=hold 14 kR;go_simp;exact hK _ _ bR rfl
        refine sC (fun _ _ _ _ _ _ hval _ _ _ hK=>?_) ?_
        · have e80:_=_:=hval 4 80 kR rfl;have e7:IntKind.i64.wrap ((k:Int)+1)=(m:Int):=(by rw [IntKind.wrap_i64];have:=Hmk.out;omega);go_simp;exact hK _ _ bR rfl
        refine sC (fun _ w5 _ _ _ _ hval _ _ _ hK=>?_) ?_
        · have e79:_=_:=hval 3 79 kR rfl;have e81:_=_:=hval 5 81 kR rfl;have q1:=mS tt w5 m Hk1.out;have q2:=uA tt w5 m Hk1.out;go_simp;exact hK _ _ bR rfl
        refine sC (fun _ _ _ _ _ _ hval _ _ _ hK=>?_) ?_
        · have e78:_=_:=hval 2 78 kR rfl;have e82:_=_:=hval 6 82 kR rfl;go_simp;rw [zBw oM];exact hK _ _ bR ((tZ _ _).trans (by rw [<-Hmk.out];rfl))
        refine sC (fun _ _ _ _ _ _ hval _ _ _ hK=>?_) ?_
        · have e83:_=_:=hval 7 83 kR rfl;go_simp;exact hK _ _ bR rfl
        exact aG
      · intro ev w6 hS hval;have e10:ev (.tmp 10)=.string ⟨(aI tt k).toArray⟩:=hval 8 10 rfl;simp only [aO,zq1,zq2,Act.put,zq3,zq4,zq5];rw [e10];clear hval;replace hS:Below w4.heap.size w4 w6:=⟨hS.os,hS.tape,hS.output,hS.size,hS.block⟩;have hb5:=Hb4.out.trans (Below.mono hS Hb4.out.size);have hl5:=Hle4.out.vis (Vis.of_below hS);obtain ⟨Hb5,Hl5⟩:=hqq2 hb5 hl5;clear hb5 hl5 hS;go_wp2_with fail;go_roundw
        case rel=>exact ⟨i+1,aI tt k,own4,by omega,by omega,by have:=dA tt (k:=k) (by have:=Hk1.out;have:=Hmk.out;omega);have:=Htt.out;omega,rfl,by go_num,Hl5.out,Hb5.out⟩
        case measure=>simp [intOf];omega
    · have g1:(decide (y=1)&&decide ((k:Int) < (M:Int)))=false:=(by rw [Bool.and_eq_false_iff];by_cases h0:y=1;exact .inr (zBy fun e=>hdel ⟨h0,by omega⟩);exact .inl (zBy h0));have hins:=mQ wr w.heap.size own gl tt r k 98 Hle.out (by rw [Htt.out];omega) (by rw [Htt.out];exact hkM) Hr1.out Hr2.out;unfold aCd at hins;have e98:(((98:UInt8).toNat:Nat):Int)=98:=rfl;rw [e98] at hins;have Hins:=lhd hins;clear hins e98;by_cases h0:y=1
      · have hkl:¬k < M:=fun h=>hdel ⟨h0,h⟩;subst h0;clear g1 hdel;go_wp2_with fail;refine Hins.out.mono ?_;rintro e w4 ⟨rfl,own4,hle4,hlf4⟩;obtain ⟨Hle4,Hb4⟩:=hqq2 hle4 (Hbr.out.trans (hlf4.belowS Hbr.out.size));clear hle4 hlf4 d1 Hins Hle Hbr hk1 e1 e2 e3 e4 e5 hy;go_wp2_with fail;refine wp_region_any kR ?_;have hktt:=Hktt.out;have htl:tt.length=M:=Htt.out;have hcl1:(tt.take k).length<=90:=(by rw [zAj,Htt.out];omega);have hcl2:(tt.drop k).length<=90:=(by rw [zAw,Htt.out];omega);have hcl3:(tt.drop (k+1)).length<=90:=(by rw [zAw,Htt.out];omega);refine aX [89,90,91,92,93,94,95,96,10] Grow (Vs [is (.string ⟨(tt).toArray⟩),is (.int .i64 (k:Int)),is (.string ⟨(tt.take k).toArray⟩),is (.string ⟨(tt.take k++ [98]).toArray⟩),is (.string ⟨(tt).toArray⟩),is (.int .i64 (k:Int)),is (.string ⟨(tt.drop k).toArray⟩),is (.string ⟨(aQ tt k 98).toArray⟩),is (.string ⟨(aQ tt k 98).toArray⟩)]) _ _ rfl kR bR (fun _ _=>Grow.trans) (pE (by repeat' (first | exact uF _ | exact pD _ _ _ |(refine zAe.2 ⟨?_,?_⟩)|(intro p hp;cases hp)))) ?_ ?_
        · refine aT ?_;refine sC (fun ev _ _ _ _ hold _ _ _ _ hK=>?_) ?_
          · have e10:ev (.tmp 10)=.string ⟨(tt).toArray⟩:=hold 10 kR;go_simp;exact hK _ _ bR rfl
          refine sC (fun ev _ _ _ _ hold _ _ _ _ hK=>?_) ?_
          · have e14:ev (.tmp 14)=.int .i64 (k:Int):=hold 14 kR;go_simp;exact hK _ _ bR rfl
          refine sC (fun _ w5 _ _ _ _ hval _ _ _ hK=>?_) ?_
          · have e89:_=_:=hval 0 89 kR rfl;have e90:_=_:=hval 1 90 kR rfl;have q1:=mT tt w5 k hktt;have q2:=uB tt w5 k hktt;go_simp;exact hK _ _ bR rfl
          refine sC (fun _ _ _ _ _ _ hval _ _ _ hK=>?_) ?_
          · have e91:_=_:=hval 2 91 kR rfl;go_simp;rw [zBw oM];exact hK _ _ bR (tZ _ [98])
          refine sC (fun ev _ _ _ _ hold _ _ _ _ hK=>?_) ?_
          · have e10:ev (.tmp 10)=.string ⟨(tt).toArray⟩:=hold 10 kR;go_simp;exact hK _ _ bR rfl
          refine sC (fun ev _ _ _ _ hold _ _ _ _ hK=>?_) ?_
          · have e14:ev (.tmp 14)=.int .i64 (k:Int):=hold 14 kR;go_simp;exact hK _ _ bR rfl
          refine sC (fun _ w5 _ _ _ _ hval _ _ _ hK=>?_) ?_
          · have e93:_=_:=hval 4 93 kR rfl;have e94:_=_:=hval 5 94 kR rfl;have q1:=mS tt w5 k hktt;have q2:=uA tt w5 k hktt;go_simp;exact hK _ _ bR rfl
          refine sC (fun _ _ _ _ _ _ hval _ _ _ hK=>?_) ?_
          · have e92:_=_:=hval 3 92 kR rfl;have e95:_=_:=hval 6 95 kR rfl;go_simp;rw [zBw oM];exact hK _ _ bR ((tZ _ _).trans (by unfold aQ;rw [zCn];rfl))
          refine sC (fun _ _ _ _ _ _ hval _ _ _ hK=>?_) ?_
          · have e96:_=_:=hval 7 96 kR rfl;go_simp;exact hK _ _ bR rfl
          exact aG
        · intro ev w6 hS hval;have e10:ev (.tmp 10)=.string ⟨(aQ tt k 98).toArray⟩:=hval 8 10 rfl;simp only [aO,zq1,zq2,Act.put,zq3,zq4,zq5];rw [e10];clear hval;replace hS:Below w4.heap.size w4 w6:=⟨hS.os,hS.tape,hS.output,hS.size,hS.block⟩;have hb5:=Hb4.out.trans (Below.mono hS Hb4.out.size);have hl5:=Hle4.out.vis (Vis.of_below hS);obtain ⟨Hb5,Hl5⟩:=hqq2 hb5 hl5;clear hb5 hl5 hS;go_wp2_with fail;go_roundw
          case rel=>exact ⟨i+1,aQ tt k 98,own4,by omega,by omega,by rw [eQ _ _ Hktt.out,Htt.out];omega,rfl,by go_num,Hl5.out,Hb5.out⟩
          case measure=>simp [intOf];omega
      · clear g1 hdel;go_wp2_with fail;refine Hins.out.mono ?_;rintro e w4 ⟨rfl,own4,hle4,hlf4⟩;obtain ⟨Hle4,Hb4⟩:=hqq2 hle4 (Hbr.out.trans (hlf4.belowS Hbr.out.size));clear hle4 hlf4 d1 Hins Hle Hbr hk1 e1 e2 e3 e4 e5 hy;go_wp2_with fail;refine wp_region_any kR ?_;have hktt:=Hktt.out;have htl:tt.length=M:=Htt.out;have hcl1:(tt.take k).length<=90:=(by rw [zAj,Htt.out];omega);have hcl2:(tt.drop k).length<=90:=(by rw [zAw,Htt.out];omega);have hcl3:(tt.drop (k+1)).length<=90:=(by rw [zAw,Htt.out];omega);refine aX [89,90,91,92,93,94,95,96,10] Grow (Vs [is (.string ⟨(tt).toArray⟩),is (.int .i64 (k:Int)),is (.string ⟨(tt.take k).toArray⟩),is (.string ⟨(tt.take k++ [98]).toArray⟩),is (.string ⟨(tt).toArray⟩),is (.int .i64 (k:Int)),is (.string ⟨(tt.drop k).toArray⟩),is (.string ⟨(aQ tt k 98).toArray⟩),is (.string ⟨(aQ tt k 98).toArray⟩)]) _ _ rfl kR bR (fun _ _=>Grow.trans) (pE (by repeat' (first | exact uF _ | exact pD _ _ _ |(refine zAe.2 ⟨?_,?_⟩)|(intro p hp;cases hp)))) ?_ ?_
        · refine aT ?_;refine sC (fun ev _ _ _ _ hold _ _ _ _ hK=>?_) ?_
          · have e10:ev (.tmp 10)=.string ⟨(tt).toArray⟩:=hold 10 kR;go_simp;exact hK _ _ bR rfl
          refine sC (fun ev _ _ _ _ hold _ _ _ _ hK=>?_) ?_
          · have e14:ev (.tmp 14)=.int .i64 (k:Int):=hold 14 kR;go_simp;exact hK _ _ bR rfl
          refine sC (fun _ w5 _ _ _ _ hval _ _ _ hK=>?_) ?_
          · have e89:_=_:=hval 0 89 kR rfl;have e90:_=_:=hval 1 90 kR rfl;have q1:=mT tt w5 k hktt;have q2:=uB tt w5 k hktt;go_simp;exact hK _ _ bR rfl
          refine sC (fun _ _ _ _ _ _ hval _ _ _ hK=>?_) ?_
          · have e91:_=_:=hval 2 91 kR rfl;go_simp;rw [zBw oM];exact hK _ _ bR (tZ _ [98])
          refine sC (fun ev _ _ _ _ hold _ _ _ _ hK=>?_) ?_
          · have e10:ev (.tmp 10)=.string ⟨(tt).toArray⟩:=hold 10 kR;go_simp;exact hK _ _ bR rfl
          refine sC (fun ev _ _ _ _ hold _ _ _ _ hK=>?_) ?_
          · have e14:ev (.tmp 14)=.int .i64 (k:Int):=hold 14 kR;go_simp;exact hK _ _ bR rfl
          refine sC (fun _ w5 _ _ _ _ hval _ _ _ hK=>?_) ?_
          · have e93:_=_:=hval 4 93 kR rfl;have e94:_=_:=hval 5 94 kR rfl;have q1:=mS tt w5 k hktt;have q2:=uA tt w5 k hktt;go_simp;exact hK _ _ bR rfl
          refine sC (fun _ _ _ _ _ _ hval _ _ _ hK=>?_) ?_
          · have e92:_=_:=hval 3 92 kR rfl;have e95:_=_:=hval 6 95 kR rfl;go_simp;rw [zBw oM];exact hK _ _ bR ((tZ _ _).trans (by unfold aQ;rw [zCn];rfl))
          refine sC (fun _ _ _ _ _ _ hval _ _ _ hK=>?_) ?_
          · have e96:_=_:=hval 7 96 kR rfl;go_simp;exact hK _ _ bR rfl
          exact aG
        · intro ev w6 hS hval;have e10:ev (.tmp 10)=.string ⟨(aQ tt k 98).toArray⟩:=hval 8 10 rfl;simp only [aO,zq1,zq2,Act.put,zq3,zq4,zq5];rw [e10];clear hval;replace hS:Below w4.heap.size w4 w6:=⟨hS.os,hS.tape,hS.output,hS.size,hS.block⟩;have hb5:=Hb4.out.trans (Below.mono hS Hb4.out.size);have hl5:=Hle4.out.vis (Vis.of_below hS);obtain ⟨Hb5,Hl5⟩:=hqq2 hb5 hl5;clear hb5 hl5 hS;go_wp2_with fail;go_roundw
          case rel=>exact ⟨i+1,aQ tt k 98,own4,by omega,by omega,by rw [eQ _ _ Hktt.out,Htt.out];omega,rfl,by go_num,Hl5.out,Hb5.out⟩
          case measure=>simp [intOf];omega
  · by_cases h0:i < n1
    · have h10:¬i < 8:=fun e=>hgo ⟨h0,e⟩;clear hgo;go_wp2_with fail;go_ret2;exact ⟨tt,gl,own,by rw [Htt.out];exact hM68,rfl,by rw [Hrr.out];exact Hle.out,Hbr.out⟩
    · clear hgo;go_wp2_with fail;go_ret2;exact ⟨tt,gl,own,by rw [Htt.out];exact hM68,rfl,by rw [Hrr.out];exact Hle.out,Hbr.out⟩
end Go.Proofs.YtnhmjomhloainaaGreatDoor
