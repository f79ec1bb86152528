/- Parts of the walk, joined from several texts. Conditions: what each lemma says. -/
import Derived.Test.YtnhmjomhloainaaGreatDoorPq27
set_option linter.all false
set_option maxRecDepth 100000
set_option maxHeartbeats 4000000
namespace Go.Proofs.YtnhmjomhloainaaGreatDoor
section
variable {S R : List Nat} {N : Nat}
end
end Go.Proofs.YtnhmjomhloainaaGreatDoor
namespace Go.Proofs.YtnhmjomhloainaaGreatDoor
open Go.RowKit
theorem lK (Bw gl gk gp n rate:Nat) (L:List Nat) (C:List (Nat×Nat)) (w:World) (h:LiveG w Bw gl gk gp rate n L C):
 Calls Tryz.prog 23 #[.pointer (some ⟨gl,0,none⟩)] w fun e w'=>e=.returned (.int .i64 (rate:Int))/\w=w':=by
 obtain ⟨mv,hblk⟩:=h.blk;have c2:=hblk.cell 2;clear h hblk;go_enter Tryz.func23,Tryz.ntmps23;go_wp2_with fail;go_ret;exact ⟨rfl,rfl⟩
theorem aH3 (L:List Nat):L.map sv=(eO L).map iv:=by
 unfold eO;rw [zCg];rfl
def dS (w:World) (Bw:Nat) (bs:List UInt8) (e:Ending) (w':World):Prop:=
 ∃A' c',e=.returned (.tuple #[.slice A' bs.length c',.int .i64 0])/\Made w' w.heap.size 5 1 A' bs.length c' (bs.map bv)/\VB Bw w w'
theorem iR (Bw gl gk gp rate most:Nat) (t:List UInt8) (rs:List Nat) (C:List (Nat×Nat)) (w:World) (hl:LiveG w Bw gl gk gp rate (t.length+1) (aE (aD t) rs) C) (hrt:∀x∈C,rs[x.1]?=some x.2) (hs:IsSuf (aD t) rs) (hn:t.length<=127) (hr1:1<=rate) (hr2:rate<=64) (hm1:t.length<=most) (hm2:most<=2147483648):
 Calls Tryz.prog 18 #[.pointer (some ⟨gl,0,none⟩),.int .i64 (most:Int)] w (dS w Bw (cG (aE (aD t) rs) rs most rate t.length)):=by
 obtain ⟨i0,hi0,hz0,hz1,hz2⟩:=info_parts jO;obtain ⟨L,hL⟩:=eqx (aE (aD t) rs);have hlt:=dG (rs:=rs) (eK t);have hlen:L.length=t.length+1:=by rw [<-hL,bJ,hs.len,aJ]
 have hrow:∀k w1,VB Bw w w1->k*rate<=t.length->Calls Tryz.prog 57 #[.pointer (some ⟨gl,0,none⟩),.int .i64 ((k*rate:Nat):Int)] w1 fun e w'=>e=.returned (.int .i64 ((rs.idxOf (k*rate):Nat):Int))/\VB Bw w1 w':=fun k w1 hv hk=>by have hmem:k*rate∈rs:=hs.mem (by rw [aJ];omega);exact gG Bw gl gk gp rate t rs C (rs.idxOf (k*rate)) (k*rate) w1 (hl.vis hv.1) hrt hs hn (zAc.2 ⟨List.idxOf_lt_length_iff.2 hmem,List.getElem_idxOf _⟩)
 rw [hL] at hl hlt⊢;obtain ⟨N,hN⟩:=eqx t.length;have hil:∀x,rs.idxOf x<=128:=fun x=>by have:=List.idxOf_le_length (a:=x) (l:=rs);rw [hs.len,aJ] at this;omega
 have hlast:=qR Bw gl gk gp (t.length+1) rate L _ w hl hlt oM;unfold iI at hlast;rw [hN] at hlen hrow hm1 hn⊢;rw [hlen] at hlast;have hlv:=hl.lvw;have hput:=vA hlt;have hfl:=gP L;rw [hlen] at hfl;obtain ⟨Hl,Hlv,Hrow,Hlt,Hlen,Hput,Hil⟩:=hqq7 hl hlv hrow hlt hlen hput hil;have n3:¬most < N:=oM;have n4:decide (most < N)=false:=zBy n3;have n5:¬((most:Int) > 2147483648):=oM;have n6:decide ((most:Int) > 2147483648)=false:=zBy n5;have hw0:0 < w.heap.size:=Nat.lt_of_le_of_lt (zAp _) hl.lt;clear hrt hl hlv hrow hlt hlen hput hL hs hN hil;unfold dS;go_enter Tryz.func18,Tryz.ntmps18;go_wp2_with fail;refine (bQ Bw gl _ N w Hlv.out Hlen.out oM).mono ?_;rintro e w1 ⟨rfl,rfl⟩;go_wp2_with fail;refine hlast.mono ?_;clear hlast;rintro e w1 ⟨A1,c1,rfl,hm1',hv1⟩;have hrp:=aDz A1 (N+1) c1 w1.heap.size (eO L) w1 (by rw [<-aH3];exact hm1'.rd) nL oM;rw [Hput.out] at hrp;have Hv1:=lhd hv1;clear hm1' hv1;go_wp2_with fail;refine hrp.mono ?_;clear hrp;rintro e w2 ⟨hpt,hb2⟩;obtain ⟨bs,A2,c2,hbs,rfl,hm2'⟩:=hpt.resolve_right (fun ⟨hno,_⟩=>by cases hno);injection hbs with hbs;obtain ⟨k2,hk2⟩:=eqx ((eU L).length);rw [<-hbs,hk2] at hm2';rw [<-hbs,hk2];rw [hk2] at hfl;have hv2:VB Bw w w2:=Hv1.out.below hb2;have Hv2:=lhd hv2;have Hm2:=lhd (hm2'.mono (B':=w.heap.size) Hv1.out.1.size);have Hk2:=lhd hk2;clear hb2 hbs hm2' hk2 hv2 Hv1;go_wp2_with fail;go_loopw [8,9] (fun v i wr=>∃k q:Nat,k<=N / rate+1/\i=.int .i64 ((k*rate:Nat):Int)/\wr.ownsRow w2.heap.size 5 1 v q ((pF rs rate k).map bv)/\VB Bw w2 wr) (fun _ i _=>(N+65 -(intOf i).toNat))
 case atStart=>exact ⟨0,0,zAp _,by simp,World.ownsRow_nil _ _ _ _,VisK.refl _ _⟩
 case round=>
  obtain ⟨k,q,hk,rfl,hown,hv⟩:=hrel;have hq:q<=1500:=by have h1:=hown.1;have h2:=lV rs rate k;have h3:N / rate<=N:=Nat.div_le_self _ _;simp at h1;omega
  obtain ⟨p,hp⟩:=eqx (k*rate);have hvw:=Hv2.out.trans hv;have hlen1:=bQ Bw gl _ N wr (Hl.out.vis hvw.1).lvw Hlen.out oM;have hsz:=hvw.1.size;have hsz2:=hv.1.size;by_cases hlt:p<=N
  · have hrow1:=Hrow.out k wr hvw oM;have hnext:=mU rs rate k;obtain ⟨x,hx⟩:=eqx (rs.idxOf (k*rate));have hxl:x<=128:=(by rw [<-hx];exact Hil.out _);have hnk:=aGg hr1 (by omega:k*rate<=N);have hpn:(k+1)*rate=p+rate:=(by rw [Nat.add_mul,hp,Nat.one_mul]);rw [hx] at hrow1 hnext;rw [hp] at hrow1;rw [hp];obtain ⟨kx,hkx⟩:=eqx ((bK x).length);have hkx1:kx<=11:=(by rw [<-hkx];exact bN x);have hpl:p<=127:=oM;obtain ⟨Hnext,Hkx,Hv,Hown⟩:=hqq4 hnext hkx hv hown;clear hnext hkx hv hown hvw hx;go_wp2_with fail;refine hlen1.mono ?_;clear hlen1;rintro e w3 ⟨rfl,rfl⟩;go_wp2_with fail;refine hrow1.mono ?_;clear hrow1;rintro e w3 ⟨rfl,hv3⟩;have hown3:=hv3.1.own Hown.out dC dC;have Hown3:=lhd hown3;have hvv3:=Hv.out.trans hv3;have hsz3:=hv3.1.size;have Hv3:=lhd hvv3;clear hown3 hv3 hvv3 Hown Hv;go_wp2_with fail;refine (wS _ _ _ _ [x] _ (bK x) kx (oR x) Hkx.out (Rd.made _ _ 1 1 _ rfl) nL (by simp;omega) oM).mono ?_;rintro e w4 ⟨A4,c4,rfl,hm4,hb4⟩;have hb34:=((Below.refl w3.heap.size w3).alloc nL (.cells #[.int .u64 (x:Int)] 105)).trans (hb4.mono (by simp));have hown4:w4.ownsRow w2.heap.size 5 1 u8 q ((pF rs rate k).map bv):=aV (Hown3.out) hb34;have hs4:=hb34.size;obtain ⟨Hr4,Hone⟩:=hqq2 hm4.rd (kW (bK x));have hv4:=Hv3.out.below hb34;have hs40:w2.heap.size<=w4.heap.size:=oM;have Hv4:=lhd hv4;clear hm4 hb4 hb34 Hown3 Hv3 hv4;go_wp2_with (at_builtin;refine bY _ rfl (.tmp 41) (.tmp 47) _ rfl w2.heap.size 5 i0 (.int .u8 0) 1 1 Tryz.underlying23 hi0 hz0 hz1 hz2 rfl dC u8 q _ rfl hown4 w4.heap.size A4 kx c4 _ rfl Hr4.out Hone.out (by unfold maxLen;omega) oM hs40 ?_;intro v5 w5 hown5 hg5 hat5);have hb45:=aW (Below.refl w2.heap.size w4) hown4 hg5 hs40;have hv5:=VB.grow Hv4.out hb45;obtain ⟨Hv5,Hown5⟩:=hqq2 hv5 hown5;clear hown4 hown5 hg5 hat5 hb45 hv5 Hv4;have hrate:=lK Bw gl gk gp _ rate L _ w5 (Hl.out.vis (Hv2.out.trans Hv5.out).1);go_wp2_with fail;refine hrate.mono ?_;clear hrate;rintro e w6 ⟨rfl,rfl⟩;have hadd:IntKind.i64.wrap ((p:Int)+(rate:Int))=((p+rate:Nat):Int):=(by rw [IntKind.wrap_i64];omega);go_wp2_with fail;go_roundw
    case rel=>
        refine ⟨k+1,q+kx,hnk,?_,?_,Hv5.out⟩
        · rw [hpn]
          first | rfl | exact eB oM
        rw [Hnext.out,zAz];exact Hown5.out
    case measure=>simp [intOf];omega
  · go_wp2_with fail;refine hlen1.mono ?_;clear hlen1;rintro e w3 ⟨rfl,rfl⟩;have hks:=aIq hr1 hk oM;subst hks;rw [<-tK] at hown;obtain ⟨Hown,Hv⟩:=hqq2 hown hv;clear hown hv hvw;go_wp2_with fail;refine (lK Bw gl gk gp _ rate L _ wr (Hl.out.vis (Hv2.out.trans Hv.out).1)).mono ?_;rintro e w3 ⟨rfl,rfl⟩;go_wp2_with fail;refine (bQ Bw gl _ N wr (Hl.out.vis (Hv2.out.trans Hv.out).1).lvw Hlen.out oM).mono ?_;rintro e w3 ⟨rfl,rfl⟩;go_wp2_with fail;obtain ⟨kh,hkh⟩:=eqx ((dH [most,rate,N]).length);have hkh1:kh<=33:=(by rw [<-hkh];have:=vE [most,rate,N];simpa using this);have Hkh:=lhd hkh;clear hkh;refine (wS _ _ _ _ [most,rate,N] _ (dH [most,rate,N]) kh rfl Hkh.out (Rd.made _ _ 1 3 _ rfl) nL (by simp;omega) oM).mono ?_;rintro e w4 ⟨A4,c4,rfl,hm4,hb4⟩;have hb34:=((Below.refl wr.heap.size wr).alloc nL (.cells #[.int .u64 (most:Int),.int .u64 (rate:Int),.int .u64 (N:Int)] 105)).trans (hb4.mono (by simp));have hs4:=hb34.size;have hown4:w4.ownsRow w2.heap.size 5 1 u8 q ((sX rs rate N).map bv):=aV (Hown.out) hb34;have hown2:w4.ownsRow w.heap.size 5 1 (.slice A2 k2 c2) k2 ((eU L).map bv):=aV (Hv.out.1.own Hm2.out.own dC dC) hb34;obtain ⟨A3,c3,rfl,hm3⟩:=aS hown4;obtain ⟨Hm3,Hr2,Hr4,Hv4⟩:=hqq4 hm3.rd (Rd.of_own hown2) hm4.rd ((Hv2.out.trans Hv.out).below hb34);have hq3:(sX rs rate N).length=q:=(by have:=hown4.1;simpa using this);clear hm4 hb4 hb34 hown4 hown2 hm3 Hown Hm2 Hv;have kc:=jZ w4;go_wp2_with fail;have hmk:=zS w4 5 #[.int .u8 83,.int .u8 75,.int .u8 82,.int .u8 49] (4,5) 4 rfl;obtain ⟨gm,hgm⟩:∃g,w4.heap.size=g:=⟨_,rfl⟩;rw [hgm] at hmk;have hb45:Below w4.heap.size w4 (w4.alloc (.cells #[.int .u8 83,.int .u8 75,.int .u8 82,.int .u8 49] 5 (4,5))):=(Below.refl w4.heap.size w4).alloc nL _;have hs45:(w4.alloc (.cells #[.int .u8 83,.int .u8 75,.int .u8 82,.int .u8 49] 5 (4,5))).heap.size=gm+1:=(by simp [hgm]);have hR2:=Hr2.out.below hb45;have hR3:=Hm3.out.below hb45;have hR4:=Hr4.out.below hb45;have hV5:=Hv4.out.below hb45;rw [hgm] at hR2 hR3 hR4 hb45 hs4⊢;generalize w4.alloc (.cells #[.int .u8 83,.int .u8 75,.int .u8 82,.int .u8 49] 5 (4,5))=w5 at hmk hb45 hs45 hR2 hR3 hR4 hV5⊢;obtain ⟨Hmk,HR2,HR3,HR4,HV5⟩:=hqq5 hmk hR2 hR3 hR4 hV5;clear hmk hR2 hR3 hR4 hV5 hb45 Hr2 Hm3 Hr4 Hv4 hgm kc;have hN128:N / rate<=N:=Nat.div_le_self _ _;have hq4:=lV rs rate (N / rate+1);rw [<-tK,hq3] at hq4;have hq5:q<=2000:=oM;obtain ⟨n1,hn1⟩:=eqx ((dK (eU L)).length);obtain ⟨n2,hn2⟩:=eqx ((dK (sX rs rate N)).length);have hn1l:n1<=3000:=(by rw [<-hn1,iT,Hk2.out];have:=bN k2;omega);have hn2l:n2<=3000:=(by rw [<-hn2,iT,hq3];have:=bN q;omega);have hp1:=qL A2 k2 c2 gm (eU L) w5 HR2.out oM oM;rw [hn1] at hp1;refine hp1.mono ?_;clear hp1;rintro e w6 ⟨A6,c6,rfl,hm6,hb6⟩;have hs6:=hb6.size;obtain ⟨Hmk6,HR36,HR46,HR6,HV6⟩:=hqq5 (Hmk.out.below (hb6.mono oM)) (HR3.out.below (hb6.mono oM)) (HR4.out.below (hb6.mono oM)) hm6.rd (HV5.out.below hb6);clear hb6 hm6 Hmk HR2 HR3 HR4 HV5;go_wp2_with fail;have hp2:=qL A3 q c3 gm (sX rs rate N) w6 HR36.out oM oM;rw [hn2] at hp2;refine hp2.mono ?_;clear hp2;rintro e w7 ⟨A7,c7,rfl,hm7,hb7⟩;have hs7:=hb7.size;obtain ⟨Hmk7,HR47,HR67,HR7,HV7⟩:=hqq5 (Hmk6.out.below (hb7.mono oM)) (HR46.out.below (hb7.mono oM)) (HR6.out.below hb7) hm7.rd (HV6.out.below hb7);clear hb7 hm7 Hmk6 HR36 HR46 HR6 HV6;go_wp2_with fail;obtain ⟨bd,hbd⟩:∃b,kH L rs most rate N=b:=⟨_,rfl⟩;obtain ⟨nb,hnb⟩:∃n,bd.length=n:=⟨_,rfl⟩;have hnbl:nb<=10000:=by rw [<-hnb,<-hbd];unfold kH;rw [zAi,zAi,zAi,Hkh.out,hn1,hn2];have:eW.length=4:=rfl;omega
    have hcat:=lL (some ⟨w7.heap.size,0,none⟩) 4 4 (w7.heap.size+1) [⟨some ⟨gm,0,none⟩,4,4,eW⟩,⟨A4,kh,c4,dH [most,rate,N]⟩,⟨A6,n1,c6,dK (eU L)⟩,⟨A7,n2,c7,dK (sX rs rate N)⟩] bd nb (by rw [<-hbd];unfold kH;simp [gD]) hnb (w7.alloc (.cells #[.slice (some ⟨gm,0,none⟩) 4 4,.slice A4 kh c4,.slice A6 n1 c6,.slice A7 n2 c7] 23)) ((Rd.made w7 _ 1 4 _ rfl).mono (by simp)) (by
        intro s hs;simp at hs;rcases hs with rfl | rfl | rfl | rfl;exact ((Hmk7.out.mono (B':=w7.heap.size) oM).alloc nL _).mono oM;exact ((HR47.out.mono (B':=w7.heap.size) oM).alloc nL _).mono oM;exact ((HR67.out.mono (B':=w7.heap.size) oM).alloc nL _).mono oM
        · exact (HR7.out.alloc nL _).mono oM) (by simp) oM oM
    refine hcat.mono ?_;clear hcat;rintro e w8 ⟨A8,c8,rfl,hm8,hb8⟩;have hb78:=((Below.refl w7.heap.size w7).alloc nL (.cells #[.slice (some ⟨gm,0,none⟩) 4 4,.slice A4 kh c4,.slice A6 n1 c6,.slice A7 n2 c7] 23)).trans (hb8.mono (by simp));have HV8:=lhd (HV7.out.below hb78);have hs8:=HV8.out.1.size;have Hm8:=lhd (hm8.mono (B':=w.heap.size) (by simp;have:=HV7.out.1.size;omega));clear hm8 hb8 hb78 HV7 Hmk7 HR47 HR67 HR7;go_wp2_with fail;refine (nU A8 _ nb c8 _ bd _ ((Hm8.out.rd.alloc oM _).mono (by simp)) oM (Rd.made _ _ 1 1 _ rfl)).mono ?_;rintro e w9 ⟨rfl,hb9⟩;have hb89:=((Below.refl w8.heap.size w8).alloc nL (.cells #[.slice A8 nb c8] 23)).trans (hb9.mono (by simp));obtain ⟨Hm9,HV9⟩:=hqq2 (Hm8.out.below hb89) (HV8.out.below hb89);have hs9:=HV9.out.1.size;clear hb9 hb89 Hm8 HV8;go_wp2_with fail;refine (zH (gJ bd) _).mono ?_;rintro e w10 ⟨A10,c10,rfl,hm10,hb10⟩;obtain ⟨Hm9b,HV10⟩:=hqq2 (Hm9.out.below hb10) (HV9.out.below hb10);have hs10:=HV10.out.1.size;have HR10:=lhd hm10.rd;have hown10:=Hm9b.out.own;have Hone:=lhd (kW (jJ (gJ bd)));clear hm10 hb10 Hm9 HV9;go_wp2_with (at_builtin;refine bY _ rfl (.tmp 68) (.tmp 72) _ rfl w.heap.size 5 i0 (.int .u8 0) 1 1 Tryz.underlying23 hi0 hz0 hz1 hz2 rfl dC (.slice A8 nb c8) nb _ rfl hown10 w10.heap.size A10 4 c10 _ rfl HR10.out Hone.out (by unfold maxLen;omega) oM hs10 ?_;intro v11 w11 hown11 hg11 hat11);have hV11:=VB.grow HV10.out (aW (Below.refl w.heap.size w10) hown10 hg11 hs10);obtain ⟨A11,c11,rfl,hm11⟩:=aS hown11;go_ret2;have hsn:cG L rs most rate N=bd++jJ (gJ bd):=(by unfold cG;rw [hbd]);have hsl:(cG L rs most rate N).length=nb+4:=(by rw [hsn,zAi,hnb,jC]);rw [hsl,hsn,zAz];exact ⟨A11,c11,rfl,hm11,hV11⟩
def wJ (w:World) (Bw:Nat) (t:List UInt8) (e:Ending) (w':World):Prop:=
 ∃A c,e=.returned (.slice A t.length c)/\Made w' w.heap.size 5 1 A t.length c (t.map bv)/\VB Bw w w'
theorem aAv (Bw gl rate:Nat) (t:List UInt8) (w:World) (h:TpAt w Bw gl t rate) (hT:TabW w) (hB0:1 < Bw):
 Calls Tryz.prog 75 #[.pointer (some ⟨gl,0,none⟩)] w (wJ w Bw t):=by
 have hp:=aFa Bw gl rate t 0 t.length w h hT hB0 oM;unfold rU at hp;rw [List.drop_zero,List.take_length] at hp;obtain ⟨rs,gk,gp,pr,hs,hl,hrt,hz0,hn127⟩:=h;clear hrt hz0;have hlen:rs.length=t.length+1:=by rw [hs.len,aJ]
 have hL:(aE (aD t) rs).length=t.length+1:=by rw [bJ,hlen]
 obtain ⟨Hlv,HL⟩:=hqq2 hl.lvw hL;obtain ⟨N,hN⟩:=eqx t.length;unfold wJ;rw [hN] at hp⊢;have HN:=lhd hN;rw [hN] at hn127;have Hp:=lhd hp;clear hl hL hs hlen hN hp hT;go_enter Tryz.func75,Tryz.ntmps75;go_wp2_with fail;refine (bQ Bw gl _ N w Hlv.out (by rw [HL.out,HN.out]) oM).mono ?_;rintro e w1 ⟨rfl,rfl⟩;go_wp2_with fail;refine Hp.out.mono ?_;rintro e w2 ⟨A,c,rfl,hm,hv⟩;obtain ⟨Hm,Hv⟩:=hqq2 hm hv;clear hm hv;go_wp2_with fail;go_ret;exact ⟨A,c,rfl,Hm.out,Hv.out⟩
theorem aF2 (l:List Nat) (q:List Nat):∀p,rD l q p=true↔∀(i s:Nat),q[i]?=some s->aN l (p+i)=(s:Int):=by
 induction q with
 | nil=>intro p;exact ⟨fun _ i s h=>by simp at h,fun _=>rfl⟩
 | cons x q ih=>
   intro p;rw [yR,zBd,zCa,ih];constructor
   · rintro ⟨h1,h2⟩ i s h;rcases i with _ | i;simp at h;subst h;exact h1
     · have:=h2 i s (by simpa using h);rwa [show p+(i+1)=p+1+i by omega]
   · intro h;refine ⟨h 0 x (by simp),fun i s hi=>?_⟩;have:=h (i+1) s (by simpa using hi);rwa [show p+1+i=p+(i+1) by omega]
theorem nS (t:List UInt8) {p:Nat} {c:UInt8} (h:t[p]?=some c):aN (aD t) p=((c.toNat+1:Nat):Int):=by
 have hp:=(zAc.1 h).1;refine jS ?_;unfold aD dE;rw [zAn (by simpa using hp),zAf,h];rfl
theorem aCS (t q:List UInt8) (p:Nat):rD (aD t) (dE q) p=true↔∀(i:Nat) (c:UInt8),q[i]?=some c->t[p+i]?=some c:=by
 rw [aF2];constructor
 · intro h i c hc;have:=h i (c.toNat+1) (by unfold dE;rw [zAf,hc];rfl);cases ht:t[p+i]? with
   | none=>
     exfalso;have hge:=List.getElem?_eq_none_iff.1 ht;rcases Nat.eq_or_lt_of_le hge with e | e
     · have:aN (aD t) (p+i)=0:=by
         rw [jS (x:=0)];rfl
         · unfold aD dE;rw [zAo (by simp;omega)];simp [e]
       omega
     have:aN (aD t) (p+i)=-1:=lR (by rw [aJ];omega);omega
   | some d=>
     rw [nS t ht] at this;have e:d.toNat=c.toNat:=oM;rw [UInt8.toNat_inj.1 e]
 intro h i s hs;unfold dE at hs;rw [zAf] at hs;obtain ⟨c,hc,rfl⟩:=Option.map_eq_some_iff.1 hs;exact nS t (h i c hc)
theorem aGV (t:List UInt8):aN (aD t) t.length=0:=by
 refine jS (x:=0) ?_;unfold aD dE;rw [zAo (by simp)];simp
end Go.Proofs.YtnhmjomhloainaaGreatDoor
namespace Go.Proofs.YtnhmjomhloainaaGreatDoor
open Go.RowKit Go.Shelf
theorem nZ:∀ {l m:List Nat},l.Nodup->(∀x∈l,x∈m)->l.length<=m.length
 | [],m,_,_=>zAp _
 | x::l,m,hn,hs=>by
   obtain ⟨h1,h2⟩:=List.nodup_cons.1 hn;have hxm:=hs x (by simp);have:=nZ (l:=l) (m:=m.erase x) h2 fun y hy=>by have hne:y≠x:=fun e=>h1 (by rw [<-e];exact hy);exact (List.mem_erase_of_ne hne).2 (hs y (by simp [hy]))
   have hl:=List.length_erase_of_mem hxm;have hp:=List.length_pos_of_mem hxm;rw [zCf];omega
theorem aC5 {l:List Nat} {f:Nat->Nat} (h:l.Pairwise (fun a b=>f a < f b)) (k:Nat) (hk:∀x∈l,f x≠f k):(aQ l (l.countP fun x=>decide (f x < f k)) k).Pairwise (fun a b=>f a < f b):=by
 unfold aQ;have hlt:=fun (j x:Nat) (hj:l[j]?=some x)=>aDi h (f k) j x hj;obtain ⟨c,hc⟩:∃c,(l.countP fun x=>decide (f x < f k))=c:=⟨_,rfl⟩;rw [hc] at hlt⊢;rw [List.pairwise_append];refine ⟨h.sublist (List.take_sublist c l),List.pairwise_cons.2 ⟨fun x hx=>?_,h.sublist (List.drop_sublist c l)⟩,fun x hx y hy=>?_⟩;obtain ⟨j,hj,rfl⟩:=List.getElem_of_mem hx;rw [zAw] at hj;rw [List.getElem_drop];have h1:=hlt (c+j) l[c+j] (zAa oM);have h2:=hk l[c+j] (zBj oM);omega;have hxk:f x < f k:=(by obtain ⟨j,hj,rfl⟩:=List.getElem_of_mem hx;rw [zAj] at hj;rw [List.getElem_take];exact (hlt j l[j] (zAa oM)).2 oM);rcases List.mem_cons.1 hy with rfl | hy;exact hxk;have:=List.pairwise_append.1 (show (l.take c++l.drop c).Pairwise (fun a b=>f a < f b) by rw [zAu];exact h);exact this.2.2 x hx y hy
theorem aBK (tk:List Bool) (x:Nat) (b:Bool):(tk++ [true])[x]?=some b↔tk[x]?=some b∨(x=tk.length/\b=true):=by
 by_cases c:x < tk.length;rw [zAn c];constructor;exact .inl;rintro (h |⟨h,_⟩);exact h;omega
 · rw [zAo oM,zBg (show tk.length<=x by omega)];by_cases c2:x=tk.length
   · subst c2;cases b <;> simp
   · rw [zBg (by simp;omega)];simp [c2]
def AF (ga:Nat) (vt vf:Value) (b:Nat):Prop:=b=ga∨vt.ownBlock=some b∨vf.ownBlock=some b
section
variable {w : World} {F : Nat -> Prop} {gp ga : Nat} {vl vo vt vf : Value} {R P : Nat} {ks : List Nat} {C : List (Nat × Nat)} {tk : List Bool} {fr : List Nat}
theorem PermX.arena (h:PermX w F gp ga vl vo vt vf R P ks C tk fr):ArenaE w (AF ga vt vf) ga tk fr:=by
 have a:=h.at_;obtain ⟨At,ct,e1,_⟩:=aR a.trow;obtain ⟨Af,cf,e2,_⟩:=aR a.frow;subst e1 e2;exact ⟨.inl rfl,At,ct,Af,cf,a.ar,bX a.trow (zAp _),bX a.frow (zAp _),fun b hb=>.inr (.inl hb),fun b hb=>.inr (.inr hb)⟩
theorem PermX.af (h:PermX w F gp ga vl vo vt vf R P ks C tk fr) {b:Nat} (hb:AF ga vt vf b):F b:=by
 rcases hb with rfl | hb | hb;exact h.fa;exact h.ft b hb;exact h.ff b hb
theorem PermX.af_lt (h:PermX w F gp ga vl vo vt vf R P ks C tk fr) {b:Nat} (hb:AF ga vt vf b):b < w.heap.size:=by
 rcases hb with rfl | hb | hb;exact h.at_.ar.lt;exact (h.at_.trow.lt b hb).2;exact (h.at_.frow.lt b hb).2
theorem PermX.gp_af (h:PermX w F gp ga vl vo vt vf R P ks C tk fr):¬AF ga vt vf gp:=by
 have a:=h.at_;rintro (e | e | e);exact Bk.ne a.blk a.ar dC e;obtain ⟨cs,hc⟩:=eL a.trow e;exact absurd (aM hc a.blk).1 dC;obtain ⟨cs,hc⟩:=eL a.frow e;exact absurd (aM hc a.blk).1 dC
theorem PermX.pair_af (h:PermX w F gp ga vl vo vt vf R P ks C tk fr) {b:Nat} {cs:Array Value} (hb:Bk w b 159 cs):¬AF ga vt vf b:=by
 have a:=h.at_;rintro (e | e | e);exact Bk.ne hb a.ar dC e;obtain ⟨cs',hc⟩:=eL a.trow e;exact absurd (aM hc hb).1 dC;obtain ⟨cs',hc⟩:=eL a.frow e;exact absurd (aM hc hb).1 dC
theorem PermX.ord_af (h:PermX w F gp ga vl vo vt vf R P ks C tk fr) {b:Nat} (hb:vo.ownBlock=some b):¬AF ga vt vf b:=by
 have a:=h.at_;obtain ⟨cs,hc⟩:=eL a.orow hb;rintro (e | e | e);exact Bk.ne hc a.ar dC e;obtain ⟨cs',hc'⟩:=eL a.trow e;exact absurd (aM hc hc').1 dC
 · rcases a.apart with f | f
   · rw [f] at hb;cases hb
   exact f (hb.trans e.symm)
end
def aBW (ga N:Nat) (vt vf:Value) (ks:List Nat) (w:World) (e:Ending) (w':World):Prop:=
 ∃(k:Nat) (tk:List Bool) (fr:List Nat),e=.returned (.tuple #[.int .i64 (k:Int),.int .i64 0])/\k∉ks/\ArenaE w' (Gw (AF ga vt vf) w.heap.size) ga tk fr/\((k < N/\tk.length=N)∨(k=N/\tk.length=N+1/\N<=ks.length))/\(∀x,tk[x]?=some true↔x∈ks∨x=k)/\fr.Nodup/\(∀x,x∈fr↔tk[x]?=some false)/\Keep (AF ga vt vf) w w'
theorem aAB (F:Nat->Prop) (gp ga R P:Nat) (vl vo vt vf:Value) (ks:List Nat) (C:List (Nat×Nat)) (tk:List Bool) (fr:List Nat) (w:World) (h:PermX w F gp ga vl vo vt vf R P ks C tk fr):
 Calls Tryz.prog 121 #[.pointer (some ⟨ga,0,none⟩)] w (aBW ga C.length vt vf ks w):=by
 have hA:=h.arena;have a:=h.at_;have hsz:=h.sz;have hfl:∀x∈fr,x < tk.length:=fun x hx=>(zAc.1 ((h.frk x).1 hx)).1;rcases List.eq_nil_or_concat fr with hf0 |⟨fr0,k,hfk⟩
 · subst hf0;obtain ⟨At,ct,e1,_⟩:=aR a.trow;obtain ⟨Af,cf,e2,_⟩:=aR a.frow;have har:=a.ar;have htr:=a.trow;rw [e1,e2] at har;rw [e1] at htr;have hT:=qI 0 ga At ct Af cf tk.length tk w har htr (zAp _) (by have:=h.tkl;omega);refine hT.mono ?_;rintro e w' ⟨rfl,hk,vt',hb',ho',hfr'⟩;have hn:tk.length∉ks:=fun hm=>by have:=(h.tkk _).2 hm;rw [zBg nL] at this;cases this
   obtain ⟨At',ct',e1',_⟩:=aR ho';have hkA:Keep (AF ga vt vf) w w':=hk.mono fun b _ f=>by rcases f with f | f;exact .inl f;exact .inr (.inl (by rw [e1];exact f))
   have hfo:w'.ownsRow 0 3 1 vf 0 []:=by
    have:=aB (w':=w') (bX a.frow (zAp _)) fun b cs _ hb=>hk.bk hb fun f=>by rcases f with f | f;exact Bk.ne hb a.ar dC f;obtain ⟨cs',hc'⟩:=eL htr f;exact absurd (aM hb hc').1 dC
    exact this
   rw [e2] at hfo;have hl1:(tk++ [true]).length=tk.length+1:=(by simp);have htl:=h.tkl;have hall:C.length<=ks.length:=by
    have h9:=nZ (l:=List.range C.length) (m:=ks) List.nodup_range fun x hx=>by
        rw [zCi,<-htl] at hx;cases hb:tk[x] with
        | true=>exact (h.tkk x).1 (by rw [zAa hx,hb])
        | false=>exact absurd ((h.frk x).2 (by rw [zAa hx,hb])) (by simp)
    simpa using h9
   refine ⟨tk.length,tk++ [true], [],rfl,hn,⟨.inl (.inl rfl),At',ct',Af,cf,?_,?_,hfo,?_,?_⟩,.inr ⟨htl,by rw [hl1,htl],hall⟩,fun x=>?_,List.nodup_nil,fun x=>?_,hkA⟩;rw [hl1,<-e1'];exact hb';rw [hl1,<-e1'];exact ho';intro b hb;rw [hl1,<-e1'] at hb;rcases hfr' with f |⟨g,f,f'⟩;rw [f] at hb;exact .inl (.inr (.inl (by rw [e1];exact hb)));rw [f] at hb;injection hb with hb;subst hb;exact .inr f';intro b hb;exact .inl (.inr (.inr (by rw [e2];exact hb)))
   · rw [<-h.tkk x,aBK];simp
   · rw [h.frk x,aBK];simp
 · have hfk':fr=fr0++ [k]:=(by simpa using hfk);subst hfk';have hk:=(h.frk k).1 (by simp);have hkl:=hfl k (by simp);have hnd:=h.frn;have hlen:(fr0++ [k]).length<=tk.length:=fZ hnd hfl;have hT:=sL (AF ga vt vf) ga k tk fr0 w hA hkl (by have:=h.tkl;omega) (by simp at hlen;omega);refine hT.mono ?_;rintro e w' ⟨rfl,hA',hk'⟩;have hnk:k∉ks:=fun hm=>by have:=(h.tkk k).2 hm;rw [hk] at this;cases this
   have hnd0:=List.nodup_append.1 hnd;have hget:∀x,(tk.set k true)[x]?=if x=k then some true else tk[x]?:=fun x=>by
    rw [zBm];by_cases c:k=x
    · subst c;simp [hkl]
    · rw [zBw c,zBw (fun e=>c e.symm)]
   refine ⟨k,tk.set k true,fr0,rfl,hnk,hA'.mono fun b _ f=>.inl f,.inl ⟨by rw [<-h.tkl];exact hkl,by rw [zAt,h.tkl]⟩,fun x=>?_,hnd0.1,fun x=>?_,hk'⟩
   · rw [hget,<-h.tkk x];by_cases c:x=k
     · simp [c]
     · simp [c]
   · rw [hget];by_cases c:x=k
     · subst c;rw [zBx rfl];constructor;intro hx;exact absurd rfl (hnd0.2.2 x hx x (by simp))
       · intro hx;cases hx
     · rw [zBw c,<-h.frk x];simp [c]
theorem PermX.stow {w w':World} {F:Nat->Prop} {gp ga R P k row pos i n0:Nat} {vl' vo':Value} {ks:List Nat} {C C9:List (Nat×Nat)} {tk:List Bool} {fr:List Nat} {AFF:Nat->Prop}
 (hks:∀x∈ks,x < C.length) (hnd:ks.Nodup) (hnk:k∉ks) (hk9:k < C9.length) (hC9:C.length<=C9.length) (hsz:C9.length<=1000) (htkl:tk.length=C9.length)
 (hget:∀x∈ks,(aC C9 x,aF C9 x)=(aC C x,aF C x)) (hs:ks.Pairwise (fun a b=>aC C a < aC C b)) (hi:i=ks.countP fun x=>decide (aC C x < row)) (hne:∀x∈ks,aC C x≠row)
 (hb:Bk w' gp 157 #[.pointer (some ⟨ga,0,none⟩),vl',vo',.int .i64 (R:Int),.int .i64 (P:Int)])
 (hl:w'.ownsRow 0 159 2 vl' C9.length (bO (C9.set k (row,pos)))) (ho:w'.ownsRow 0 3 1 vo' (ks.length+1) ((aQ ks i k).map sv))
 (ha:ArenaE w' AFF ga tk fr) (haf:∀b,AFF b->F b) (hga:F ga) (hgp:F gp) (hvl:OwnF F vl') (hvo:OwnF F vo') (hap:∀b,vo'.ownBlock=some b->¬AFF b)
 (htk:∀x,tk[x]?=some true↔x∈ks∨x=k) (hfn:fr.Nodup) (hfk:∀x,x∈fr↔tk[x]?=some false):
 ∃vt vf,PermX w' F gp ga vl' vo' vt vf R P (aQ ks i k) (C9.set k (row,pos)) tk fr/\((aQ ks i k).map fun x=>(aC (C9.set k (row,pos)) x,aF (C9.set k (row,pos)) x))=aQ (ks.map fun x=>(aC C x,aF C x)) i (row,pos)/\(aQ ks i k).Pairwise (fun a b=>aC (C9.set k (row,pos)) a < aC (C9.set k (row,pos)) b):=by
 obtain ⟨hAg,At,ct,Af,cf,h1,h2,h3,h4,h5⟩:=ha;have hile:i<=ks.length:=by rw [hi];exact zBh
 have hg:∀x,(aC (C9.set k (row,pos)) x,aF (C9.set k (row,pos)) x)=if x=k then (row,pos) else (aC C9 x,aF C9 x):=fun x=>by
  unfold aC aF;rw [zAb,zBm];by_cases cx:k=x;subst cx;rw [zBx rfl,zBx rfl,zBx hk9];rfl
  · rw [zBw cx,zBw (fun e=>cx e.symm),zAb]
 have hgk:∀x∈ks,(aC (C9.set k (row,pos)) x,aF (C9.set k (row,pos)) x)=(aC C x,aF C x):=fun x hx=>by rw [hg,zBw (fun e=>hnk (by rw [<-e];exact hx)),hget x hx]
 have hkk:=hg k;rw [zBx rfl] at hkk;have hperm:(aQ ks i k).Perm (k::ks):=fG _ _ _;have hmem:∀x,x∈aQ ks i k↔x=k∨x∈ks:=fun x=>by rw [hperm.mem_iff,List.mem_cons]
 refine ⟨_,_,⟨⟨hb,by rw [zAt];exact hl,by rw [eQ _ _ hile];exact ho,h1,h2,h3,?_,fun x hx=>?_,⟨zAp _,zAp _⟩⟩,hgp,hga,hvl,hvo,fun b hb'=>haf b (h4 b hb'),fun b hb'=>haf b (h5 b hb'),hperm.nodup_iff.2 (List.nodup_cons.2 ⟨hnk,hnd⟩),by rw [zAt];exact htkl,fun x=>by rw [htk x,hmem x];exact Or.comm,hfn,hfk,by rw [zAt];exact hsz⟩,?_,?_⟩
 · cases hvb:vo'.ownBlock with
   | none=>exact .inl rfl
   | some b=>exact .inr fun e=>hap b hvb (h5 b e.symm)
 rw [zAt];rcases (hmem x).1 hx with rfl | hx;exact hk9;exact zAl (hks x hx) hC9;rw [pU,hkk];congr 1;exact List.map_congr_left fun x hx=>hgk x hx
 · have hrow:∀x∈ks,aC (C9.set k (row,pos)) x=aC C x:=fun x hx=>(Prod.mk.inj (hgk x hx)).1;have hrk:aC (C9.set k (row,pos)) k=row:=(Prod.mk.inj hkk).1;have hs':ks.Pairwise (fun a b=>aC (C9.set k (row,pos)) a < aC (C9.set k (row,pos)) b):=(by refine List.Pairwise.imp_of_mem (fun {a b} ha hb hab=>?_) hs;rw [hrow a ha,hrow b hb];exact hab);have:=aC5 (f:=aC (C9.set k (row,pos))) hs' k fun x hx=>by rw [hrow x hx,hrk];exact hne x hx
   have he:(ks.countP fun x=>decide (aC (C9.set k (row,pos)) x < aC (C9.set k (row,pos)) k))=i:=(by rw [hi,hrk];refine List.countP_congr fun x hx=>?_;rw [hrow x hx]);rw [he] at this;exact this
def uK (w:World) (gp:Nat):Nat:=match w.cell? ⟨gp,1,none⟩ with
 | some (.slice _ n _)=>n
 | _=>0
structure AddL (F:Nat->Prop) (gp ga R P k:Nat) (vo:Value) (ks:List Nat) (C:List (Nat×Nat)) (tk:List Bool) (fr9:List Nat) (AFF:Nat->Prop) (n3:Nat) (w2 wr:World) (A9:Option Addr) (M c9:Nat) (C9:List (Nat×Nat)):Prop where
 blk:Bk wr gp 157 #[.pointer (some ⟨ga,0,none⟩),.slice A9 M c9,vo,.int .i64 (R:Int),.int .i64 (P:Int)]
 own:wr.ownsRow 0 159 2 (.slice A9 M c9) M (bO C9)
 len:C9.length=M
 lo:C.length<=M
 hi:M<=max C.length (k+1)
 get:∀x∈ks,(aC C9 x,aF C9 x)=(aC C x,aF C x)
 ord:wr.ownsRow 0 3 1 vo ks.length (ks.map sv)
 ar:ArenaE wr AFF ga tk fr9
 keep:Keep F w2 wr
 fl:OwnF (Gw F w2.heap.size) (.slice A9 M c9)
 k3:n3<=wr.heap.size
theorem aAK (F:Nat->Prop) (gp R P row pos:Nat) (pr:List (Nat×Nat)) (w:World) (h:PermE w F gp R P pr) (hrow:row < R) (hpos:pos < P) (hnr:∀x∈pr,x.1≠row) (hnp:∀x∈pr,x.2≠pos) (hlen:pr.length<=900):
 Calls Tryz.prog 53 #[.pointer (some ⟨gp,0,none⟩),.int .i64 (row:Int),.int .i64 (pos:Int)] w fun e w'=>e=.returned (.int .i64 0)/\(∃pr',pr'.Perm ((row,pos)::pr)/\PermE w' (Gw F w.heap.size) gp R P pr')/\Keep F w w':=by
 obtain ⟨⟨ga,vl,vo,vt,vf,ks,C,tk,fr,hx,rfl⟩,hsort,hbd⟩:=h;obtain ⟨i0,hi0,hz0,hz1,hz2⟩:=info_parts rE;have a:=hx.at_;have hs0:=List.pairwise_map.1 hsort;have hs:ks.Pairwise (fun a b=>aC C a < aC C b):=hs0;have hnr':∀k∈ks,aC C k≠row:=fun k hk=>hnr _ (zAy.2 ⟨k,hk,rfl⟩);have hnp':∀k∈ks,aF C k≠pos:=fun k hk=>hnp _ (zAy.2 ⟨k,hk,rfl⟩);have hbd':∀k∈ks,aC C k < R/\aF C k < P:=fun k hk=>hbd _ (zAy.2 ⟨k,hk,rfl⟩);have hkl:ks.length<=900:=by simpa using hlen
 obtain ⟨i,hi⟩:∃i,(ks.countP fun k=>decide (aC C k < row))=i:=⟨_,rfl⟩;have hile:i<=ks.length:=by rw [<-hi];exact zBh
 have hfnd:decide (∃k∈ks,aC C k=row)=false:=by rw [decide_eq_false_iff_not];rintro ⟨k,hk,e⟩;exact hnr' k hk e
 have hhas:iL (fun k=>decide (aF C k=pos)) ks 0=-1:=jP (fun k hk=>by simpa using hnp' k hk) 0;have hat:=jH 0 gp ga vl vo vt vf R P ks C tk fr row w a hs oM;rw [hi,hfnd] at hat;have hhs:=fun W hW=>iJ 0 gp ga vl vo vt vf R P ks C tk fr pos W hW oM;simp only [hhas] at hhs;have c3:w.cell? ⟨gp,3,none⟩=some (.int .i64 (R:Int)):=(a.blk.cell 3).trans rfl;have c4:w.cell? ⟨gp,4,none⟩=some (.int .i64 (P:Int)):=(a.blk.cell 4).trans rfl;obtain ⟨n,hn⟩:=eqx ks.length;obtain ⟨N,hN⟩:∃n,C.length=n:=⟨_,rfl⟩;have hn9:n<=900:=oM;have hN9:N<=1000:=by rw [<-hN];exact hx.sz
 obtain ⟨Hhs,HX,Hs,Hnr,Hbd,Hi,Hn,HN⟩:=hqq8 hhs hx hs hnr' hbd' hi hn hN;rw [hn] at hile;clear hs0 hfnd hhas hhs hsort hbd hnr hnp hnr' hnp' hbd' hx a hs hi hlen hkl hn hN;go_enter Tryz.func53,Tryz.ntmps53;go_wp2_with fail;refine hat.mono ?_;clear hat;rintro e w1 ⟨rfl,hb1⟩;have h1:=HX.out.at_.below hb1;obtain ⟨H1,Hb1⟩:=hqq2 h1 hb1;clear h1 hb1 c3 c4;go_wp2_with fail;refine (Hhs.out w1 H1.out).mono ?_;rintro e w2 ⟨rfl,hb2⟩;have hb12:=Hb1.out.trans (hb2.mono Hb1.out.size);have hx2:PermX w2 F gp ga vl vo vt vf R P ks C tk fr:= { HX.out with at_:=H1.out.below hb2 };have c0:w2.cell? ⟨gp,0,none⟩=some (.pointer (some ⟨ga,0,none⟩)):=(hx2.at_.blk.cell 0).trans rfl;obtain ⟨H2,Hb2⟩:=hqq2 hx2 hb12;clear hx2 hb12 hb2 H1 Hb1 Hhs HX;go_wp2_with fail;have hT:=aAB F gp ga R P vl vo vt vf ks C tk fr w2 H2.out;unfold aBW at hT;refine hT.mono ?_;clear hT;rintro e w3 ⟨k,tk3,fr3,rfl,hnk,hA3,hcase,htk3,hfn3,hfk3,hk3⟩;have hgp3:=hk3.bk H2.out.at_.blk H2.out.gp_af;have hvl3:=aB (w':=w3) H2.out.at_.lrow fun b cs _ hb=>hk3.bk hb (H2.out.pair_af hb);have hvo3:=aB (w':=w3) H2.out.at_.orow fun b cs hb hk=>hk3.bk hk (H2.out.ord_af hb);obtain ⟨Al,cl,hvl,_⟩:=aR hvl3;obtain ⟨Ao,co,hvo,_⟩:=aR hvo3;have hvl':vl=.slice Al N cl:=by rw [hvl,HN.out]
 have hvo':vo=.slice Ao n co:=by rw [hvo,Hn.out]
 rw [HN.out] at hvl3;rw [Hn.out] at hvo3;have d1:w3.cell? ⟨gp,1,none⟩=some (.slice Al N cl):=(hgp3.cell 1).trans (by rw [hvl'];rfl);have fp:=hgp3.frozen 1;have hgp3l:=hgp3.lt;have hkN:k<=N:=by have:=HN.out;omega
 have hkF3:Keep F w2 w3:=hk3.mono fun b _ f=>H2.out.af f;obtain ⟨Hk3,HkF3⟩:=hqq2 hk3 hkF3;have HA3:=lhd (hA3.mono (G:=fun b=>Gw (AF ga vt vf) w2.heap.size b/\b < w3.heap.size) fun b hb f=>⟨f,hb⟩);obtain ⟨Hcase,Hgp3,Hvl3,Hvo3,Hvl,Hvo,Hnk,Htk3,Hfn3⟩:=hqq9 hcase hgp3 hvl3 hvo3 hvl' hvo' hnk htk3 hfn3;have Hfk3:=lhd hfk3;have e1:=(World.cell?_alloc_lt w3 (Obj.cells #[.int .i64 0,.int .i64 0] 159) ⟨gp,1,none⟩ hgp3l).trans d1;clear hk3 hkF3 hA3 hcase hgp3 hvl3 hvo3 hvl hvo hvl' hvo' hnk htk3 hfn3 hfk3 c0;have hinit:AddL F gp ga R P k vo ks C tk3 fr3 (fun b=>Gw (AF ga vt vf) w2.heap.size b/\b < w3.heap.size) w3.heap.size w2 w3 Al N cl C:=
  ⟨by have:=Hgp3.out;rwa [Hvl.out] at this,by have:=Hvl3.out;rwa [Hvl.out] at this,HN.out,by rw [HN.out];exact zAs _,by have:=HN.out;omega,fun x _=>rfl,by rw [Hn.out];exact Hvo3.out,HA3.out,HkF3.out,fun b hb=>.inl (H2.out.fl b (by rw [Hvl.out];exact hb)),zAs _⟩
 have Hinit:=lhd hinit;clear hinit d1 fp e1;go_wp2_with fail;go_loopw [] (fun wr=>∃A9 M c9 C9,AddL F gp ga R P k vo ks C tk3 fr3 (fun b=>Gw (AF ga vt vf) w2.heap.size b/\b < w3.heap.size) w3.heap.size w2 wr A9 M c9 C9) (fun wr=>k+1 - uK wr gp)
 case atStart=>exact ⟨_,_,_,_,Hinit.out⟩
 case round=>
  obtain ⟨A9,M,c9,C9,hL⟩:=hrel;clear Hinit Hgp3 Hvl3 Hvo3 HA3 HkF3 Hk3;have d1:wr.cell? ⟨gp,1,none⟩=some (.slice A9 M c9):=(hL.blk.cell 1).trans rfl;have fp:=hL.blk.frozen 1;have hgpl:=hL.blk.lt;have hM:=hL.len;have hM1:=hL.lo;have hM2:=hL.hi;rw [HN.out] at hM1 hM2;by_cases hlt:M<=k
  · have hltB:decide (M<=k)=true:=zBz hlt;have hltI:(M:Int)<=(k:Int):=oM;obtain rfl:M=N:=oM;have e1:=(World.cell?_alloc_lt wr (Obj.cells #[.int .i64 0,.int .i64 0] 159) ⟨gp,1,none⟩ hgpl).trans d1;have hrl:uK wr gp=M:=(by unfold uK;rw [d1]);obtain ⟨HL,Hrl⟩:=hqq2 hL hrl;clear hL hrl;go_wp2_with (at_builtin;refine aY _ rfl (.tmp 72) (.tmp 74) _ rfl 0 159 i0 (.agg #[.int .i64 0,.int .i64 0]) 2 16 Tryz.underlying130 hi0 hz0 hz1 hz2 rfl dC (.slice A9 M c9) M _ rfl HL.out.own rfl rfl (by simp [Value.oneCell']) (by unfold maxLen;omega) oM (zAp _) ?_;intro v5 w5 hown5 hg5 hs5 hat5;have hbk5:=HL.out.blk.grown hg5 (aZ HL.out.own HL.out.blk dC);have d5:w5.cell? ⟨gp,1,none⟩=some (.slice A9 M c9):=(hbk5.cell 1).trans rfl;have f5:=hbk5.frozen 1;obtain ⟨A8,c8,rfl,hm8⟩:=aS hown5;obtain ⟨Hbk5,Hown5,Hg5,Hat5⟩:=hqq4 hbk5 hown5 hg5 hat5;clear hm8 hown5 hg5 hat5 hbk5);have hkA:Keep (fun b=>(Value.slice A9 M c9).ownBlock=some b) wr w5:=⟨Hg5.out.os,Hg5.out.tape,Hg5.out.output,Hg5.out.size,fun b hb hne=>Hg5.out.block b hb fun e=>hne e.symm⟩
    have hL':AddL F gp ga R P k vo ks C tk3 fr3 (fun b=>Gw (AF ga vt vf) w2.heap.size b/\b < w3.heap.size) w3.heap.size w2 (w5.setCell ⟨gp,1,none⟩ (.slice A8 (M+1) c8)) A8 (M+1) c8 (C9++ [(0,0)]):=by
        have L:=HL.out;have hfar:∀b t cs,t≠157->Bk w5 b t cs->Bk (w5.setCell ⟨gp,1,none⟩ (.slice A8 (M+1) c8)) b t cs:=fun b t cs ht hb=>hb.far (p:=⟨gp,1,none⟩) (Bk.ne hb Hbk5.out ht) _;have hpa:∀b,(Value.slice A9 M c9).ownBlock=some b->Gw F w2.heap.size b:=fun b hb=>L.fl b hb;have hne:∀b t cs,t≠159->Bk wr b t cs->¬((Value.slice A9 M c9).ownBlock=some b):=fun b t cs ht hb e=>by obtain ⟨cs',hc⟩:=eL L.own e;exact ht (aM hb hc).1
        refine ⟨Hbk5.out.set 1 _,?_,by rw [zAi,L.len];rfl,by have:=L.lo;omega,by omega,fun x hx=>?_,?_,?_,?_,?_,?_⟩;rw [jM];exact aB Hown5.out fun b cs _ hb=>hfar _ _ _ dC hb
        · rw [<-L.get x hx];have hxl:=H2.out.at_.lt x hx;unfold aC aF;rw [zAb,zAb,zAn (by have:=L.lo;have:=L.len;omega)]
        exact aB L.ord fun b cs _ hb=>hfar _ _ _ dC (hkA.bk hb (hne _ _ _ dC hb));refine (L.ar.keep hkA fun b t cs ht hb _=>hne b t cs (fun e=>by subst e;revert ht;decide) hb).keep (G:=fun b=>b=gp) (Keep.setCell (F:=fun b=>b=gp) (Keep.refl _ _) (p:=⟨gp,1,none⟩) (.inl rfl) _) fun b t cs ht hb _ e=>?_;have e':b=gp:=e;subst e';rw [(aM hb Hbk5.out).1] at ht;revert ht;decide;refine Keep.setCell (F:=F) (L.keep.trans' hkA fun b hb f=>?_) (p:=⟨gp,1,none⟩) (.inl H2.out.fp) _;rcases L.fl b f with g | g;exact g;omega;intro b hb;rcases Hat5.out with e | e;rw [e] at hb;exact L.fl b hb;rw [e] at hb;injection hb with hb;subst hb;exact .inr (by have:=L.keep.size;omega);have h1:=L.k3;have h2:=hkA.size;have h3:(w5.setCell ⟨gp,1,none⟩ (.slice A8 (M+1) c8)).heap.size=w5.heap.size:=(by simp [World.setCell]);omega
    have hrl':uK (w5.setCell ⟨gp,1,none⟩ (.slice A8 (M+1) c8)) gp=M+1:=(by have d9:(w5.setCell ⟨gp,1,none⟩ (.slice A8 (M+1) c8)).cell? ⟨gp,1,none⟩=some (.slice A8 (M+1) c8):=(hL'.blk.cell 1).trans rfl;unfold uK;rw [d9]);obtain ⟨HL',Hrl'⟩:=hqq2 hL' hrl';clear hL' hrl' hkA Hbk5 Hown5 Hg5 Hat5 HL;go_roundw
    case rel=>exact ⟨_,_,_,_,HL'.out⟩
    case measure=>rw [Hrl.out,Hrl'.out];omega
  · have hltB:decide (M<=k)=false:=zBy hlt;have hltI:¬(M:Int)<=(k:Int):=oM;have hkM:k < M:=oM;have hkMI:(k:Int) < (M:Int):=oM;obtain ⟨g9,k9,hs9,_,hg9⟩:=World.ownsRow.form hL.own oM;injection hs9 with hs9 _ hs9c;subst hs9 hs9c;obtain ⟨cur9,hb9⟩:=eY hL.own;have hgpn:gp≠g9:=Bk.ne hL.blk hb9 dC;have y0:=hb9.frozen (k*2);have y1:=hb9.frozen (k*2+1);obtain ⟨p0,p1⟩:=cD C9 k (by rw [hM];exact hkM);have x0:=(World.ownsRow.cellAt hL.own (k*2) oM).trans p0;have x1:=(World.ownsRow.cellAt hL.own (k*2+1) oM).trans p1;generalize aC C9 k=u0 at x0 p0;generalize aF C9 k=u1 at x1 p1;obtain ⟨Ao,co,hvo,_⟩:=aR hL.ord;rw [Hn.out] at hvo;have d2:wr.cell? ⟨gp,2,none⟩=some (.slice Ao n co):=(hL.blk.cell 2).trans (by rw [hvo];rfl);obtain ⟨HL,Hb9,Hvo2⟩:=hqq3 hL hb9 hvo;clear hL hb9 hvo p0 p1;go_wp2_with fail;have hvl7:((wr.setCell ⟨g9,k*2,none⟩ (.int .i64 (row:Int))).setCell ⟨g9,k*2+1,none⟩ (.int .i64 (pos:Int))).ownsRow 0 159 2 (.slice (some ⟨g9,0,none⟩) M c9) M (bO (C9.set k (row,pos))):=(by have s1:=(World.ownsRow.stored HL.out.own (k*2) (.int .i64 (row:Int))).1;rw [jN C9 k row (by rw [HL.out.len];exact hkM)] at s1;have s2:=(World.ownsRow.stored s1 (k*2+1) (.int .i64 (pos:Int))).1;rw [mB _ k pos (by rw [zAt,HL.out.len];exact hkM)] at s2;rw [List.set_set] at s2;have e9:aC (C9.set k (row,aF C9 k)) k=row:=(by unfold aC;rw [zAb,List.getElem?_set_self (by rw [HL.out.len];exact hkM)];rfl);rw [e9] at s2;exact s2);have hkk:Keep (fun b=>b=g9) wr ((wr.setCell ⟨g9,k*2,none⟩ (.int .i64 (row:Int))).setCell ⟨g9,k*2+1,none⟩ (.int .i64 (pos:Int))):=((Keep.refl (fun b=>b=g9) wr).setCell (p:=⟨g9,k*2,none⟩) (.inl rfl) _).setCell (p:=⟨g9,k*2+1,none⟩) (.inl rfl) _;have hsz7:((wr.setCell ⟨g9,k*2,none⟩ (.int .i64 (row:Int))).setCell ⟨g9,k*2+1,none⟩ (.int .i64 (pos:Int))).heap.size=wr.heap.size:=(by simp [World.setCell]);rw [<-hsz7];clear x0 x1 y0 y1 d1 d2 fp;generalize (wr.setCell ⟨g9,k*2,none⟩ (.int .i64 (row:Int))).setCell ⟨g9,k*2+1,none⟩ (.int .i64 (pos:Int))=w7 at hvl7 hkk hsz7⊢;have hn9':∀b t cs,t≠159->Bk wr b t cs->¬(b=g9):=fun b t cs ht hb e=>by subst e;exact ht (aM hb Hb9.out).1
    have hgp7:=hkk.bk HL.out.blk (hn9' _ _ _ dC HL.out.blk);have hvo7:=aB (w':=w7) HL.out.ord fun b cs _ hb=>hkk.bk hb (hn9' _ _ _ dC hb);have har7:=HL.out.ar.keep hkk fun b t cs ht hb _=>hn9' b t cs (fun e=>by subst e;revert ht;decide) hb;have hkF7:Keep F w2 w7:=HL.out.keep.trans' hkk fun b hb f=>by have f':b=g9:=f;rcases HL.out.fl b (by rw [f'];rfl) with g | g;exact g;omega
    have hb78:Below w7.heap.size w7 (w7.alloc (.cells #[.int .i64 (k:Int)] 3)):=bR.alloc nL _;have hgx8:=Bk.new w7 3 #[.int .i64 (k:Int)];have hvo8:=aV hvo7 hb78;have hvl8:=aV hvl7 hb78;have hgp8:=hgp7.below hb78 hgp7.lt;have har8:=har7.keep (G:=fun _=>False) (Keep.of_below hb78) fun _ _ _ _ _ _ f=>f;have hkF8:Keep F w2 (w7.alloc (.cells #[.int .i64 (k:Int)] 3)):=hkF7.alloc _;obtain ⟨g7,hg7⟩:∃g,w7.heap.size=g:=⟨_,rfl⟩;rw [hg7] at hgx8;rw [hg7];have hvolt:∀b,vo.ownBlock=some b->b < w7.heap.size:=fun b hb=>(hvo7.lt b hb).2;rw [Hn.out,Hvo2.out] at hvo8;have hw78:wr.heap.size<=(w7.alloc (.cells #[.int .i64 (k:Int)] 3)).heap.size:=(by simp;omega);have Hw78:=lhd hw78;clear hw78;generalize w7.alloc (.cells #[.int .i64 (k:Int)] 3)=w8 at Hw78 hgx8 hvo8 hvl8 hgp8 har8 hkF8⊢;have hins:=yC 0 Ao n co i ks g7 k w8 hvo8 hgx8 (fun b hb e=>by have:=hvolt b (by rw [Hvo2.out];exact hb);omega) (zAp _) hile oM;unfold qS at hins;refine hins.mono ?_;clear hins;rintro e w9 ⟨A',c',rfl,hown9,hk9,hat9⟩;rw [<-Hvo2.out] at hk9 hat9 hvo8;have hv9:∀b t cs,t≠3->Bk w8 b t cs->¬(vo.ownBlock=some b):=fun b t cs ht hb e=>by obtain ⟨cs',hc⟩:=eL hvo8 e;exact ht (aM hb hc).1
    have hgp9:=hk9.bk hgp8 (hv9 _ _ _ dC hgp8);have hvl9:=aB (w':=w9) hvl8 fun b cs _ hb=>hk9.bk hb (hv9 _ _ _ dC hb);have hvoaf:∀b,vo.ownBlock=some b->¬(Gw (AF ga vt vf) w2.heap.size b/\b < w3.heap.size):=fun b hb f=>by rcases f.1 with f | f;exact H2.out.ord_af hb f;have:=(H2.out.at_.orow.lt b hb).2;omega
    have har9:=har8.keep hk9 fun b t cs _ _ f e=>hvoaf b e f;have hkF9:Keep F w2 w9:=hkF8.trans' hk9 fun b _ f=>H2.out.fo b f;have d2:w9.cell? ⟨gp,2,none⟩=some vo:=(hgp9.cell 2).trans rfl;rw [Hvo2.out] at d2;have f2:=hgp9.frozen 2;have hgp9l:=hgp9.lt;obtain ⟨Hgp9,Hvl9,Har9,HkF9,Hown9,Hat9,Hk8⟩:=hqq7 hgp9 hvl9 har9 hkF9 hown9 hat9 hkF8;clear hgp9 hvl9 har9 hkF9 hown9 hat9 hkF8 hk9 hvo8 hvl8 hgp8 har8 hgx8 hb78 hkF7 har7 hvo7 hgp7 hkk hvl7 hsz7 hg7 hvolt hv9 hn9';go_wp2_with fail;go_ret;have hset:Keep (fun b=>b=gp) w9 (w9.setCell ⟨gp,2,none⟩ (.slice A' (n+1) c')):=Keep.setCell (F:=fun b=>b=gp) (Keep.refl _ _) (p:=⟨gp,2,none⟩) (.inl rfl) _;have hfar:∀b t cs,t≠157->Bk w9 b t cs->¬(b=gp):=fun b t cs ht hb e=>by subst e;exact ht (aM hb Hgp9.out).1
    have hs2:=Hb2.out.size;have hw28:=Hk8.out.size;have hw78:=Hw78.out;have hM9:M<=1000:=(by rcases Hcase.out with c | c;have:=HN.out;omega;have:=HN.out;have:=Hn.out;omega);have hmono:∀b,Gw F w2.heap.size b->Gw F w.heap.size b:=fun b f=>by rcases f with f | f;exact .inl f;exact .inr oM
    have L:=HL.out
    obtain ⟨vt',vf',hX,hpr,hsr⟩:=PermX.stow (w:=w) (w':=w9.setCell ⟨gp,2,none⟩ (.slice A' (n+1) c')) (F:=Gw F w.heap.size) (gp:=gp) (ga:=ga) (R:=R) (P:=P) (k:=k) (row:=row) (pos:=pos) (i:=i) (n0:=0) (vl':=.slice (some ⟨g9,0,none⟩) M c9) (vo':=.slice A' (n+1) c') (ks:=ks) (C:=C) (C9:=C9) (tk:=tk3) (fr:=fr3) (AFF:=fun b=>Gw (AF ga vt vf) w2.heap.size b/\b < w3.heap.size)
        H2.out.at_.lt H2.out.nd Hnk.out (by rw [L.len];exact hkM) (by rw [L.len];exact L.lo) (by rw [L.len];exact hM9) (by
         rw [L.len];rcases Hcase.out with c | c;have:=L.lo;have:=L.hi;omega
         · have:=L.lo;have:=L.hi;omega) L.get Hs.out Hi.out.symm Hnr.out (Hgp9.out.set 2 _)
        (by rw [L.len];exact aB Hvl9.out fun b cs _ hb=>hset.bk hb (hfar _ _ _ dC hb))
        (by rw [Hn.out];exact aB Hown9.out fun b cs _ hb=>hset.bk hb (hfar _ _ _ dC hb))
        (Har9.out.keep hset fun b t cs ht hb _=>hfar b t cs (fun e=>by subst e;revert ht;decide) hb)
        (fun b f=>by
         rcases f.1 with g | g;exact .inl (H2.out.af g)
         · exact .inr oM)
        (.inl H2.out.fa) (.inl H2.out.fp) (fun b hb=>hmono b (L.fl b hb))
        (fun b hb=>by
         rcases Hat9.out with e |⟨g,e,e'⟩;exact .inl (H2.out.fo b (by rw [<-e];exact hb))
         · rw [e] at hb;injection hb with hb;subst hb;exact .inr oM)
        (fun b hb f=>by
         rcases Hat9.out with e |⟨g,e,e'⟩;exact hvoaf b (by rw [<-e];exact hb) f
         · rw [e] at hb;injection hb with hb;subst hb;have h1:=f.2;have h2:=L.k3;omega)
        Htk3.out Hfn3.out Hfk3.out
    refine ⟨rfl,⟨_,?_,⟨ga,_,_,vt',vf',_,_,tk3,fr3,hX,rfl⟩,List.pairwise_map.2 hsr,fun x hx=>?_⟩,(Keep.of_below Hb2.out).trans (Keep.setCell (F:=F) HkF9.out (p:=⟨gp,2,none⟩) (.inl H2.out.fp) _)⟩;rw [hpr];exact fG _ _ _;rw [hpr] at hx;rcases List.mem_cons.1 ((fG _ _ _).subset hx) with rfl | hx;exact ⟨hrow,hpos⟩;obtain ⟨y,hy,rfl⟩:=zAy.1 hx;exact Hbd.out y hy
theorem PermE.inj {w:World} {F:Nat->Prop} {gp R P:Nat} {pr:List (Nat×Nat)} (h:PermE w F gp R P pr) {x y:Nat×Nat} (hx:x∈pr) (hy:y∈pr) (e:x.1=y.1):x=y:=by
 obtain ⟨i,hi,rfl⟩:=List.getElem_of_mem hx;obtain ⟨j,hj,rfl⟩:=List.getElem_of_mem hy;rcases Nat.lt_trichotomy i j with h1 | h1 | h1;have:=zAr.1 h.2.1 i j hi hj h1;omega;subst h1;rfl;have:=zAr.1 h.2.1 j i hj hi h1;omega
end Go.Proofs.YtnhmjomhloainaaGreatDoor
