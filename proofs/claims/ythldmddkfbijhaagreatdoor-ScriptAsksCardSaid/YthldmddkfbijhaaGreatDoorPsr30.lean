/- Lemmas of the walk. Conditions: each its own. -/
import Derived.Test.YthldmddkfbijhaaGreatDoorPsr21
import Derived.Test.YthldmddkfbijhaaGreatDoorProg
import Derived.Test.YthldmddkfbijhaaGreatDoorShl
import Derived.Test.YthldmddkfbijhaaGreatDoorSht
import Derived.Test.YthldmddkfbijhaaGreatDoorShi
set_option linter.all false
set_option maxRecDepth 100000
set_option maxHeartbeats 4000000
namespace Go.Proofs.YthldmddkfbijhaaGreatDoor
section
open Go.RowKit
def nU (L:List Nat) (n k:Nat):Array Value:=((L.take k).map sv++List.replicate (n - k) (Value.int .i64 0)).toArray
theorem aEF (L:List Nat) (n:Nat):nU L n 0=Array.replicate n (Value.int .i64 0):=by
 unfold nU;apply Array.ext';simp
theorem aGB (L:List Nat) (n:Nat) (h:L.length=n):nU L n n=(L.map sv).toArray:=by
 unfold nU;rw [zAg oM,Nat.sub_self];simp
theorem aEG (L:List Nat) (n k:Nat) (h:L.length=n) (hk:k<=n):(nU L n k).size=n:=by
 unfold nU;simp;omega
theorem aGA {L:List Nat} {n k s:Nat} (h:L.length=n) (hs:L[k]?=some s):(nU L n k).setIfInBounds k (.int .i64 (s:Int))=nU L n (k+1):=by
 have hk:=(zAc.1 hs).1;apply Array.ext';unfold nU;rw [Array.toList_setIfInBounds,zAv,hs];have e:n - k=(n -(k+1))+1:=oM;rw [e,List.replicate_succ];have hl:((L.take k).map sv).length=k:=by rw [zBc,zAj];omega
 show List.set ((L.take k).map sv++(Value.int .i64 0::List.replicate (n -(k+1)) (Value.int .i64 0))) k _=_;rw [List.set_append_right _ _ oM,hl,Nat.sub_self,zAz,zCo];rfl
theorem aEv {w:World} {B g n:Nat} {e:TypeId} {xs:List Value} (h:Bk w g e xs.toArray) (hB:B<=g) (hn:xs.length=n) (hm:n<=maxLen):Made w B e 1 (some ⟨g,0,none⟩) n n xs:=by
 have hown:w.ownsRow B e 1 (.slice (some ⟨g,0,none⟩) n n) n xs:=⟨by omega,.inr ⟨g,n,xs.toArray,rfl,hB,h,zAs _,hm,by simp [hn],by rw [zBl,zAg (by simp [hn])]⟩⟩;exact ⟨hown,Rd.of_own hown,zAs _,hm⟩
def jG (w:World) (B:Nat) (L:List Nat) (e:Ending) (w':World):Prop:=∃A c,e=.returned (.slice A L.length c)/\Made w' w.heap.size 3 1 A L.length c (L.map sv)/\VB B w w'
theorem aC9 (B gv:Nat) (L:List Nat) (w:World) (h:WaveAt w B gv L) (hL:∀x∈L,x < 257) (hn:L.length<=1000):
 Calls Tryz.prog 124 #[gv] w (jG w B L):=by
 have hwA:=h;obtain ⟨hBg,S,v,hb,hrows⟩:=h;obtain ⟨n,hnn⟩:=eqx L.length;rw [hnn] at hb;have c9:w.cell? ⟨gv,9,none⟩=some (.int .i64 (n:Int)):=(hb.cell 9).trans (bI S n v).2.2.2.2.2.2.2.2.2.1;have c10:w.cell? ⟨gv,10,none⟩=some (.int .i64 v):=(hb.cell 10).trans (bI S n v).2.2.2.2.2.2.2.2.2.2;have hlt:=hb.lt;have hmk:=nO n oM;obtain ⟨HwA,Hb,HL,HN,Hn⟩:=hqq5 hwA hb hL hnn hn;rw [hnn] at hn;clear hwA hb hL hnn hrows;unfold jG;go_enter Tryz.func124,Tryz.ntmps124;go_wp2_with fail;have hbk0:Bk (w.alloc (.cells (Array.replicate n (.int .i64 0)) 3)) w.heap.size 3 (nU L n 0):=by rw [aEF];exact Bk.new _ _ _
 have hv0:VB B w (w.alloc (.cells (Array.replicate n (.int .i64 0)) 3)):=vR.alloc _;go_loopw [19] (fun i wr=>∃k:Nat,k<=n/\i=.int .i64 (k:Int)/\Bk wr w.heap.size 3 (nU L n k)/\VB B w wr) (fun i _=>n -(intOf i).toNat)
 case atStart=>exact ⟨0,zAp _,rfl,hbk0,hv0⟩
 case round=>
  obtain ⟨k,hk,rfl,hbk,hv⟩:=hrel;clear hbk0 hv0 hmk c9 c10;have hsz:=hv.1.size;obtain ⟨Hbk,Hv⟩:=hqq2 hbk hv;clear hbk hv;by_cases hlt2:k < n
  · obtain ⟨s,hs⟩:∃s,L[k]?=some s:=⟨_,zAa (by rw [HN.out];exact hlt2)⟩;have Hs:=lhd hs;clear hs;go_wp2_with fail;refine (dY B gv L k s wr (HwA.out.vis Hv.out.1) (by rw [HN.out];exact hlt2) (zAc.1 Hs.out).2 HL.out Hn.out).mono ?_;rintro e w2 ⟨rfl,hv2⟩;have hbk2:=hv2.1.bk Hbk.out dC dC;have hv3:=Hv.out.trans hv2;have hgl:=hbk2.lt;have hfz:=hbk2.frozen k;have hbk3:=hbk2.set k (.int .i64 (s:Int));rw [aGA HN.out Hs.out] at hbk3;have hcell:∃u,w2.cell? ⟨w.heap.size,k,none⟩=some u:=⟨_,(hbk2.cell k).trans (zAq (by rw [aEG L n k HN.out oM];exact hlt2))⟩;obtain ⟨u,hu⟩:=hcell;have hv4:VB B w (w2.setCell ⟨w.heap.size,k,none⟩ (.int .i64 (s:Int))):=⟨Vis.fresh hv3.1 (p:=⟨w.heap.size,k,none⟩) nL _,Keep.setCell hv3.2 (p:=⟨w.heap.size,k,none⟩) (.inr nL) _⟩;obtain ⟨Hbk3,Hv4⟩:=hqq2 hbk3 hv4;clear hbk2 hbk3 hv2 hv3 hv4;go_wp2_with fail;go_roundw
    case rel=>exact ⟨k+1,by omega,by go_num,Hbk3.out,Hv4.out⟩
    case measure=>simp [intOf];omega
  · obtain rfl:k=n:=oM;have hbk9:=Hbk.out;rw [aGB L k HN.out] at hbk9;obtain ⟨v9,hb9⟩:=Hv.out.1.waveC Hb.out;have c10:wr.cell? ⟨gv,10,none⟩=some (.int .i64 v9):=(hb9.cell 10).trans (bI S k v9).2.2.2.2.2.2.2.2.2.2;have f10:=hb9.frozen 10;have hg9:=hb9.lt;have hv9:=Hv.out.trans (VB.set_wave hb9 hBg v);have hne:=Bk.ne hbk9 hb9 dC;have hbk8:=hbk9.far (p:=⟨gv,10,none⟩) hne (.int .i64 v);have hmade:=aEv (B:=w.heap.size) (n:=k) hbk8 nL (by rw [zBc];exact HN.out) (by unfold maxLen;omega);obtain ⟨Hm,Hv9⟩:=hqq2 hmade hv9;clear hbk9 hb9 hv9 hbk8 hmade hne;go_wp2_with fail;go_ret;exact ⟨_,_,by rw [HN.out];rfl,by rw [HN.out];exact Hm.out,Hv9.out⟩
theorem aDc (B gk:Nat) (L:List Nat) (w:World) (h:WalkAt w B gk L) (hL:∀x∈L,x < 257) (hn:L.length<=1000):
 Calls Tryz.prog 66 #[gk] w (jG w B L):=by
 obtain ⟨gv,gt,h1,h2,h3⟩:=h;have c0:=h1.cell 0;have hall:=aC9 B gv L w h2 hL hn;unfold jG at hall⊢;obtain ⟨n,hnn⟩:=eqx L.length;rw [hnn] at hall⊢;clear h1 h2 h3 hnn hn;go_enter Tryz.func66,Tryz.ntmps66;go_wp2_with fail;refine hall.mono ?_;rintro e w2 ⟨A,c,rfl,hm,hv⟩;obtain ⟨Hm,Hv⟩:=hqq2 hm hv;clear hall hm hv;go_wp2_with fail;go_ret;exact ⟨A,c,rfl,Hm.out,Hv.out⟩
theorem sV (Bw gl gk gp N rate:Nat) (L:List Nat) (C:List (Nat×Nat)) (w:World) (h:LiveG w Bw gl gk gp rate N L C) (hL:∀x∈L,x < 257) (hn:L.length<=1000):
 Calls Tryz.prog 16 #[gl] w (jG w Bw L):=by
 obtain ⟨mv,hblk⟩:=h.blk;have c0:=hblk.cell 0;have hall:=aDc Bw gk L w h.walk hL hn;clear hblk;unfold jG at hall⊢;obtain ⟨n,hnn⟩:=eqx L.length;rw [hnn] at hall⊢;clear h hnn hn;go_enter Tryz.func16,Tryz.ntmps16;go_wp2_with fail;refine hall.mono ?_;rintro e w2 ⟨A,c,rfl,hm,hv⟩;obtain ⟨Hm,Hv⟩:=hqq2 hm hv;clear hall hm hv;go_wp2_with fail;go_ret;exact ⟨A,c,rfl,Hm.out,Hv.out⟩
theorem nC (Bw gl gk gp n rate:Nat) (L:List Nat) (C:List (Nat×Nat)) (w:World) (h:LiveG w Bw gl gk gp rate n L C):
 Calls Tryz.prog 12 #[gl] w fun e w'=>e=.returned (.int .i64 (rate:Int))/\w=w':=by
 obtain ⟨mv,hblk⟩:=h.blk;have c2:=hblk.cell 2;clear h hblk;go_enter Tryz.func12,Tryz.ntmps12;go_wp2_with fail;go_ret;exact ⟨rfl,rfl⟩
theorem aKp (L:List Nat):L.map sv=(jN L).map iv:=by
 unfold jN;rw [zCh];rfl
def fG (w:World) (Bw:Nat) (bs:List UInt8) (e:Ending) (w':World):Prop:=
 ∃A' c',e=.returned (.tuple #[.slice A' bs.length c',.int .i64 0])/\Made w' w.heap.size 5 1 A' bs.length c' (bs.map bv)/\VB Bw w w'
theorem sM (Bw gl gk gp rate most:Nat) (t:List UInt8) (rs:List Nat) (C:List (Nat×Nat)) (w:World) (hl:LiveG w Bw gl gk gp rate (t.length+1) (aE (aG t) rs) C) (hrt:∀x∈C,rs[x.1]?=some x.2) (hs:IsSuf (aG t) rs) (hn:t.length<=127) (hr1:1<=rate) (hr2:rate<=64) (hm1:t.length<=most) (hm2:most<=2147483648):
 Calls Tryz.prog 10 #[gl,(most:Int)] w (fG w Bw (fC (aE (aG t) rs) rs most rate t.length)):=by
 obtain ⟨i0,hi0,hz0,hz1,hz2⟩:=info_parts kW;obtain ⟨L,hL⟩:=eqx (aE (aG t) rs);have hlt:=dM (rs:=rs) (eT t);have hlen:L.length=t.length+1:=by rw [<-hL,bU,hs.len,aT]
 have hrow:∀k w1,VB Bw w w1->k*rate<=t.length->Calls Tryz.prog 40 #[gl,.int .i64 ((k*rate:Nat):Int)] w1 fun e w'=>e=.returned (.int .i64 ((rs.idxOf (k*rate):Nat):Int))/\VB Bw w1 w':=fun k w1 hv hk=>by have hmem:k*rate∈rs:=hs.mem (by rw [aT];omega);exact fV Bw gl gk gp rate t rs C (rs.idxOf (k*rate)) (k*rate) w1 (hl.vis hv.1) hrt hs hn (zAc.2 ⟨List.idxOf_lt_length_iff.2 hmem,List.getElem_idxOf _⟩)
 rw [hL] at hl hlt⊢;obtain ⟨N,hN⟩:=eqx t.length;have hil:∀x,rs.idxOf x<=128:=fun x=>by have:=List.idxOf_le_length (a:=x) (l:=rs);rw [hs.len,aT] at this;omega
 have hlast:=sV Bw gl gk gp (t.length+1) rate L _ w hl hlt oM;unfold jG at hlast;rw [hN] at hlen hrow hm1 hn⊢;rw [hlen] at hlast;have hlv:=hl.lvw;have hput:=aEC hlt;have hfl:=qI L;rw [hlen] at hfl;obtain ⟨Hl,Hlv,Hrow,Hlt,Hlen,Hput,Hil⟩:=hqq7 hl hlv hrow hlt hlen hput hil;have n3:¬most < N:=oM;have n4:decide (most < N)=false:=zBy n3;have n5:¬((most:Int) > 2147483648):=oM;have n6:decide ((most:Int) > 2147483648)=false:=zBy n5;have hw0:0 < w.heap.size:=Nat.lt_of_le_of_lt (zAp _) hl.lt;clear hrt hl hlv hrow hlt hlen hput hL hs hN hil;unfold fG;go_enter Tryz.func10,Tryz.ntmps10;go_wp2_with fail;refine (cB Bw gl _ N w Hlv.out Hlen.out oM).mono ?_;rintro e w1 ⟨rfl,rfl⟩;go_wp2_with fail;refine hlast.mono ?_;clear hlast;rintro e w1 ⟨A1,c1,rfl,hm1',hv1⟩;have hrp:=aE5 A1 (N+1) c1 w1.heap.size (jN L) w1 (by rw [<-aKp];exact hm1'.rd) nL oM;rw [Hput.out] at hrp;have Hv1:=lhd hv1;clear hm1' hv1;go_wp2_with fail;refine hrp.mono ?_;clear hrp;rintro e w2 ⟨hpt,hb2⟩;obtain ⟨bs,A2,c2,hbs,rfl,hm2'⟩:=hpt.resolve_right (fun ⟨hno,_⟩=>by cases hno);injection hbs with hbs;obtain ⟨k2,hk2⟩:=eqx ((gM L).length);rw [<-hbs,hk2] at hm2';rw [<-hbs,hk2];rw [hk2] at hfl;have hv2:VB Bw w w2:=Hv1.out.below hb2;have Hv2:=lhd hv2;have Hm2:=lhd (hm2'.mono (B':=w.heap.size) Hv1.out.1.size);have Hk2:=lhd hk2;clear hb2 hbs hm2' hk2 hv2 Hv1;go_wp2_with fail;go_loopw [8,9] (fun v i wr=>∃k q:Nat,k<=N / rate+1/\i=.int .i64 ((k*rate:Nat):Int)/\wr.ownsRow w2.heap.size 5 1 v q ((aA8 rs rate k).map bv)/\VB Bw w2 wr) (fun _ i _=>(N+65 -(intOf i).toNat))
 case atStart=>exact ⟨0,0,zAp _,by simp,World.ownsRow_nil _ _ _ _,VisK.refl _ _⟩
 case round=>
  obtain ⟨k,q,hk,rfl,hown,hv⟩:=hrel;have hq:q<=1500:=by have h1:=hown.1;have h2:=qX rs rate k;have h3:N / rate<=N:=Nat.div_le_self _ _;simp at h1;omega
  obtain ⟨p,hp⟩:=eqx (k*rate);have hvw:=Hv2.out.trans hv;have hlen1:=cB Bw gl _ N wr (Hl.out.vis hvw.1).lvw Hlen.out oM;have hsz:=hvw.1.size;have hsz2:=hv.1.size;by_cases hlt:p<=N
  · have hrow1:=Hrow.out k wr hvw oM;have hnext:=tJ rs rate k;obtain ⟨x,hx⟩:=eqx (rs.idxOf (k*rate));have hxl:x<=128:=(by rw [<-hx];exact Hil.out _);have hnk:=aKK hr1 (by omega:k*rate<=N);have hpn:(k+1)*rate=p+rate:=(by rw [Nat.add_mul,hp,Nat.one_mul]);rw [hx] at hrow1 hnext;rw [hp] at hrow1;rw [hp];obtain ⟨kx,hkx⟩:=eqx ((cA x).length);have hkx1:kx<=11:=(by rw [<-hkx];exact dG x);have hpl:p<=127:=oM;obtain ⟨Hnext,Hkx,Hv,Hown⟩:=hqq4 hnext hkx hv hown;clear hnext hkx hv hown hvw hx;go_wp2_with fail;refine hlen1.mono ?_;clear hlen1;rintro e w3 ⟨rfl,rfl⟩;go_wp2_with fail;refine hrow1.mono ?_;clear hrow1;rintro e w3 ⟨rfl,hv3⟩;have hown3:=hv3.1.own Hown.out dC dC;have Hown3:=lhd hown3;have hvv3:=Hv.out.trans hv3;have hsz3:=hv3.1.size;have Hv3:=lhd hvv3;clear hown3 hv3 hvv3 Hown Hv;go_wp2_with fail;refine (zC _ _ _ _ [x] _ (cA x) kx (qJ x) Hkx.out (Rd.made _ _ 1 1 _ rfl) nL (by simp;omega) oM).mono ?_;rintro e w4 ⟨A4,c4,rfl,hm4,hb4⟩;have hb34:=((Below.refl w3.heap.size w3).alloc nL (.cells #[.int .u64 (x:Int)] 72)).trans (hb4.mono (by simp));have hown4:w4.ownsRow w2.heap.size 5 1 u8 q ((aA8 rs rate k).map bv):=aP (Hown3.out) hb34;have hs4:=hb34.size;obtain ⟨Hr4,Hone⟩:=hqq2 hm4.rd (iM (cA x));have hv4:=Hv3.out.below hb34;have hs40:w2.heap.size<=w4.heap.size:=oM;have Hv4:=lhd hv4;clear hm4 hb4 hb34 Hown3 Hv3 hv4;go_wp2_with (at_builtin;refine aX _ rfl (.tmp 41) (.tmp 47) _ rfl w2.heap.size 5 i0 (.int .u8 0) 1 1 Tryz.underlying26 hi0 hz0 hz1 hz2 rfl dC u8 q _ rfl hown4 w4.heap.size A4 kx c4 _ rfl Hr4.out Hone.out (by unfold maxLen;omega) oM hs40 ?_;intro v5 w5 hown5 hg5 hat5);have hb45:=aZ (Below.refl w2.heap.size w4) hown4 hg5 hs40;have hv5:=VB.grow Hv4.out hb45;obtain ⟨Hv5,Hown5⟩:=hqq2 hv5 hown5;clear hown4 hown5 hg5 hat5 hb45 hv5 Hv4;have hrate:=nC Bw gl gk gp _ rate L _ w5 (Hl.out.vis (Hv2.out.trans Hv5.out).1);go_wp2_with fail;refine hrate.mono ?_;clear hrate;rintro e w6 ⟨rfl,rfl⟩;have hadd:IntKind.i64.wrap ((p:Int)+(rate:Int))=((p+rate:Nat):Int):=(by rw [IntKind.wrap_i64];omega);go_wp2_with fail;go_roundw
    case rel=>
        refine ⟨k+1,q+kx,hnk,?_,?_,Hv5.out⟩
        · rw [hpn]
          first | rfl | exact dD oM
        rw [Hnext.out,zAz];exact Hown5.out
    case measure=>simp [intOf];omega
  · go_wp2_with fail;refine hlen1.mono ?_;clear hlen1;rintro e w3 ⟨rfl,rfl⟩;have hks:=aKO hr1 hk oM;subst hks;rw [<-vO] at hown;obtain ⟨Hown,Hv⟩:=hqq2 hown hv;clear hown hv hvw;go_wp2_with fail;refine (nC Bw gl gk gp _ rate L _ wr (Hl.out.vis (Hv2.out.trans Hv.out).1)).mono ?_;rintro e w3 ⟨rfl,rfl⟩;go_wp2_with fail;refine (cB Bw gl _ N wr (Hl.out.vis (Hv2.out.trans Hv.out).1).lvw Hlen.out oM).mono ?_;rintro e w3 ⟨rfl,rfl⟩;go_wp2_with fail;obtain ⟨kh,hkh⟩:=eqx ((dO [most,rate,N]).length);have hkh1:kh<=33:=(by rw [<-hkh];have:=xU [most,rate,N];simpa using this);have Hkh:=lhd hkh;clear hkh;refine (zC _ _ _ _ [most,rate,N] _ (dO [most,rate,N]) kh rfl Hkh.out (Rd.made _ _ 1 3 _ rfl) nL (by simp;omega) oM).mono ?_;rintro e w4 ⟨A4,c4,rfl,hm4,hb4⟩;have hb34:=((Below.refl wr.heap.size wr).alloc nL (.cells #[.int .u64 (most:Int),.int .u64 (rate:Int),.int .u64 (N:Int)] 72)).trans (hb4.mono (by simp));have hs4:=hb34.size;have hown4:w4.ownsRow w2.heap.size 5 1 u8 q ((wT rs rate N).map bv):=aP (Hown.out) hb34;have hown2:w4.ownsRow w.heap.size 5 1 (.slice A2 k2 c2) k2 ((gM L).map bv):=aP (Hv.out.1.own Hm2.out.own dC dC) hb34;obtain ⟨A3,c3,rfl,hm3⟩:=aS hown4;obtain ⟨Hm3,Hr2,Hr4,Hv4⟩:=hqq4 hm3.rd (Rd.of_own hown2) hm4.rd ((Hv2.out.trans Hv.out).below hb34);have hq3:(wT rs rate N).length=q:=(by have:=hown4.1;simpa using this);clear hm4 hb4 hb34 hown4 hown2 hm3 Hown Hm2 Hv;have kc:=tG w4;go_wp2_with fail;have hmk:=aFp w4 5 #[.int .u8 83,.int .u8 75,.int .u8 82,.int .u8 49] (4,5) 4 rfl;obtain ⟨gm,hgm⟩:∃g,w4.heap.size=g:=⟨_,rfl⟩;rw [hgm] at hmk;have hb45:Below w4.heap.size w4 (w4.alloc (.cells #[.int .u8 83,.int .u8 75,.int .u8 82,.int .u8 49] 5 (4,5))):=(Below.refl w4.heap.size w4).alloc nL _;have hs45:(w4.alloc (.cells #[.int .u8 83,.int .u8 75,.int .u8 82,.int .u8 49] 5 (4,5))).heap.size=gm+1:=(by simp [hgm]);have hR2:=Hr2.out.below hb45;have hR3:=Hm3.out.below hb45;have hR4:=Hr4.out.below hb45;have hV5:=Hv4.out.below hb45;rw [hgm] at hR2 hR3 hR4 hb45 hs4⊢;generalize w4.alloc (.cells #[.int .u8 83,.int .u8 75,.int .u8 82,.int .u8 49] 5 (4,5))=w5 at hmk hb45 hs45 hR2 hR3 hR4 hV5⊢;obtain ⟨Hmk,HR2,HR3,HR4,HV5⟩:=hqq5 hmk hR2 hR3 hR4 hV5;clear hmk hR2 hR3 hR4 hV5 hb45 Hr2 Hm3 Hr4 Hv4 hgm kc;have hN128:N / rate<=N:=Nat.div_le_self _ _;have hq4:=qX rs rate (N / rate+1);rw [<-vO,hq3] at hq4;have hq5:q<=2000:=oM;obtain ⟨n1,hn1⟩:=eqx ((dV (gM L)).length);obtain ⟨n2,hn2⟩:=eqx ((dV (wT rs rate N)).length);have hn1l:n1<=3000:=(by rw [<-hn1,jV,Hk2.out];have:=dG k2;omega);have hn2l:n2<=3000:=(by rw [<-hn2,jV,hq3];have:=dG q;omega);have hp1:=sN A2 k2 c2 gm (gM L) w5 HR2.out oM oM;rw [hn1] at hp1;refine hp1.mono ?_;clear hp1;rintro e w6 ⟨A6,c6,rfl,hm6,hb6⟩;have hs6:=hb6.size;obtain ⟨Hmk6,HR36,HR46,HR6,HV6⟩:=hqq5 (Hmk.out.below (hb6.mono oM)) (HR3.out.below (hb6.mono oM)) (HR4.out.below (hb6.mono oM)) hm6.rd (HV5.out.below hb6);clear hb6 hm6 Hmk HR2 HR3 HR4 HV5;go_wp2_with fail;have hp2:=sN A3 q c3 gm (wT rs rate N) w6 HR36.out oM oM;rw [hn2] at hp2;refine hp2.mono ?_;clear hp2;rintro e w7 ⟨A7,c7,rfl,hm7,hb7⟩;have hs7:=hb7.size;obtain ⟨Hmk7,HR47,HR67,HR7,HV7⟩:=hqq5 (Hmk6.out.below (hb7.mono oM)) (HR46.out.below (hb7.mono oM)) (HR6.out.below hb7) hm7.rd (HV6.out.below hb7);clear hb7 hm7 Hmk6 HR36 HR46 HR6 HV6;go_wp2_with fail;obtain ⟨bd,hbd⟩:∃b,pL L rs most rate N=b:=⟨_,rfl⟩;obtain ⟨nb,hnb⟩:∃n,bd.length=n:=⟨_,rfl⟩;have hnbl:nb<=10000:=by rw [<-hnb,<-hbd];unfold pL;rw [zAi,zAi,zAi,Hkh.out,hn1,hn2];have:hQ.length=4:=rfl;omega
    have hcat:=nD (some ⟨w7.heap.size,0,none⟩) 4 4 (w7.heap.size+1) [⟨some ⟨gm,0,none⟩,4,4,hQ⟩,⟨A4,kh,c4,dO [most,rate,N]⟩,⟨A6,n1,c6,dV (gM L)⟩,⟨A7,n2,c7,dV (wT rs rate N)⟩] bd nb (by rw [<-hbd];unfold pL;simp [iE]) hnb (w7.alloc (.cells #[.slice (some ⟨gm,0,none⟩) 4 4,.slice A4 kh c4,.slice A6 n1 c6,.slice A7 n2 c7] 26)) ((Rd.made w7 _ 1 4 _ rfl).mono (by simp)) (by
        intro s hs;simp at hs;rcases hs with rfl | rfl | rfl | rfl;exact ((Hmk7.out.mono (B':=w7.heap.size) oM).alloc nL _).mono oM;exact ((HR47.out.mono (B':=w7.heap.size) oM).alloc nL _).mono oM;exact ((HR67.out.mono (B':=w7.heap.size) oM).alloc nL _).mono oM
        · exact (HR7.out.alloc nL _).mono oM) (by simp) oM oM
    refine hcat.mono ?_;clear hcat;rintro e w8 ⟨A8,c8,rfl,hm8,hb8⟩;have hb78:=((Below.refl w7.heap.size w7).alloc nL (.cells #[.slice (some ⟨gm,0,none⟩) 4 4,.slice A4 kh c4,.slice A6 n1 c6,.slice A7 n2 c7] 26)).trans (hb8.mono (by simp));have HV8:=lhd (HV7.out.below hb78);have hs8:=HV8.out.1.size;have Hm8:=lhd (hm8.mono (B':=w.heap.size) (by simp;have:=HV7.out.1.size;omega));clear hm8 hb8 hb78 HV7 Hmk7 HR47 HR67 HR7;go_wp2_with fail;refine (uA A8 _ nb c8 _ bd _ ((Hm8.out.rd.alloc oM _).mono (by simp)) oM (Rd.made _ _ 1 1 _ rfl)).mono ?_;rintro e w9 ⟨rfl,hb9⟩;have hb89:=((Below.refl w8.heap.size w8).alloc nL (.cells #[.slice A8 nb c8] 26)).trans (hb9.mono (by simp));obtain ⟨Hm9,HV9⟩:=hqq2 (Hm8.out.below hb89) (HV8.out.below hb89);have hs9:=HV9.out.1.size;clear hb9 hb89 Hm8 HV8;go_wp2_with fail;refine (aAZ (nX bd) _).mono ?_;rintro e w10 ⟨A10,c10,rfl,hm10,hb10⟩;obtain ⟨Hm9b,HV10⟩:=hqq2 (Hm9.out.below hb10) (HV9.out.below hb10);have hs10:=HV10.out.1.size;have HR10:=lhd hm10.rd;have hown10:=Hm9b.out.own;have Hone:=lhd (iM (rV (nX bd)));clear hm10 hb10 Hm9 HV9;go_wp2_with (at_builtin;refine aX _ rfl (.tmp 68) (.tmp 72) _ rfl w.heap.size 5 i0 (.int .u8 0) 1 1 Tryz.underlying26 hi0 hz0 hz1 hz2 rfl dC (.slice A8 nb c8) nb _ rfl hown10 w10.heap.size A10 4 c10 _ rfl HR10.out Hone.out (by unfold maxLen;omega) oM hs10 ?_;intro v11 w11 hown11 hg11 hat11);have hV11:=VB.grow HV10.out (aZ (Below.refl w.heap.size w10) hown10 hg11 hs10);obtain ⟨A11,c11,rfl,hm11⟩:=aS hown11;go_ret2;have hsn:fC L rs most rate N=bd++rV (nX bd):=(by unfold fC;rw [hbd]);have hsl:(fC L rs most rate N).length=nb+4:=(by rw [hsn,zAi,hnb,rU]);rw [hsl,hsn,zAz];exact ⟨A11,c11,rfl,hm11,hV11⟩
def rQ (most rate N:Nat):Array Value:=#[.int .i64 (most:Int),.int .i64 (rate:Int),.int .i64 (N:Int)]
theorem uF {P:Program} {fn:Func} {a p b:Tmp} {ty:TypeId} (h:fn.results=#[.tmp a,.cell p ty,.tmp b]) (tmps:Array Value) (w:World) (g:Nat) (t:TypeId) (cs:Array Value) (fr:Nat×Nat) (d:TypeDesc)
 (hp:tmps.getD p undef=.pointer (some ⟨g,0,none⟩)) (hg:w.heap[g]?=some (.cells cs t fr))
 (hu:P.underlying ty=some d) (hd:(match d with | .struct _ | .array _ _=>true | _=>false)=true) (hi:(P.info? ty).map (·.size)=some cs.size):
 (results fn tmps).run P w=.ok (.tuple #[tmps.getD a undef,.agg cs,tmps.getD b undef]) w:=by
 have hp':tmps[p]?.getD undef=.pointer (some ⟨g,0,none⟩):=by simpa using hp
 simp [results,h,hp',asAddr,run_loadVar_row w g t ty cs fr d hg hu hd hi]
def zG (w:World) (t:List UInt8) (rate most:Nat) (e:Ending) (w':World):Prop:=
 ∃gl,e=.returned (.tuple #[.pointer (some ⟨gl,0,none⟩),.agg (rQ most rate t.length),.int .i64 0])/\(∃own,LiveE w' w.heap.size own gl t rate)/\VB w.heap.size w w'
theorem vZ {w:World} {b:Nat} {t t':TypeId} {cs cs':Array Value} (h:Bk w b t cs) (h':Bk w b t' cs'):t=t':=by
 unfold Bk at h h';rw [h] at h';injection h' with h';injection h' with _ ht
theorem aIB {w w':World} {tmps:Array Value} {g gl rate most N:Nat} {t:List UInt8} (hp:tmps.getD 3 undef=.pointer (some ⟨g,0,none⟩)) (h2:tmps.getD 2 undef=.pointer (some ⟨gl,0,none⟩)) (h4:tmps.getD 4 undef=.int .i64 0) (hb:Bk w' g 30 (rQ most rate N))
 (ht:∃own,LiveE w' w.heap.size own gl t rate) (hv:VB w.heap.size w w'):
 bodyPost Tryz.prog Tryz.f11 (fun e w'=>∃gl,e=.returned (.tuple #[.pointer (some ⟨gl,0,none⟩),.agg (rQ most rate N),.int .i64 0])/\(∃own,LiveE w' w.heap.size own gl t rate)/\VB w.heap.size w w') .ret ⟨tmps, []⟩ w':=by
 have hr:=uF (P:=Tryz.prog) (fn:=Tryz.f11) (a:=2) (p:=3) (b:=4) (ty:=30) rfl tmps w' g 30 (rQ most rate N) (0,0) _ hp hb Tryz.underlying30 rfl kR;rw [h2,h4] at hr;exact bodyPost_ret hr rfl ⟨gl,rfl,ht,hv⟩
theorem aBN (A:Option Addr) (c Bs most rate:Nat) (t:List UInt8) (rs:List Nat) (w:World) (hs:IsSuf (aG t) rs) (hn:t.length<=127) (hr1:1<=rate) (hr2:rate<=64) (hm1:t.length<=most) (hm2:most<=2147483648)
 (hr:Rd w Bs 1 A (fC (aE (aG t) rs) rs most rate t.length).length ((fC (aE (aG t) rs) rs most rate t.length).map bv)) (hB:Bs<=w.heap.size) (hcl:(fC (aE (aG t) rs) rs most rate t.length).length<=c) (hcm:c<=maxLen):
 Calls Tryz.prog 11 #[.slice A (fC (aE (aG t) rs) rs most rate t.length).length c] w (zG w t rate most):=by
 obtain ⟨L,hL⟩:=eqx (aE (aG t) rs);rw [hL] at hr hcl⊢;have hlt:=dM (rs:=rs) (eT t);have hlen:L.length=t.length+1:=by rw [<-hL,bU,hs.len,aT]
 rw [hL] at hlt;obtain ⟨N,hN⟩:=eqx t.length;unfold zG;rw [hN] at hr hcl hlen hm1 hn⊢;obtain ⟨bd,hbd⟩:∃b,pL L rs most rate N=b:=⟨_,rfl⟩;obtain ⟨p1,p2,p3,p4,p5,hat,hp5⟩:=SnAt.of L rs most rate N;rw [hbd] at hat hp5;have hsn:fC L rs most rate N=bd++rV (nX bd):=by unfold fC;rw [hbd]
 have hsl:(fC L rs most rate N).length=p5+4:=by rw [hsn,zAi,hp5,rU]
 rw [hsl] at hr hcl⊢;have hp54:4<=p5:=by have:=hat.h1;have:=hat.h2;have:=hat.h3;have:=hat.h4;have:=hat.h5;omega
 have h8:¬(p5+4 < 8):=oM;have hp5m:p5<=10000:=by have h1:=hat.h1;have h2:=hat.h2;have h3:=hat.h3;have h4:=hat.h4;have h5:=hat.h5;have e1:=dG most;have e2:=dG rate;have e3:=dG N;have e4:=dG (gM L).length;have e5:=dG (wT rs rate N).length;have e6:=qI L;have e7:=qX rs rate (N / rate+1);have e8:N / rate<=N:=Nat.div_le_self _ _;rw [<-vO] at e7;rw [jV] at h4 h5;omega
 have hrb:=(hr.cut_hi0 (k:=p5) (cap:=c) oM);have hcr:=aFK bd;have htk:((fC L rs most rate N).map bv).take (p5*1)=bd.map bv:=by rw [<-List.map_take,hsn,zBl,List.take_left' hp5]
 rw [htk] at hrb;have hofb:=aJQ bd [] (nX bd) hcr;rw [List.append_nil,<-hsn,hp5] at hofb;have hcof:∀(A AP:Option Addr) (n c cp:Nat) (w:World),Rd w w.heap.size 1 A n (bd.map bv)->n<=1099511627776->Rd w w.heap.size 1 AP 1 [.slice A n c]->Calls Tryz.prog 44 #[.slice AP 1 cp] w fun e w'=>e=.returned (.int .u32 ((nX bd:Nat):Int))/\Below w.heap.size w w':=fun A AP n c cp w h1 h2 h3=>uA A AP n c cp bd w h1 h2 h3;obtain ⟨sm,hsm⟩:∃x,nX bd=x:=⟨_,rfl⟩;rw [hsm] at hofb hcof;have Hcof:=lhd hcof;clear hcof;obtain ⟨Hr,Hrb,Hat,Hlt,Hlen,HL,HN,Hs,Hsn⟩:=hqq9 hr hrb hat hlt hlen hL hN hs hsn;obtain ⟨Hbd,Hp5,Hofb,Hsl⟩:=hqq4 hbd hp5 hofb hsl;clear hr hrb hat hlt hlen hL hN hs hsn hbd hp5 htk hofb hsl hcr hsm;have kc:=mI (P:=Tryz.prog) 26 5 1 Tryz.underlying26 (fun w=>by kernel_rfl) A (p5+4) c p5 oM;have e1:IntKind.i64.wrap (((p5+4:Nat):Int) - 4)=(p5:Int):=by rw [IntKind.wrap_i64];omega
 go_enter Tryz.func11,Tryz.ntmps11;go_wp2_with fail;obtain ⟨gh,hgh⟩:∃g,w.heap.size=g:=⟨_,rfl⟩;have hh0:Bk (w.alloc (.cells #[.int .i64 0,.int .i64 0,.int .i64 0] 30)) gh 30 #[.int .i64 0,.int .i64 0,.int .i64 0]:=hgh ▸ Bk.new _ _ _;have hbl0:Below w.heap.size w (w.alloc (.cells #[.int .i64 0,.int .i64 0,.int .i64 0] 30)):=bR.alloc nL _;have hs0:(w.alloc (.cells #[.int .i64 0,.int .i64 0,.int .i64 0] 30)).heap.size=gh+1:=by simp [hgh]
 rw [hgh] at hbl0 hB⊢;generalize w.alloc (.cells #[.int .i64 0,.int .i64 0,.int .i64 0] 30)=W0 at hh0 hbl0 hs0⊢;obtain ⟨Hh0,Hb0⟩:=hqq2 hh0 hbl0;clear hh0 hbl0;refine (aLl A (p5+4) c (fC L rs most rate N) (p5:Int) Bs W0 sm 0 Hofb.out (Hr.out.below (Hb0.out.mono hB)) (by unfold maxLen;omega)).mono ?_;rintro e w1 ⟨rfl,rfl⟩;go_wp2_with fail;have hR1:=Hrb.out.below (Hb0.out.mono hB);refine (Hcof.out (dP A c 0 1) _ p5 c _ _ (((hR1.mono (by omega:Bs<=W0.heap.size)).alloc nL _).mono (by simp)) oM (Rd.made' _ _ 1 1 _ _ rfl hs0.symm)).mono ?_;rintro e w2 ⟨rfl,hb2⟩;have hb02:=((Below.refl W0.heap.size W0).alloc nL (.cells #[.slice (dP A c 0 1) p5 c] 26)).trans (hb2.mono (by simp));have hs2:=hb02.size;obtain ⟨Hb2,Hh2⟩:=hqq2 (Hb0.out.trans (hb02.mono oM)) (Hh0.out.below hb02 Hh0.out.lt);clear hb2 hb02 Hb0 Hh0 hR1;go_wp2_with fail;have hrd:∀wX,Below gh w wX->Rd wX Bs 1 (dP A c 0 1) p5 (bd.map bv):=fun wX h=>Hrb.out.below (h.mono hB);have Hrd:=lhd hrd;obtain ⟨gr,hgr⟩:∃g,w2.heap.size=g:=⟨_,rfl⟩;have hr0:Bk (w2.alloc (.cells #[.slice (dP A c 0 1) p5 c,.int .i64 4,.bool false] 82)) gr 82 (aIa (dP A c 0 1) p5 c 4):=hgr ▸ Bk.new _ _ _;have hbl3:=Hb2.out.alloc oM (.cells #[.slice (dP A c 0 1) p5 c,.int .i64 4,.bool false] 82);have hh3:=Hh2.out.alloc (.cells #[.slice (dP A c 0 1) p5 c,.int .i64 4,.bool false] 82);have hsz3:gr < (w2.alloc (.cells #[.slice (dP A c 0 1) p5 c,.int .i64 4,.bool false] 82)).heap.size:=hr0.lt;have hgrg:gh < gr:=oM;rw [hgr];generalize w2.alloc (.cells #[.slice (dP A c 0 1) p5 c,.int .i64 4,.bool false] 82)=W2 at hr0 hbl3 hh3 hsz3⊢;obtain ⟨Hr0,Hbl3,Hh3⟩:=hqq3 hr0 hbl3 hh3;have hkb:∀(wX wY:World),Below gh w wX->gr < wX.heap.size->Keep (fun b=>b=gr) wX wY->Below gh w wY:=fun wX wY h1 h2 h3=>h1.trans (h3.to_below oM (fun b hb e=>by omega));have Hkb:=lhd hkb;clear hrd hgr hr0 hbl3 hh3 hkb Hb2 Hh2 Hcof hs2 hs0;have hmx:p5<=c:=oM;refine (nB gr (dP A c 0 1) p5 c Bs 4 p1 most 2147483648 bd W2 Hr0.out (Hrd.out _ Hbl3.out) hmx hcm (Hat.out.n1 oM) oM oM).mono ?_;rintro e w3 ⟨rfl,hr3,hk3⟩;obtain ⟨Hr3,Hbl4,Hh4⟩:=hqq3 hr3 (Hkb.out _ _ Hbl3.out hsz3 hk3) (hk3.bk Hh3.out oM);have hsz4:gr < w3.heap.size:=hr3.lt;clear hr3 hk3 Hr0 Hbl3 Hh3 hsz3;go_wp2_with fail;refine (nB gr (dP A c 0 1) p5 c Bs p1 p2 rate 64 bd w3 Hr3.out (Hrd.out _ Hbl4.out) hmx hcm (Hat.out.n2 oM) oM oM).mono ?_;rintro e w4 ⟨rfl,hr4,hk4⟩;obtain ⟨Hr4,Hbl5,Hh5⟩:=hqq3 hr4 (Hkb.out _ _ Hbl4.out hsz4 hk4) (hk4.bk Hh4.out oM);have hsz5:gr < w4.heap.size:=hr4.lt;clear hr4 hk4 Hr3 Hbl4 Hh4 hsz4;go_wp2_with fail;refine (nB gr (dP A c 0 1) p5 c Bs p2 p3 N 2147483648 bd w4 Hr4.out (Hrd.out _ Hbl5.out) hmx hcm (Hat.out.n3 oM) oM oM).mono ?_;rintro e w5 ⟨rfl,hr5,hk5⟩;obtain ⟨Hr5,Hbl6,Hh6⟩:=hqq3 hr5 (Hkb.out _ _ Hbl5.out hsz5 hk5) (hk5.bk Hh5.out oM);have hsz6:gr < w5.heap.size:=hr5.lt;clear hr5 hk5 Hr4 Hbl5 Hh5 hsz5;go_wp2_with fail;obtain ⟨gH,hgH⟩:∃g,w5.heap.size=g:=⟨_,rfl⟩;have hH0:Bk (w5.alloc (.cells #[(most:Int),(rate:Int),(N:Int)] 30)) gH 30 (rQ most rate N):=hgH ▸ Bk.new _ _ _;have hbl7:=Hbl6.out.alloc oM (.cells #[(most:Int),(rate:Int),(N:Int)] 30);have hh7:=Hh6.out.alloc (.cells #[(most:Int),(rate:Int),(N:Int)] 30);have hr7:=Hr5.out.alloc (.cells #[(most:Int),(rate:Int),(N:Int)] 30);have hgHr:gr < gH:=oM;rw [hgH];generalize w5.alloc (.cells #[(most:Int),(rate:Int),(N:Int)] 30)=W5 at hH0 hbl7 hh7 hr7⊢;have hsz7:gr < W5.heap.size:=hr7.lt;obtain ⟨HH0,Hbl7,Hh7,Hr7⟩:=hqq4 hH0 hbl7 hh7 hr7;clear hgH hH0 hbl7 hh7 hr7 Hbl6 Hh6 Hr5 hsz6;obtain ⟨k1,hk1⟩:∃k,(gM L).length=k:=⟨_,rfl⟩;obtain ⟨k2,hk2⟩:∃k,(wT rs rate N).length=k:=⟨_,rfl⟩;have hk1l:=qI L;have hk2l:=qX rs rate (N / rate+1);have hk2g:=aJE rs rate (N / rate+1);have hNd:N / rate<=N:=Nat.div_le_self _ _;rw [<-vO,hk2] at hk2l hk2g;rw [hk1,Hlen.out] at hk1l;obtain ⟨q1,hq1,hq1e,hq1t,hq1l⟩:=Hat.out.f1 oM;obtain ⟨q2,hq2,hq2e,hq2t,hq2l⟩:=Hat.out.f2 oM;rw [hk1] at hq1 hq1e hq1t;rw [hk2] at hq2 hq2e hq2t;rw [Hp5.out] at hq1l hq2l;refine (sP gr (dP A c 0 1) p5 c Bs p3 q1 k1 p4 bd W5 Hr7.out (Hrd.out _ Hbl7.out) hmx hcm oM hq1 hq1e oM).mono ?_;rintro e w6 ⟨rfl,hr6,hk6⟩;obtain ⟨Hr6,Hbl8,Hh8,HH8⟩:=hqq4 hr6 (Hkb.out _ _ Hbl7.out hsz7 hk6) (hk6.bk Hh7.out oM) (hk6.bk HH0.out oM);have hsz8:gr < w6.heap.size:=hr6.lt;clear hr6 hk6 Hr7 Hbl7 Hh7 HH0 hsz7;go_wp2_with fail;refine (sP gr (dP A c 0 1) p5 c Bs p4 q2 k2 p5 bd w6 Hr6.out (Hrd.out _ Hbl8.out) hmx hcm oM hq2 oM oM).mono ?_;rintro e w7 ⟨rfl,hr7,hk7⟩;have d2:w7.cell? ⟨gr,2,none⟩=some (.bool false):=hr7.cell 2;obtain ⟨Hbl9,Hh9⟩:=hqq2 (Hkb.out _ _ Hbl8.out hsz8 hk7) (hk7.bk Hh8.out oM);have hH9:=hk7.bk HH8.out oM;have HH9:=lhd hH9;have g0:w7.cell? ⟨gH,0,none⟩=some (.int .i64 (most:Int)):=hH9.cell 0;have g1:w7.cell? ⟨gH,1,none⟩=some (.int .i64 (rate:Int)):=hH9.cell 1;have g2:w7.cell? ⟨gH,2,none⟩=some (.int .i64 (N:Int)):=hH9.cell 2;clear hr7 hk7 Hr6 Hbl8 Hh8 HH8 hsz8 hH9;have r1:¬((rate:Int) < 1):=oM;have r2:decide ((rate:Int) < 1)=false:=zBy r1;have r3:¬((N:Int) > (most:Int)):=oM;have r4:decide ((N:Int) > (most:Int))=false:=zBy r3;have r5:decide (most < N)=false:=zBy oM;go_wp2_with fail;have hrf:=((Hrd.out _ Hbl9.out).cut (k:=q1) (cap:=c) oM hmx).cut_hi (k:=k1) oM;have hft:((bd.map bv).drop (q1*1)).take (k1*1)=(gM L).map bv:=by rw [zBl,zBl,<-List.map_drop,<-List.map_take,hq1t]
 rw [hft] at hrf;have hgb:=aBq (jN L) (aCh Hlt.out) (by rw [oG,Hlen.out];omega) ((N:Int)+1) (by rw [oG,Hlen.out];omega) [];rw [List.append_nil,zBx rfl] at hgb;refine (aHa (dP (dP A c 0 1) c q1 1) k1 (c - q1) Bs (gM L) ((N:Int)+1) w7 (jN L) (N+1) 0 hgb (by rw [oG,Hlen.out]) hrf (by have:=Hbl9.out.size;omega) oM oM oM oM).mono ?_;rintro e w8 ⟨A8,c8,rfl,hm8,hb8⟩;have hm8r:=hm8.rd;rw [<-aKp] at hm8r;have hbk:=zA A8 c8 w8.heap.size t rs w8 Hs.out (by rw [HL.out,HN.out];exact hm8r) nL (by rw [HN.out];omega);rw [HN.out] at hbk;have hgHl:gH < w7.heap.size:=HH9.out.lt;have Hbl10:=lhd (Hbl9.out.trans (hb8.mono (by have:=Hbl9.out.size;omega)));obtain ⟨Hh10,HH10⟩:=hqq2 (Hh9.out.below hb8 Hh9.out.lt) (HH9.out.below hb8 HH9.out.lt);clear hm8 hb8 hm8r hgb hft hrf g0 g1 g2 d2 r1 r2 r3 r4 r5 hq1 hq2 hq1t hq2t HH9 Hh9 Hbl9 Hrd Hkb Hat hgHl;go_wp2_with fail;refine hbk.mono ?_;clear hbk;rintro e w9 ⟨A9,c9,rfl,hm9,hb9⟩;have hH11:=HH10.out.below hb9 HH10.out.lt;have Hbl11:=lhd (Hbl10.out.trans (hb9.mono (by have:=Hbl10.out.size;omega)));obtain ⟨Hh11,HH11,Hm9⟩:=hqq3 (Hh10.out.below hb9 Hh10.out.lt) hH11 hm9.rd;have g1:w9.cell? ⟨gH,1,none⟩=some (.int .i64 (rate:Int)):=hH11.cell 1;clear hb9 hm9 hH11 Hbl10 Hh10 HH10;go_wp2_with fail
 have hnew:=sU rate (some ⟨w9.heap.size,0,none⟩) 1 1 (w9.heap.size+1) [(⟨A9,N,c9,t⟩:Sl)] t N (by simp [iE]) HN.out (w9.alloc (.cells #[.slice A9 N c9] 26)) ((Rd.made w9 _ 1 1 _ rfl).mono (by simp)) (by
  intro s hs;simp at hs;subst hs;exact (Hm9.out.alloc nL _).mono oM) (by simp) oM hn hr1 hr2
 refine hnew.mono ?_;clear hnew;rintro e w10 ⟨gl,ownl,rfl,hgl,hla,hb10⟩;have HlaE:=lhd hla;obtain ⟨gk,gp,mvl,Tl,rs',prl,htx,_,_⟩:=hla;have hs':=htx.suf;have hrtl:=htx.right;have hrs:=hs'.unique Hs.out;subst hrs;have hla:=htx.live.g htx.tal;rw [HL.out,HN.out] at hla;have hb910:=((Below.refl w9.heap.size w9).alloc nL (.cells #[.slice A9 N c9] 26)).trans (hb10.mono (by simp));have hH12:=HH11.out.below hb910 HH11.out.lt;have Hbl12:=lhd (Hbl11.out.trans (hb910.mono (by have:=Hbl11.out.size;omega)));obtain ⟨Hh12,HH12⟩:=hqq2 (Hh11.out.below hb910 Hh11.out.lt) hH12;have g0:w10.cell? ⟨gH,0,none⟩=some (.int .i64 (most:Int)):=hH12.cell 0;have hgl9:gH < w9.heap.size:=HH11.out.lt;have hgh9:gh < w9.heap.size:=Hh11.out.lt;have Hla:=HlaE;have Hs':=lhd hs';rw [World.size_alloc] at hla;have hs910:w9.heap.size+1<=w10.heap.size:=by have:=hb10.size;simpa using this
 have hsave:=sM (w9.heap.size+1) gl gk gp rate most t rs' prl w10 (by rw [HL.out,HN.out];exact hla) hrtl hs' (by rw [HN.out];omega) hr1 hr2 (by rw [HN.out];omega) hm2;unfold fG at hsave;rw [HL.out,HN.out,Hsl.out] at hsave;have hb8s:=Hbl12.out.size;clear hla hs' htx hrtl HlaE hb10 hb910 hH12 g1 Hbl11 Hh11 HH11 Hm9 hgl;go_wp2_with fail;refine hsave.mono ?_;clear hsave;rintro e w11 ⟨A11,c11,rfl,hm11,hv11⟩;have hk11:Below (w9.heap.size+1) w10 w11:=hv11.2.to_below hs910 (fun b hb e=>by omega);have hw11:=hv11.1.size;have hH13:Bk w11 gH 30 (rQ most rate N):=HH12.out.below hk11 oM;have hh13:Bk w11 gh 30 #[.int .i64 0,.int .i64 0,.int .i64 0]:=Hh12.out.below hk11 oM;have Hbl13:=lhd (Hbl12.out.trans (hk11.mono oM));have heq:=zK A11 A (p5+4) (p5+4) c11 c w11.heap.size (fC L rs' most rate N) (fC L rs' most rate N) w11 hm11.rd ((Hr.out.below (Hbl13.out.mono hB)).mono oM);rw [beq_self_eq_true] at heq;obtain ⟨HH13,Hh13,Hla13⟩:=hqq3 hH13 hh13 (Hla.out.vis hv11.1);clear hm11 hv11 hk11 hH13 hh13 Hbl12 Hh12 HH12 g0 Hla;go_wp2_with fail;refine heq.mono ?_;clear heq;rintro e w12 ⟨rfl,hb12⟩;have hH14:=HH13.out.below hb12 HH13.out.lt;have hh14:=Hh13.out.below hb12 Hh13.out.lt;obtain ⟨Hbl14,Hla14,HH14,Hh14⟩:=hqq4 (Hbl13.out.trans (hb12.mono oM)) (Hla13.out.vis (Vis.of_below hb12)) hH14 hh14;clear hb12 hH14 hh14 Hbl13 HH13 Hh13 Hla13;go_wp2_with fail;have g0:w12.cell? ⟨gH,0,none⟩=some (.int .i64 (most:Int)):=HH14.out.cell 0;have g1:w12.cell? ⟨gH,1,none⟩=some (.int .i64 (rate:Int)):=HH14.out.cell 1;have g2:w12.cell? ⟨gH,2,none⟩=some (.int .i64 (N:Int)):=HH14.out.cell 2;have j0:w12.cell? ⟨gh,0,none⟩=some (.int .i64 0):=Hh14.out.cell 0;have j1:w12.cell? ⟨gh,1,none⟩=some (.int .i64 0):=Hh14.out.cell 1;have j2:w12.cell? ⟨gh,2,none⟩=some (.int .i64 0):=Hh14.out.cell 2;have f0:=Hh14.out.frozen 0;have f1:=Hh14.out.frozen 1;have f2:=Hh14.out.frozen 2;have hfin:Bk ((((w12.setCell ⟨gh,0,none⟩ (.int .i64 (most:Int))).setCell ⟨gh,1,none⟩ (.int .i64 (rate:Int))).setCell ⟨gh,2,none⟩ (.int .i64 (N:Int))).drew) gh 30 (rQ most rate N):=by have:=(((Hh14.out.set 0 (.int .i64 (most:Int))).set 1 (.int .i64 (rate:Int))).set 2 (.int .i64 (N:Int))).drew;simpa [rQ] using this
 have hbfin:Below gh w ((((w12.setCell ⟨gh,0,none⟩ (.int .i64 (most:Int))).setCell ⟨gh,1,none⟩ (.int .i64 (rate:Int))).setCell ⟨gh,2,none⟩ (.int .i64 (N:Int))).drew):=
  (((Hbl14.out.setCell (p:=⟨gh,0,none⟩) nL _).setCell (p:=⟨gh,1,none⟩) nL _).setCell (p:=⟨gh,2,none⟩) nL _).drew
 have hsame:∀b t cs,t≠30->Bk w12 b t cs->Bk ((((w12.setCell ⟨gh,0,none⟩ (.int .i64 (most:Int))).setCell ⟨gh,1,none⟩ (.int .i64 (rate:Int))).setCell ⟨gh,2,none⟩ (.int .i64 (N:Int))).drew) b t cs:=fun b t cs ht hb=>by
  have hne:b≠gh:=fun e=>by subst e;exact ht (vZ hb Hh14.out)
  exact (((hb.far (p:=⟨gh,0,none⟩) hne _).far (p:=⟨gh,1,none⟩) hne _).far (p:=⟨gh,2,none⟩) hne _).drew
 have hkfin:Keep (fun b=>b=gh) w12 ((((w12.setCell ⟨gh,0,none⟩ (.int .i64 (most:Int))).setCell ⟨gh,1,none⟩ (.int .i64 (rate:Int))).setCell ⟨gh,2,none⟩ (.int .i64 (N:Int))).drew):=
  (((((Keep.refl (fun b=>b=gh) w12).setCell (p:=⟨gh,0,none⟩) (.inl rfl) _).setCell (p:=⟨gh,1,none⟩) (.inl rfl) _).setCell (p:=⟨gh,2,none⟩) (.inl rfl) _)).drew
 have hlaf:=(Hla14.out.far0 hkfin fun b e=>by
  have e':b=gh:=e;subst e';by_cases c:ownl b=0;exact c
  · have:=(Hla14.out.bnd b c).1;rw [World.size_alloc] at this;omega).low (B':=gh) (by rw [World.size_alloc];omega)
 obtain ⟨Hfin,Hbfin,Htfin⟩:=hqq3 hfin hbfin hlaf;clear hfin hbfin hsame hlaf hkfin
 go_region
 go_wp2_with fail;subst hgh;refine aIB rfl rfl rfl Hfin.out ⟨_,Htfin.out⟩ (VisK.of_below Hbfin.out)
end
section
open Go.RowKit
open Classical in
theorem VisF.split {G:Nat->Prop} {w w':World} (h:VisF G w w'):∃w1,Keep G w w1/\Vis w1 w':=by
 let hp:Array Obj:=Array.ofFn (n:=w'.heap.size) fun i=>if hb:i.val < w.heap.size/\¬G i.val then w.heap[i.val]'hb.1 else w'.heap[i.val]
 have hsz:hp.size=w'.heap.size:=Array.size_ofFn;have hget:∀b,b < w'.heap.size->hp[b]?=if b < w.heap.size/\¬G b then w.heap[b]? else w'.heap[b]?:=fun b hb=>by
  rw [zAq oM,Array.getElem_ofFn];by_cases c:b < w.heap.size/\¬G b
  · rw [zBx c,dif_pos c,zAq c.1]
  · rw [zBw c,dif_neg c,zAq hb]
 refine ⟨{ w' with heap:=hp },⟨h.os,h.tape,h.output,?_,fun k hk hn=>?_⟩,⟨rfl,rfl,rfl,?_,fun b hb _=>?_⟩⟩;show w.heap.size<=hp.size;rw [hsz];exact h.size
 · show hp[k]?=w.heap[k]?;rw [hget k (zAl hk h.size),zBx ⟨hk,hn⟩]
 show hp.size<=w'.heap.size;omega;have hb':b < w'.heap.size:=(by have:b < hp.size:=hb;omega);have hg:({ w' with heap:=hp }:World).heap[b]?=if b < w.heap.size/\¬G b then w.heap[b]? else w'.heap[b]?:=hget b hb';by_cases c:b < w.heap.size/\¬G b;rw [zBx c] at hg;have hbk:∀t cs,Bk w b t cs->Bk { w' with heap:=hp } b t cs:=fun t cs k=>hg.trans k;rcases h.block b c.1 c.2 with e |⟨cs,v,h1,h2⟩|⟨cs,v,h1,h2⟩;exact .inl (by rw [hg];exact e);exact .inr (.inl ⟨cs,v,hbk _ _ h1,h2⟩);exact .inr (.inr ⟨cs,v,hbk _ _ h1,h2⟩);rw [zBw c] at hg;exact .inl hg.symm
theorem LiveE.visF {w w':World} {B:Nat} {own:Nat->Nat} {gl:Nat} {t:List UInt8} {rate:Nat} {G:Nat->Prop} (h:LiveE w B own gl t rate) (k:VisF G w w') (hG:∀b,G b->own b=0):LiveE w' B own gl t rate:=by
 obtain ⟨w1,h1,h2⟩:=k.split;exact (h.far0 h1 hG).vis h2
end
section
open Go.RowKit
structure StAt (w:World) (B:Nat) (own:Nat->Nat) (gs gl most rate:Nat) (t:List UInt8):Prop where
 blk:Bk w gs 115 #[gl,(most:Int)]
 low:B<=gs
 col:own gs=0
 live:LiveE w B own gl t rate
 n127:t.length<=127
 len:t.length<=most
 max:most<=2147483648
 r1:1<=rate
 r2:rate<=64
section
variable {w w' : World} {B gs gl most rate : Nat} {own own' : Nat -> Nat} {t : List UInt8}
theorem StAt.tp (h:StAt w B own gs gl most rate t):TpAt w B gl t rate:=h.live.tp h.n127
theorem StAt.vb (h:StAt w B own gs gl most rate t) (k:Vis w w'):StAt w' B own gs gl most rate t:=
 ⟨k.bk h.blk dC dC,h.low,h.col,h.live.vis k,h.n127,h.len,h.max,h.r1,h.r2⟩
theorem StAt.size (h:StAt w B own gs gl most rate t):B<=w.heap.size:=by have:=h.low;have:=h.blk.lt;omega
theorem StAt.fresh (h:StAt w B own gs gl most rate t) {b:Nat} (hb:w.heap.size<=b):own b=0:=Nat.eq_zero_of_not_pos fun c=>by have:=(h.live.bnd b oM).2;omega
theorem StAt.llen {N:Nat} (h:StAt w B own gs gl most rate t) (hN:t.length=N):Calls Tryz.prog 37 #[gl] w fun e w'=>e=.returned (.int .i64 (N:Int))/\w=w':=by
 obtain ⟨rs,gk,gp,pr,hs,hl,hrt,hz0,hn127⟩:=h.tp;exact cB B gl _ N w hl.lvw (by rw [bU,hs.len,aT,hN]) oM
end
structure LFS (B gs:Nat) (w w':World) (own own':Nat->Nat):Prop where
 old:∀b,b < w.heap.size->own' b≠0->own b≠0
 vis:VisF (fun b=>own b≠0∨b=gs) w w'
 keep:Keep (fun b=>B<=b) w w'
section
variable {B gs : Nat} {w w1 w' : World} {own own1 own' : Nat -> Nat}
theorem LFS.refl (B gs:Nat) (w:World) (own:Nat->Nat):LFS B gs w w own own:=⟨fun _ _ h=>h,VisF.of_vis (Vis.refl w),Keep.refl _ _⟩
theorem LFS.size (h:LFS B gs w w' own own'):w.heap.size<=w'.heap.size:=h.keep.size
theorem LFS.trans (h:LFS B gs w w1 own own1) (k:LFS B gs w1 w' own1 own'):LFS B gs w w' own own':=by
 have hs:=h.keep.size;refine ⟨fun b hb f=>h.old b hb (k.old b oM f),h.vis.trans' k.vis fun b hb f=>?_,h.keep.trans k.keep⟩;rcases f with f | f;exact .inl (h.old b hb f);exact .inr f
theorem LFS.of_vb (gs:Nat) (own:Nat->Nat) (k:VB B w w'):LFS B gs w w' own own:=⟨fun _ _ h=>h,VisF.of_vis k.1,k.2⟩
theorem LFS.of_below (B gs:Nat) (own:Nat->Nat) (k:Below w.heap.size w w'):LFS B gs w w' own own:=LFS.of_vb gs own (VisK.of_below k)
theorem LFS.below (k:LFS B gs w w' own own') (hB:B<=w.heap.size):Below B w w':=k.keep.to_below hB fun b hb f=>by have f':B<=b:=f;omega
theorem LFS.zero (k:LFS B gs w w' own own') {b:Nat} (hb:b < w.heap.size) (h0:own b=0):own' b=0:=by
 by_cases c:own' b=0;exact c;exact absurd h0 (k.old b hb c)
theorem LFS.bk (k:LFS B gs w w' own own') {b:Nat} {t:TypeId} {cs:Array Value} (h:Bk w b t cs) (h0:own b=0) (hg:b≠gs) (h1:t≠202) (h2:t≠154):Bk w' b t cs:=
 k.vis.bk h h1 h2 fun f=>f.elim (fun f=>f h0) hg
structure Ap (own:Nat->Nat) (gs b:Nat):Prop where
 col:own b=0
 ne:b≠gs
theorem Ap.step {b:Nat} (h:Ap own gs b) (k:LFS B gs w w' own own') (hb:b < w.heap.size):Ap own' gs b:=⟨k.zero hb h.col,h.ne⟩
def MadeZ (w:World) (own:Nat->Nat) (gs:Nat) (e:TypeId) (A:Option Addr) (n c:Nat) (xs:List Value):Prop:=Made w 0 e 1 A n c xs/\∀a,A=some a->a.block < w.heap.size/\Ap own gs a.block
theorem MadeZ.step {e:TypeId} {A:Option Addr} {n c:Nat} {xs:List Value} (h:MadeZ w own gs e A n c xs) (k:LFS B gs w w' own own') (h1:e≠202) (h2:e≠154):MadeZ w' own' gs e A n c xs:=by
 have h3:w'.ownsRow 0 e 1 (.slice A n c) n xs:=aA h.1.own fun b cs hb hbk=>by
  rcases A with _ | a
  · cases hb
  have e1:a.block=b:=(by simpa [Value.ownBlock] using hb);have:=(h.2 a rfl).2;rw [e1] at this;exact k.bk hbk this.col this.ne h1 h2
 refine ⟨⟨h3,Rd.of_own h3,h.1.cap,h.1.max⟩,fun a ha=>?_⟩;have:=h.2 a ha;exact ⟨zAl this.1 k.size,this.2.step k this.1⟩
def ArgZ (w:World) (B:Nat) (own:Nat->Nat) (gs:Nat) (A:Option Addr) (n:Nat) (D:List UInt8):Prop:=
 Rd w w.heap.size 1 A n (D.map bv)/\(0 < n->∀a,A=some a->a.block < B∨(Ap own gs a.block/\∃cs fr,w.heap[a.block]?=some (.cells cs 5 fr)))
theorem VisF.same {F:Nat->Prop} {b:Nat} {cs:Array Value} {t:TypeId} {fr:Nat×Nat} (k:VisF F w w') (h:w.heap[b]?=some (.cells cs t fr)) (hn:¬F b) (h1:t≠202) (h2:t≠154):w'.heap[b]?=w.heap[b]?:=by
 rcases k.block b (lt_of_block h) hn with e |⟨cs',v,e1,e2⟩|⟨cs',v,e1,e2⟩;exact e;exfalso;unfold Bk at e1;rw [h] at e1;injection e1 with e1;injection e1 with _ e1;exact h1 e1;exfalso;unfold Bk at e1;rw [h] at e1;injection e1 with e1;injection e1 with _ e1;exact h2 e1
theorem ArgZ.step {A:Option Addr} {n:Nat} {D:List UInt8} (h:ArgZ w B own gs A n D) (k:LFS B gs w w' own own'):ArgZ w' B own' gs A n D:=by
 have hs:=k.size;rcases zBa n with h0 | h0;subst h0;have:D= []:=(by simpa using h.1.1);subst this;exact ⟨Rd.nil _ _ _ _,fun hh=>absurd hh oM⟩;obtain ⟨b,off,rfl,hb,hc⟩:=h.1.2 h0;have hsame:w'.heap[b]?=w.heap[b]?:=(by rcases h.2 h0 _ rfl with q |⟨q,cs,fr,e⟩;exact k.keep.block b hb (by have q':b < B:=q;omega);exact k.vis.same e (fun f=>f.elim (fun f=>f q.col) q.ne) dC dC);refine ⟨⟨h.1.1,fun _=>⟨b,off,rfl,by omega,fun j u hu=>by rw [<-hc j u hu];exact World.cell?_of_block hsame⟩⟩,fun _ a ha=>?_⟩;injection ha with ha;subst ha;rcases h.2 h0 _ rfl with q |⟨q,cs,fr,e⟩;exact .inl q;exact .inr ⟨q.step k hb,cs,fr,hsame.trans e⟩
theorem ArgZ.old {B0:Nat} {A:Option Addr} {n:Nat} {D:List UInt8} (h:Rd w B0 1 A n (D.map bv)) (hB0:B0<=B) (hB:B<=w.heap.size):ArgZ w B own gs A n D:=
 ⟨h.mono oM,fun h0 a ha=>by
  obtain ⟨b,off,e,hb,_⟩:=h.2 h0;rw [e] at ha;injection ha with ha;subst ha;exact .inl (by show b < B;omega)⟩
theorem ArgZ.made {A:Option Addr} {n c:Nat} {D:List UInt8} (h:MadeZ w own gs 5 A n c (D.map bv)):ArgZ w B own gs A n D:=
 ⟨h.1.rd,fun h0 a ha=>by
   have h1:=(h.2 a ha).2
   obtain ⟨g,cap,cur,e1,_,e2,_⟩:=h.1.own.2.resolve_left (fun q=>by
     have:=q.1;injection this with q1;rw [q1] at ha;cases ha)
   injection e1 with e1;rw [e1] at ha;injection ha with ha;subst ha;exact .inr ⟨h1,cur,_,e2⟩⟩
theorem ArgZ.vis {A:Option Addr} {n:Nat} {D:List UInt8} (h:ArgZ w B own gs A n D) (k:Below w.heap.size w w'):ArgZ w' B own gs A n D:=h.step (LFS.of_below B gs own k)
theorem StAt.far {gl most rate:Nat} {t:List UInt8} {H:Nat->Prop} (h:StAt w B own gs gl most rate t) (k:Keep H w w') (hH:∀b,H b->Ap own gs b):StAt w' B own gs gl most rate t:=
 ⟨k.bk h.blk fun f=>(hH _ f).ne rfl,h.low,h.col,h.live.far0 k fun b f=>(hH b f).col,h.n127,h.len,h.max,h.r1,h.r2⟩
def Two (own1:Nat->Nat) (gs1:Nat) (own2:Nat->Nat) (gs2:Nat):Prop:=∀b,own1 b≠0∨b=gs1->Ap own2 gs2 b
end
theorem StAt.other {w w':World} {B B1 gs1 gs2 gl2 most2 rate2:Nat} {own1 own1' own2:Nat->Nat} {t2:List UInt8} (h:StAt w B own2 gs2 gl2 most2 rate2 t2) (k:LFS B1 gs1 w w' own1 own1') (ht:Two own1 gs1 own2 gs2):StAt w' B own2 gs2 gl2 most2 rate2 t2/\Two own1' gs1 own2 gs2:=by
 refine ⟨⟨k.vis.bk h.blk dC dC fun f=>(ht _ f).ne rfl,h.low,h.col,h.live.visF k.vis fun b f=>(ht b f).col,h.n127,h.len,h.max,h.r1,h.r2⟩,fun b hb=>?_⟩;rcases hb with hb | hb;by_cases c:b < w.heap.size;exact ht b (.inl (k.old b c hb));exact ⟨h.fresh oM,by have:=h.blk.lt;omega⟩;exact ht b (.inr hb)
theorem Two.symm {own1 own2:Nat->Nat} {gs1 gs2:Nat} (h:Two own1 gs1 own2 gs2) (h1:own1 gs1=0) (h2:own2 gs2=0):Two own2 gs2 own1 gs1:=fun b hb=>by
 refine ⟨?_,fun e=>?_⟩;by_cases c:own1 b=0;exact c;have:=h b (.inl c);rcases hb with hb | hb;exact absurd this.col hb;exact absurd hb this.ne;have:=h b (.inr e);rcases hb with hb | hb;exact hb this.col;exact this.ne hb
theorem mB (B:Nat) (own:Nat->Nat) (gs gl most rate N:Nat) (t:List UInt8) (p n:Int) (w:World) (h:StAt w B own gs gl most rate t) (hN:t.length=N):
 Calls Tryz.prog 130 #[gs,.int .i64 p,.int .i64 n] w fun e w'=>e=.returned (.bool (eD N p n))/\w=w':=by
 have hll:=h.llen hN;have hN127:N<=127:=by have:=h.n127;omega
 have c0:=h.blk.cell 0;have HL:=lhd hll;clear hll h;unfold eD;by_cases h1:0<=p
 · by_cases h2:0<=n
   · by_cases h3:p<=(N:Int)
     · have e1:IntKind.i64.wrap ((N:Int) - p)=(N:Int) - p:=(by rw [IntKind.wrap_i64];omega);have d1:decide (0<=p)=true:=zBz h1;have d2:decide (0<=n)=true:=zBz h2;have d3:decide (p<=(N:Int))=true:=zBz h3;go_enter Tryz.func130,Tryz.ntmps130;go_wp2_with fail;refine HL.out.mono ?_;rintro e w1 ⟨rfl,rfl⟩;go_wp2_with fail;refine HL.out.mono ?_;rintro e w1 ⟨rfl,rfl⟩;go_wp2_with fail;go_ret;refine ⟨?_,rfl⟩
       first | rfl |(show Ending.returned (Value.bool (decide (n<=(N:Int) - p)))=_;congr 2;exact decide_eq_decide.2 oM)
     · have d1:decide (0<=p)=true:=zBz h1;have d2:decide (0<=n)=true:=zBz h2;have d3:decide (p<=(N:Int))=false:=zBy h3;go_enter Tryz.func130,Tryz.ntmps130;go_wp2_with fail;refine HL.out.mono ?_;rintro e w1 ⟨rfl,rfl⟩;go_wp2_with fail;go_ret;refine ⟨?_,rfl⟩;show Ending.returned (Value.bool false)=_;rw [zBy oM]
   · have d1:decide (0<=p)=true:=zBz h1;have d2:decide (0<=n)=false:=zBy h2;go_enter Tryz.func130,Tryz.ntmps130;go_wp2_with fail;go_ret;exact ⟨rfl,rfl⟩
 · have d1:decide (0<=p)=false:=zBy h1;go_enter Tryz.func130,Tryz.ntmps130;go_wp2_with fail;go_ret;exact ⟨rfl,rfl⟩
def oH (kind n:Int) (m:Nat):Int:=if kind=1 then 0 else if kind=3 then (m:Int) else n
theorem jS (B:Nat) (own:Nat->Nat) (gs gl most rate N:Nat) (t:List UInt8) (kind p n:Int) (A:Option Addr) (m c:Nat) (w:World) (h:StAt w B own gs gl most rate t) (hN:t.length=N) (hno:eD N p (oH kind n m)=false):
 Calls Tryz.prog 74 #[gs,.agg #[.int .i64 kind,.int .i64 p,.int .i64 n,.slice A m c]] w fun e w'=>e=.returned (.int .i64 2)/\Below w.heap.size w w':=by
 have hb:Below w.heap.size w (w.alloc (.cells #[.int .i64 kind,.int .i64 p,.int .i64 n,.slice A m c] 46)):=bR.alloc nL _;have hh:=fun q=>mB B own gs gl most rate N t p q _ (h.vb (Vis.of_below hb)) hN;have Hb:=lhd hb;have hbk:=Bk.new w 46 #[.int .i64 kind,.int .i64 p,.int .i64 n,.slice A m c];have c0:=hbk.cell 0;have c1:=hbk.cell 1;have c2:=hbk.cell 2;have c3:=hbk.cell 3;have HH:=lhd hh;clear h hb hbk hh;unfold oH at hno;by_cases h1:kind=1
 · subst h1;rw [zBx rfl] at hno;have Hno:=lhd hno;clear hno;go_enter Tryz.func74,Tryz.ntmps74;go_wp2_with fail;refine (HH.out 0).mono ?_;rintro e w1 ⟨rfl,rfl⟩;rw [Hno.out];go_wp2_with fail;go_ret;exact ⟨rfl,Hb.out⟩
 · rw [zBw h1] at hno;by_cases h3:kind=3
   · subst h3;rw [zBx rfl] at hno;have Hno:=lhd hno;clear hno;go_enter Tryz.func74,Tryz.ntmps74;go_wp2_with fail;refine (HH.out (m:Int)).mono ?_;rintro e w1 ⟨rfl,rfl⟩;rw [Hno.out];go_wp2_with fail;go_ret;exact ⟨rfl,Hb.out⟩
   · rw [zBw h3] at hno;have Hno:=lhd hno;have b1:(kind==1)=false:=zCb.2 h1;have b3:(kind==3)=false:=zCb.2 h3;clear hno;go_enter Tryz.func74,Tryz.ntmps74;go_wp2_with fail;refine (HH.out n).mono ?_;rintro e w1 ⟨rfl,rfl⟩;rw [Hno.out];go_wp2_with fail;go_ret;exact ⟨rfl,Hb.out⟩
structure EdW (w W:World) (B:Nat) (own:Nat->Nat) (gs gl most rate:Nat) (t:List UInt8) (kind p n:Int) (A:Option Addr) (m c:Nat):Prop where
 low:Below w.heap.size w W
 box:Bk W w.heap.size 46 #[.int .i64 kind,.int .i64 p,.int .i64 n,.slice A m c]
 st:StAt W B own gs gl most rate t
 ap:Ap own gs w.heap.size
theorem EdW.mk' {w:World} {B:Nat} {own:Nat->Nat} {gs gl most rate:Nat} {t:List UInt8} (kind p n:Int) (A:Option Addr) (m c:Nat) (h:StAt w B own gs gl most rate t):
 EdW w (w.alloc (.cells #[.int .i64 kind,.int .i64 p,.int .i64 n,.slice A m c] 46)) B own gs gl most rate t kind p n A m c:=by
 have hb:Below w.heap.size w (w.alloc (.cells #[.int .i64 kind,.int .i64 p,.int .i64 n,.slice A m c] 46)):=bR.alloc nL _;exact ⟨hb,Bk.new w _ _,h.vb (Vis.of_below hb),⟨h.fresh nL,by have:=h.blk.lt;omega⟩⟩
end
end Go.Proofs.YthldmddkfbijhaaGreatDoor
