/- Lemmas of the walk. Conditions: each its own. -/
import Derived.Test.YthldmddkfbijhaaGreatDoorPsr40
import Derived.Test.YthldmddkfbijhaaGreatDoorPsr43
import Derived.Test.YthldmddkfbijhaaGreatDoorProg
import Derived.Test.YthldmddkfbijhaaGreatDoorSht
import Derived.Test.YthldmddkfbijhaaGreatDoorShl
import Derived.Test.YthldmddkfbijhaaGreatDoorShi
import Derived.Test.YthldmddkfbijhaaGreatDoorShs
set_option linter.all false
set_option maxRecDepth 100000
set_option maxHeartbeats 4000000
namespace Go.Proofs.YthldmddkfbijhaaGreatDoor
section
open Go.RowKit
theorem aG5 (B:Nat) (own:Nat->Nat) (gs gl most rate:Nat) (t D T2:List UInt8) (kind p n:Int) (A:Option Addr) (m c:Nat) (code num:Int) (data:List UInt8) (places:List Nat) (n1 n2:Nat) (w:World) (h2:doM t (most:Int) kind p n D=(T2,⟨code,num,data,places⟩)) (e1:data.length=n1) (e2:places.length=n2)
 (h:StAt w B own gs gl most rate t) (hD:ArgZ w B own gs A m D) (hm:m<=1000000) (hT:TabW w) (hB0:1 < B) (h127:T2.length<=127):
 Calls Tryz.prog 22 #[gs,.agg #[.int .i64 kind,.int .i64 p,.int .i64 n,.slice A m c]] w (sJ w B own gs most rate T2 code num data places n1 n2):=
 (yX B own gs gl most rate t D T2 _ kind p n A m c w h2 h hD hm hT hB0 h127).mono fun e w'=>StDone.v h.blk.lt e1 e2
theorem aJ2 (T D:List UInt8) (most p:Nat) (k:Int) (hp:p<=T.length) (hm:T.length+D.length<=most):doM T (most:Int) 1 (p:Int) k D=(T.take p++(D++T.drop p),⟨0,0, [], []⟩):=by
 have h1:eD T.length (p:Int) 0=true:=zBz oM;have h2:¬(most:Int) -(T.length:Int) < (D.length:Int):=oM;unfold doM;rw [zBx rfl,h1,zBw dC,zBw h2,zBr]
end
section
open Go.ChangeShapes Go.WideShapes Go.ChangeAt Go.RowKit Go.Deep
theorem aI5 {H:Type} {enc:TypeId×Value->H} {w:World} {cs:Array Value} {d:DataW H} {p:List MemPlace}
 (h:DataW.Trod enc Tryz.prog w 0 (fun _=>true) true 46 (.agg cs) d p):∃s:Stp,cs=#[.int .i64 s.kind,.int .i64 s.p,.int .i64 s.k,.slice s.A s.n s.c]/\s.good w:=by
 obtain ⟨fuel,hf⟩:=h;obtain ⟨s,hs,hg⟩:=wN hf;refine ⟨s,?_,hg⟩;cases cs;simpa [Value.cells,jO,iv] using hs
end
section
open Go.RowKit
theorem aCE (w:World):Calls Tryz.prog 176 #[.int .i64 0] w fun e w'=>e=.returned (.int .i64 1)/\w=w':=by
 go_enter Tryz.func176,Tryz.ntmps176;go_wp2;go_loopw [3,5] (fun x i wr=>i=.int .i64 0/\x=.int .i64 1/\wr=w) (fun _ i _=>1 -(intOf i).toNat)
 case atStart=>exact ⟨rfl,rfl,rfl⟩
 case round=>obtain ⟨rfl,rfl,rfl⟩:=hrel;go_wp2;go_ret;exact ⟨rfl,rfl⟩
theorem aEb (n:Int) (w:World) (h0:0<=n) (h1:n<=1099511627776):
 Calls Tryz.prog 177 #[.int .i64 n] w fun e w'=>e=.returned (.int .i64 (n / 128*4+n % 128*4 / 128))/\w=w':=by
 go_enter Tryz.func177,Tryz.ntmps177;go_wp2;go_ret;exact ⟨rfl,rfl⟩
theorem aGi (n:Int) (w:World) (h1:0 < n) (h2:n<=1099511627776):
 Calls Tryz.prog 128 #[.agg #[.int .i64 n,.int .i64 0,.int .i64 1,.int .i64 1]] w fun e w'=>e=.returned (.bool true)/\Below w.heap.size w w':=by
 have t0:(n==0)=false:=by rw [zCb];omega
 have t1:decide (n > 0)=true:=zBz h1;have t1':decide (0 < n)=true:=zBz h1;have t2:decide ((0:Int)<=n / 128*4+n % 128*4 / 128)=true:=zBz oM;go_enter Tryz.func128,Tryz.ntmps128;go_wp2_with fail
 go_quiet (first
  |(go_at_call 176;exact qA (aCE _))
  |(go_at_call 177;exact qA (aEb _ _ oM oM)))
 go_wp2;go_ret;exact ⟨rfl,below_drewN (bR.alloc nL _) _⟩
theorem aGQ (A:Option Addr) (m c:Nat) (l:List Shp) (N:Int) (R:List Shp) (B:Nat) (w:World) (hr:Rd w B 4 A m (cD l)) (hB:B<=w.heap.size) (hm:m<=65536) (hl:l=⟨N,0,1,1⟩::R)
 (hs:∀s∈l,∃n:Int,0 < n/\n<=1099511627776/\s=⟨n,0,1,1⟩):
 Calls Tryz.prog 71 #[.slice A m c,.int .i64 N] w fun e w'=>e=.returned (.bool true)/\Below w.heap.size w w':=by
 have hll:l.length=m:=by have:=hr.1;rw [qW] at this;omega
 have hm0:0 < m:=by rw [<-hll,hl];simp
 obtain ⟨b,off,rfl,hbl,hc⟩:=(hr.mono hB).2 hm0;have hget:∀k s,l[k]?=some s->∀w',Below w.heap.size w w'->w'.cell? ⟨b,off+k*4,none⟩=some (.int .i64 s.len)/\w'.cell? ⟨b,off+k*4+1,none⟩=some (.int .i64 s.height)/\w'.cell? ⟨b,off+k*4+2,none⟩=some (.int .i64 s.leaves)/\w'.cell? ⟨b,off+k*4+3,none⟩=some (.int .i64 s.nodes):=fun k s hk w' hw=>
  ⟨(hw.cell hbl).trans (hc (k*4+0) _ ((dU l k 0 s hk oM).trans rfl)),(hw.cell hbl).trans (hc (k*4+1) _ ((dU l k 1 s hk oM).trans rfl)),(hw.cell hbl).trans (hc (k*4+2) _ ((dU l k 2 s hk oM).trans rfl)),(hw.cell hbl).trans (hc (k*4+3) _ ((dU l k 3 s hk oM).trans rfl))⟩
 obtain ⟨Hget,Hs,Hl,Hll⟩:=hqq4 hget hs hl hll;clear hr hc hget hs hl hll;go_enter Tryz.func71,Tryz.ntmps71;go_wp2_with fail;go_loopw [5] (fun i wr=>∃k:Nat,k<=m/\i=.int .i64 (k:Int)/\Below w.heap.size w wr) (fun i _=>m -(intOf i).toNat)
 case atStart=>exact ⟨0,zAp _,rfl,Below.refl _ _⟩
 case round=>
  obtain ⟨k,hk,rfl,hb⟩:=hrel;have hsz:=hb.size;by_cases hlt:k < m
  · obtain ⟨s,hsk⟩:∃s,l[k]?=some s:=⟨_,zAa (by rw [Hll.out];exact hlt)⟩;obtain ⟨d0,d1,d2,d3⟩:=Hget.out k s hsk wr hb;obtain ⟨n,hn1,hn2,rfl⟩:=Hs.out s (zAd hsk);simp only at d0 d1 d2 d3;have g1:decide (n < 1)=false:=zBy oM;have hM:∀W,Below wr.heap.size wr W->W.cell? ⟨b,off+k*4,none⟩=some (.int .i64 n):=fun W hW=>(hW.cell (by have:b < w.heap.size:=hbl;show b < wr.heap.size;omega)).trans d0;obtain ⟨HM,Hb⟩:=hqq2 hM hb;clear hsk hM hb;go_wp2_with fail;refine (aGi n wr hn1 hn2).mono ?_;rintro e w1 ⟨rfl,hb1⟩;have d4:=HM.out w1 hb1;have Hb1:=lhd (Hb.out.trans (hb1.mono hsz));clear hb1 HM Hb d0 d1 d2 d3;go_wp2_with fail;go_roundw
    case rel=>exact ⟨k+1,by omega,by go_num,Hb1.out⟩
    case measure=>simp [intOf];omega
  · have hk3:k=m:=oM;subst hk3;have d0:=(Hget.out 0 ⟨N,0,1,1⟩ (by rw [Hl.out];rfl) wr hb).1;simp only [Nat.zero_mul,zBq] at d0;have g1:decide ((k:Int) > 0)=true:=zBz oM;have g2:decide (0 < k)=true:=zBz hm0;have Hb:=lhd hb;clear hb;go_wp2_with fail;go_ret;exact ⟨by first | rfl | simp,Hb.out⟩
theorem aGb {w:World} {B gl gk gp rate N:Nat} {own:Nat->Nat} {mv:Int} {t:List UInt8} {T:List Nat} {rs:List Nat} {pr:List (Nat×Nat)} (h:TxM w B own gl gk gp rate mv (aG t) T N rs pr) (hN:t.length=N) (h0:Smp pr 0) (hg:pS (Smp pr) rate N) (hr:1<=rate):SampOk pr rs rate N/\pr.length<=1000:=by
 have hl:rs.length=N+1:=by have h1:=h.suf.len;rw [aT] at h1;omega
 obtain ⟨B1,ga,vl,vo,vt,vf,ks,C,tk,fr,_,h2,h3,h4,he⟩:=h.live.permR;have hget:∀k,k < pr.length->∃x,pr[k]?=some x/\aB pr k=x.1/\aH pr k=x.2/\x∈pr:=fun k hk=>by refine ⟨pr[k],zAa hk,?_,?_,zBj hk⟩;unfold aB;rw [zAb,zAa hk];rfl;unfold aH;rw [zAb,zAa hk];rfl
 refine ⟨⟨fun k hk=>?_,fun k hk=>?_,h0,hg,hl,hr⟩,by rw [he,zBc];exact h4⟩;obtain ⟨x,_,e1,e2,hx⟩:=hget k hk;have hx1:=h.right x hx;obtain ⟨q1,q2⟩:=zAc.1 hx1;rw [e1,e2];refine ⟨by omega,?_,hx1⟩;have:=h.suf.lt (p:=x.2) (by rw [<-q2];exact zBj q1);rw [aT] at this;omega
 · have hk1:k < ks.length:=(by rw [he,zBc] at hk;omega);have hk2:k+1 < ks.length:=(by rw [he,zBc] at hk;omega);have hp:=zAr.1 h2 k (k+1) hk1 hk2 oM;have e:∀j (hj:j < ks.length),aB pr j=aB C (ks[j]):=fun j hj=>by unfold aB;rw [zAb,he,zAf,zAa hj];rfl
   rw [e k hk1,e (k+1) hk2];exact hp
theorem aDA (gl:Nat) (a c d:Value) (gp R P:Nat) (pr:List (Nat×Nat)) (w:World) (hb:Bk w gl 92 #[a,gp,c,d]) (h:PermR w gp R P pr):
 Calls Tryz.prog 70 #[gl] w (mD w pr):=by
 have c1:=hb.cell 1;have hall:=sT gp R P pr w h;unfold mD at hall⊢;obtain ⟨n,hnn⟩:=eqx pr.length;rw [hnn] at hall⊢;clear h hnn hb;go_enter Tryz.func70,Tryz.ntmps70;go_wp2_with fail;refine hall.mono ?_;rintro e w2 ⟨A,c,rfl,hm,hv⟩;obtain ⟨Hm,Hv⟩:=hqq2 hm hv;clear hall hm hv;go_wp2_with fail;go_ret;exact ⟨A,c,rfl,Hm.out,Hv.out⟩
theorem aDz (B gl gk:Nat) (own:Nat->Nat) (b c d:Value) (L T:List Nat) (w:World) (hb:Bk w gl 92 #[gk,b,c,d]) (h:WalkE w B own gk L T):
 Calls Tryz.prog 72 #[gl] w (mZ w (shA L 9)):=by
 obtain ⟨gv,gt,h1,_,h2,_⟩:=h;have c0:=hb.cell 0;have d0:=h1.cell 0;have hall:=yF B gv own L w h2;unfold mZ at hall⊢;obtain ⟨n,hnn⟩:=eqx ((shA L 9).length);obtain ⟨X,hX⟩:=eqx (cD (shA L 9));rw [hnn,hX] at hall⊢;clear h1 h2 hnn hX hb;go_enter Tryz.func72,Tryz.ntmps72;go_wp2_with fail;refine hall.mono ?_;rintro e w2 ⟨v,rfl,ho,hv⟩;obtain ⟨Ho,Hv⟩:=hqq2 ho hv;clear hall ho hv;go_wp2_with fail;go_ret;exact ⟨v,rfl,Ho.out,Hv.out⟩
def tY (w:World) (rate N:Nat) (rs:List Nat) (e:Ending) (w':World):Prop:=∃A c pr m,e=.returned (.slice A m c)/\pr.length=m/\m<=1000/\SampOk pr rs rate N/\Rd w' w'.heap.size 2 A m (bS pr)/\Below w.heap.size w w'
theorem TxM.pairs {w:World} {B gl gk gp rate N:Nat} {own:Nat->Nat} {mv:Int} {t:List UInt8} {T:List Nat} {rs:List Nat} {pr:List (Nat×Nat)} (h:TxM w B own gl gk gp rate mv (aG t) T N rs pr) (hN:t.length=N) (h0:Smp pr 0) (hg:pS (Smp pr) rate N) (hr:1<=rate):
 Calls Tryz.prog 70 #[gl] w (tY w rate N rs):=by
 obtain ⟨h1,h2⟩:=aGb h hN h0 hg hr;refine (aDA gl _ _ _ gp _ _ pr w h.live.blk h.live.permR).mono ?_;rintro e w' ⟨A,c,rfl,hm,hb⟩;exact ⟨A,c,pr,_,rfl,rfl,h2,h1,hm.rd,hb⟩
def qQ (w:World) (N:Nat) (e:Ending) (w':World):Prop:=∃A c l m,e=.returned (.slice A m c)/\m<=1000/\Rd w' w'.heap.size 4 A m (cD l)/\(∃R,l=⟨((N+1:Nat):Int),0,1,1⟩::R)/\(∀s∈l,∃n:Int,0 < n/\n<=1000/\s=⟨n,0,1,1⟩)/\Below w.heap.size w w'
theorem TxM.shapes {w:World} {B gl gk gp rate N:Nat} {own:Nat->Nat} {mv:Int} {t:List UInt8} {T:List Nat} {rs:List Nat} {pr:List (Nat×Nat)} (h:TxM w B own gl gk gp rate mv (aG t) T N rs pr) (hN:t.length=N) (hN2:N<=900):
 Calls Tryz.prog 72 #[gl] w (qQ w N):=by
 refine (aDz B gl gk own _ _ _ _ T w h.live.blk h.live.walk).mono ?_;rintro e w' ⟨v,rfl,ho,hb⟩;have hL:∀s∈aE (aG t) rs,s < 257:=dM (eT t);have hll:(aE (aG t) rs).length=N+1:=by rw [bU,h.suf.len,aT,hN]
 obtain ⟨R,hR⟩:=aHS (aE (aG t) rs) hL (fun e=>by rw [e] at hll;simp at hll);obtain ⟨A,c,rfl,hm⟩:=aS ho;refine ⟨A,c,_,_,rfl,by have:=aJB (aE (aG t) rs);omega,Rd.of_own ho,⟨R,by rw [hR,hll]⟩,fun s hs=>?_,hb⟩;obtain ⟨lv,q,_,_,hne,rfl⟩:=aJA hs;have h1:=aKc (aE (aG t) rs) lv q;have h2:(aL (aE (aG t) rs) lv q).length≠0:=fun e=>hne (zCx.1 e);exact ⟨_,by omega,by omega,rfl⟩
theorem aDh (B:Nat) (own:Nat->Nat) (gs gl most rate N:Nat) (t:List UInt8) (rs:List Nat) (w:World) (h:StAt w B own gs gl most rate t) (hN:t.length=N) (hs:IsSuf (aG t) rs):
 Calls Tryz.prog 79 #[gs] w (tY w rate N rs):=by
 obtain ⟨gk,gp,mv,T,rs',pr,h1,h2,h3⟩:=h.live;obtain rfl:=h1.suf.unique hs;rw [hN] at h1 h3;have c0:=h.blk.cell 0;have hp:=h1.pairs hN h2 h3 h.r1;unfold tY at hp⊢;clear h1 h2 h3 h;go_enter Tryz.func79,Tryz.ntmps79;go_wp2_with fail;refine hp.mono ?_;rintro e w2 ⟨A,c,pr,m,rfl,h1,h2,h3,h4,hv⟩;obtain ⟨H3,H4,Hv⟩:=hqq3 h3 h4 hv;clear hp h3 h4 hv;go_wp2_with fail;go_ret;exact ⟨A,c,pr,m,rfl,h1,h2,H3.out,H4.out,Hv.out⟩
theorem aBM (B:Nat) (own:Nat->Nat) (gs gl most rate N:Nat) (t:List UInt8) (w:World) (h:StAt w B own gs gl most rate t) (hN:t.length=N):
 Calls Tryz.prog 80 #[gs] w (qQ w N):=by
 obtain ⟨gk,gp,mv,T,rs',pr,h1,h2,h3⟩:=h.live;rw [hN] at h1;have c0:=h.blk.cell 0;have h127:=h.n127;have hp:=h1.shapes hN oM;unfold qQ at hp⊢;clear h1 h2 h3 h h127;go_enter Tryz.func80,Tryz.ntmps80;go_wp2_with fail;refine hp.mono ?_;rintro e w2 ⟨A,c,l,m,rfl,h1,h2,h3,h4,hv⟩;obtain ⟨H2,H3,H4,Hv⟩:=hqq4 h2 h3 h4 hv;clear hp h2 h3 h4 hv;go_wp2_with fail;go_ret;exact ⟨A,c,l,m,rfl,h1,H2.out,H3.out,H4.out,Hv.out⟩
theorem aFd (B:Nat) (own:Nat->Nat) (gs gl most rate:Nat) (t:List UInt8) (w:World) (h:StAt w B own gs gl most rate t):
 Calls Tryz.prog 26 #[gs,.string ⟨t.toArray⟩] w fun e w'=>e=.returned (.bool true)/\VB B w w':=by
 obtain ⟨N,hN⟩:=eqx t.length;have h127:N<=127:=by rw [<-hN];exact h.n127
 have z1:(⟨t.toArray⟩:ByteArray).size=N:=(pC t).trans hN;have hr1:=h.r1;have hr2:=h.r2;have hB:=h.size;obtain ⟨H,HN,HB⟩:=hqq3 h hN hB;clear h hN hB;go_enter Tryz.func26,Tryz.ntmps26;go_wp2_with fail;refine (uV t N w HN.out oM).mono ?_;rintro e w1 ⟨A1,c1,rs,rfl,hsuf,hm1,hb1⟩;have hv1:VB B w w1:=VisK.of_below hb1;obtain ⟨Hsuf,Hm1,Hv1⟩:=hqq3 hsuf hm1 hv1;clear hsuf hm1 hv1 hb1;go_wp2_with fail;refine (yV B own gs gl most rate (N+1) t rs w1 (H.out.vb Hv1.out.1) Hsuf.out (by rw [HN.out])).mono ?_;rintro e w2 ⟨A2,c2,rfl,hm2,hv2⟩;have hv02:=Hv1.out.trans hv2;obtain ⟨Hm12,Hm2,Hv2⟩:=hqq3 (hv2.1.made Hm1.out dC dC) hm2 hv02;clear hm2 hv2 hv02 Hm1 Hv1;go_wp2_with fail;refine (uX t N w2 HN.out oM).mono ?_;rintro e w3 ⟨A3,c3,rs3,rfl,hsuf3,hm3,hb3⟩;obtain rfl:=hsuf3.unique Hsuf.out;obtain ⟨Hm13,Hm23,Hm3,Hv3⟩:=hqq4 ((Vis.of_below hb3).made Hm12.out dC dC) ((Vis.of_below hb3).made Hm2.out dC dC) hm3 (Hv2.out.trans (VisK.of_below hb3));clear hsuf3 hm3 hb3 Hm12 Hm2 Hv2;go_wp2_with fail;refine (uG A2 A3 (N+1) c2 (N+1) c3 _ _ (aE (aG t) rs3) (aE (aG t) rs3) w3 Hm23.out.rd Hm3.out.rd oM oM).mono ?_;rintro e w4 ⟨rfl,hb4⟩;have hdt:decide (aE (aG t) rs3=aE (aG t) rs3)=true:=zBz rfl;rw [hdt];obtain ⟨Hm14,Hv4⟩:=hqq2 ((Vis.of_below hb4).made Hm13.out dC dC) (Hv3.out.trans (VisK.of_below hb4));clear hdt hb4 Hm13 Hm23 Hm3 Hv3;go_wp2_with fail;refine (aDh B own gs gl most rate N t rs3 w4 (H.out.vb Hv4.out.1) HN.out Hsuf.out).mono ?_;rintro e w5 ⟨A5,c5,pr,m5,rfl,hm5,hm5k,hok,hrd5,hb5⟩;obtain ⟨Hm15,Hv5,Hok,Hrd5,Hm5⟩:=hqq5 ((Vis.of_below hb5).made Hm14.out dC dC) (Hv4.out.trans (VisK.of_below hb5)) hok hrd5 hm5;clear hm5 hok hrd5 hb5 Hm14 Hv4;go_wp2_with fail;refine (yT B own gs gl most rate t w5 (H.out.vb Hv5.out.1)).mono ?_;rintro e w6 ⟨rfl,rfl⟩;go_wp2_with fail;refine (aDo A5 A1 m5 c5 (N+1) c1 _ _ pr rs3 rate N w5 Hrd5.out Hm15.out.rd nL nL Hm5.out rfl hm5k oM hr2 Hok.out).mono ?_;rintro e w7 ⟨rfl,hb7⟩;have Hv7:=lhd (Hv5.out.trans (VisK.of_below hb7));clear hb7 Hok Hrd5 Hm5 Hm15 Hv5;go_wp2_with fail;refine (aBM B own gs gl most rate N t w7 (H.out.vb Hv7.out.1) HN.out).mono ?_;rintro e w8 ⟨A8,c8,l,m8,rfl,hm8,hrd8,⟨R,hR⟩,hl,hb8⟩;obtain ⟨Hv8,Hrd8,HR,Hl⟩:=hqq4 (Hv7.out.trans (VisK.of_below hb8)) hrd8 hR hl;clear hrd8 hR hl hb8 Hv7;have e1:IntKind.i64.wrap ((N:Int)+1)=((N+1:Nat):Int):=by rw [IntKind.wrap_i64];omega
 go_wp2_with fail;refine (aGQ A8 m8 c8 l ((N+1:Nat):Int) R _ w8 Hrd8.out nL oM HR.out (fun s hs=>by obtain ⟨n,h1,h2,h3⟩:=Hl.out s hs;exact ⟨n,h1,by omega,h3⟩)).mono ?_;rintro e w9 ⟨rfl,hb9⟩;obtain ⟨Hv9,Hrd9⟩:=hqq2 (Hv8.out.trans (VisK.of_below hb9)) (Hrd8.out.below hb9);have hs9:=hb9.size;clear hb9 Hv8 Hrd8 e1;go_wp2_with fail;refine (aId A8 m8 c8 l _ w9 Hrd9.out hs9 hm8 Hl.out).mono ?_;rintro e w10 ⟨⟨S,rfl⟩,hb10⟩;have Hv10:=lhd (Hv9.out.trans (VisK.of_below hb10));clear hb10 Hv9 Hrd9 hs9;have hfl:∀W,(Instr.field 122 (.agg #[.int .i64 S,.int .i64 0,(m8:Int),(m8:Int)]) 3).run Tryz.prog W=.ok (.int .i64 (m8:Int)) W:=fun W=>by kernel_rfl
 go_wp2_with fail;refine (aEh N w10 oM).mono ?_;rintro e w11 ⟨⟨z,rfl,hz⟩,rfl⟩;have g1:decide ((m8:Int)<=z)=true:=zBz oM;go_wp2_with fail;go_ret;exact ⟨rfl,Hv10.out⟩
theorem zP (T D:List UInt8) (most kind p k:Int) (h:(doM T most kind p k D).2.code≠0):(doM T most kind p k D).1=T/\(doM T most kind p k D).2.num=0/\(doM T most kind p k D).2.data= []/\(doM T most kind p k D).2.places= []:=by
 unfold doM at h⊢;split
 · rename_i c1
   rw [zBx c1] at h;split;exact ⟨rfl,rfl,rfl,rfl⟩
   · rename_i c2
     rw [zBw c2] at h;split;exact ⟨rfl,rfl,rfl,rfl⟩
     · rename_i c3
       rw [zBw c3] at h;exact absurd rfl h
 rename_i c1
 rw [zBw c1] at h;split
 · rename_i c1
   rw [zBx c1] at h;split;exact ⟨rfl,rfl,rfl,rfl⟩
   · rename_i c2
     rw [zBw c2] at h;exact absurd rfl h
 rename_i c1
 rw [zBw c1] at h;split
 · rename_i c1
   rw [zBx c1] at h;split;exact ⟨rfl,rfl,rfl,rfl⟩
   · rename_i c2
     rw [zBw c2] at h;exact absurd rfl h
 rename_i c1
 rw [zBw c1] at h;split
 · rename_i c1
   rw [zBx c1] at h;split;exact ⟨rfl,rfl,rfl,rfl⟩
   · rename_i c2
     rw [zBw c2] at h;exact absurd rfl h
 rename_i c1
 rw [zBw c1] at h;split
 · rename_i c1
   rw [zBx c1] at h;exact absurd rfl h
 rename_i c1
 rw [zBw c1] at h;split
 · rename_i c1
   rw [zBx c1] at h;exact absurd rfl h
 rename_i c1
 rw [zBw c1] at h;split
 · rename_i c1
   rw [zBx c1] at h;exact absurd rfl h
 rename_i c1
 rw [zBw c1] at h;split
 · rename_i c1
   rw [zBx c1] at h;exact absurd rfl h
 exact ⟨rfl,rfl,rfl,rfl⟩
theorem Made.madeZ {w w1:World} {B gs gl most rate:Nat} {own:Nat->Nat} {t:List UInt8} {e:TypeId} {A:Option Addr} {n c:Nat} {xs:List Value} (h:Made w1 w.heap.size e 1 A n c xs) (hst:StAt w B own gs gl most rate t):MadeZ w1 own gs e A n c xs:=
 ⟨⟨bF h.own (zAp _),h.rd,h.cap,h.max⟩,fun a ha=>by
   subst ha;have h7:=h.own.lt (k:=a.block) rfl;exact ⟨h7.2,hst.fresh h7.1,by have:=hst.blk.lt;omega⟩⟩
theorem sI (A:Option Addr) (n c:Nat) (t:List UInt8) (s:Stp) (rate:Int) (w:World) (hr:Rd w w.heap.size 1 A n (t.map bv)) (hnc:n<=c) (hcm:c<=maxLen) (hg:s.good w) (hT:TabW w):
 Calls Tryz.prog 7 #[.slice A n c,.agg #[.int .i64 s.kind,.int .i64 s.p,.int .i64 s.k,.slice s.A s.n s.c],.int .i64 rate] w fun e w'=>e=.returned (.bool true)/\Below w.heap.size w w':=by
 have hw:=hT.pos;have kf:=aEc;have htl:t.length=n:=by simpa using hr.1
 obtain ⟨q,hq,hql⟩:=vI rate 64 oM;obtain ⟨kd,pd,nd,Ad,md,cd,Dd⟩:=s;obtain ⟨_,_,_,hrd,hmcd,hcd⟩:=hg;simp only at hrd hmcd hcd⊢;obtain ⟨B0,hB0⟩:∃B,w.heap.size=B:=⟨_,rfl⟩;obtain ⟨W1,hW1⟩:∃W,w.alloc (.cells #[.int .i64 kd,.int .i64 pd,.int .i64 nd,.slice Ad md cd] 46)=W:=⟨_,rfl⟩;have hbW:Below w.heap.size w W1:=by rw [<-hW1];exact bR.alloc nL _
 have hbx:Bk W1 B0 46 #[.int .i64 kd,.int .i64 pd,.int .i64 nd,.slice Ad md cd]:=by rw [<-hW1,<-hB0];exact Bk.new _ _ _
 obtain ⟨B,hB⟩:=eqx W1.heap.size;have hB0B:B0 < B:=by rw [<-hB];exact hbx.lt
 have htB:1 < B:=oM;have hT1:TabW W1:=hT.below hbW hw;have hr1:Rd W1 B 1 A n (t.map bv):=(hr.below hbW).mono oM;have hrd1:Rd W1 B 1 Ad md (Dd.map bv):=(hrd.below hbW).mono oM;have hend:∀w',Below B W1 w'->Below w.heap.size w w':=fun w' k=>hbW.trans (k.mono oM);obtain ⟨HT,HB,HB0,HW1,Hr,Hrd,Hend,Hbx,Htl⟩:=hqq9 hT1 hB hB0 hW1 hr1 hrd1 hend hbx htl;have hx0:=hbx.cell 0;have hx3:=hbx.cell 3;have Hc:=lhd (And.intro hcm (And.intro hmcd hcd));clear hT hT1 hw hr hr1 hrd hrd1 hbW hbx hend hB hB0 hW1 htl hcm hmcd hcd;go_enter Tryz.func7,Tryz.ntmps7;go_upto_region 1 with fail;rw [HW1.out,HB0.out];by_cases h40:n > 40
 · have g0:decide ((n:Int) > 40)=true:=zBz oM;go_wp2_with fail;refine (gP W1 HT.out).mono ?_;rintro e w1 ⟨rfl,hb1⟩;rw [HB.out] at hb1;have Hb1:=lhd hb1;clear hb1;go_wp2_with fail;go_ret;exact ⟨rfl,Hend.out _ Hb1.out⟩
 have g0:decide ((n:Int) > 40)=false:=zBy oM;by_cases h60:md > 60
 · have g1:decide ((md:Int) > 60)=true:=zBz oM;go_wp2_with fail;refine (gP W1 HT.out).mono ?_;rintro e w1 ⟨rfl,hb1⟩;rw [HB.out] at hb1;have Hb1:=lhd hb1;clear hb1;go_wp2_with fail;go_ret;exact ⟨rfl,Hend.out _ Hb1.out⟩
 have g1:decide ((md:Int) > 60)=false:=zBy oM;have g2:IntKind.i64.wrap (q:Int)=(q:Int):=by rw [IntKind.wrap_i64];omega
 have g3:IntKind.i64.wrap (1+(q:Int))=((q+1:Nat):Int):=by rw [IntKind.wrap_i64];omega
 obtain ⟨r,hrq⟩:=eqx (q+1);rw [hrq] at g3;have hr0:1<=r:=oM;have hr64:r<=64:=oM;clear hrq hql;go_wp2_with fail;refine (mA n r W1 oM hr0 hr64).mono ?_;rintro e w2 ⟨gs,gl,own,rfl,hst,hb2⟩;rw [HB.out] at hst hb2;obtain ⟨Hst,Hb2⟩:=hqq2 hst hb2;have HA2:=lhd (ArgZ.old (B:=B) (own:=own) (gs:=gs) (Hr.out.below hb2) nL hst.size);have HT2:=lhd (HT.out.below hb2 htB);clear hst hb2 hq g0 g1 g2 g3 hx3;go_wp2_with fail;refine (qO B own gs gl n r [] t t 0 0 A n c 0 0 [] [] 0 0 w2 (by have:=aJ2 [] t n 0 0 nL (by rw [Htl.out];simp);simpa using this) rfl rfl Hst.out HA2.out oM HT2.out htB (by rw [Htl.out];omega)).mono ?_;rintro e w3 ⟨x1,y1,x2,y2,own1,gl1,rfl,hst1,hlf1,_,_⟩;have Hb3:=lhd (Hb2.out.trans (hlf1.below Hst.out.size));obtain ⟨HT3,Hst1⟩:=hqq2 (HT.out.below Hb3.out htB) hst1;clear hst1 hlf1 Hst Hb2 HA2 HT2;obtain ⟨rs,hs⟩:∃rs,IsSuf (aG t) rs:=by obtain ⟨rs,_,_,_,hs,_⟩:=Hst1.out.tp;exact ⟨rs,hs⟩
 obtain ⟨bs,hbs⟩:=eqx (fC (aE (aG t) rs) rs n r t.length);obtain ⟨nb,hnb⟩:=eqx bs.length;have hsv1:=iP B own1 gs gl1 n r t rs w3 Hst1.out hs;have hsv2:=fun own gl w5 (k:StAt w5 B own gs gl n r t)=>iP B own gs gl n r t rs w5 k hs;unfold fG at hsv1 hsv2;rw [hbs,hnb] at hsv1;rw [hbs,hnb] at hsv2;have Hsv2:=lhd hsv2;clear hsv2 hs hbs hnb;go_wp2_with fail;refine hsv1.mono ?_;clear hsv1;rintro e w5 ⟨A5,c5,rfl,hm5,hv5⟩;have hb5:=Hb3.out.trans (VB.to_below hv5 Hst1.out.size);obtain ⟨Hm5,Hst5,Hb5,HT5⟩:=hqq4 (Made.madeZ hm5 Hst1.out) (Hst1.out.vb hv5.1) hb5 (HT.out.below hb5 htB);have HA5:=lhd (ArgZ.old (B:=B) (own:=own1) (gs:=gs) (Hrd.out.below hb5) nL Hst5.out.size);have hx:=Hbx.out.below hb5 hB0B;have hx0:=hx.cell 0;have hx1:=hx.cell 1;have hx2:=hx.cell 2;have hx3:=hx.cell 3;obtain ⟨T2,⟨code,num,data,places⟩,hdo⟩:∃T2 r,doM t (n:Int) kd pd nd Dd=(T2,r):=⟨_,_,rfl⟩;have hdl:Dd.length=md:=by simpa using Hrd.out.1
 have hT2:T2.length<=127:=by have:=aFF t Dd (n:Int) kd pd nd;rw [hdo] at this;have e:=Htl.out;simp only at this;omega
 have href:=zP t Dd (n:Int) kd pd nd;rw [hdo] at href;obtain ⟨Href,Hdo⟩:=hqq2 href hdo;clear hb5 hm5 hv5 hx hdl Hst1 Hb3 HT3 href hdo;go_wp2_with fail;refine (aG5 B own1 gs gl1 n r t Dd T2 kd pd nd Ad md cd code num data places _ _ w5 Hdo.out rfl rfl Hst5.out HA5.out oM HT5.out htB hT2).mono ?_;rintro e w6 ⟨A6,c6,A7,c7,own2,gl2,rfl,hst6,hlf6,_,_⟩;obtain ⟨Hm6,Hb6,Hst6⟩:=hqq3 (Hm5.out.step hlf6 dC dC) (Hb5.out.trans (hlf6.below Hst5.out.size)) hst6;clear hst6 hlf6 Hm5 Hb5 Hst5 HT5 HA5 hx0 hx1 hx2 hx3 hT2;obtain ⟨g6,hg6⟩:∃g,w6.heap.size=g:=⟨_,rfl⟩;have hrow:∀xs:Array Value,Below w6.heap.size w6 (w6.alloc (.cells xs 50)):=fun xs=>bR.alloc nL _;by_cases h0:code=0
 · subst h0;have hb7:=Hb6.out.trans ((hrow #[.int .i64 0,.int .i64 num,.slice A6 data.length c6,.slice A7 places.length c7]).mono Hst6.out.size);have Hb7:=lhd hb7;have hB7:B<=(w6.alloc (.cells #[.int .i64 0,.int .i64 num,.slice A6 data.length c6,.slice A7 places.length c7] 50)).heap.size:=zAk Hst6.out.size (hrow _).size;clear hb7;go_upto_region 9 with fail;go_wp2_with fail;refine (gP _ (HT.out.below Hb7.out htB)).mono ?_;rintro e w8 ⟨rfl,hb8⟩;have Hb8:=lhd (Hb7.out.trans (hb8.mono hB7));clear hb8 hB7;go_wp2_with fail;go_ret;exact ⟨rfl,Hend.out _ Hb8.out⟩
 obtain ⟨hT2e,rfl,rfl,rfl⟩:=Href.out h0;subst T2;have g4:(code==0)=false:=by simpa using h0
 have g4':decide (code=0)=false:=zBy h0;obtain ⟨W7,hW7⟩:∃W,w6.alloc (.cells #[.int .i64 code,.int .i64 0,.slice A6 0 c6,.slice A7 0 c7] 50)=W:=⟨_,rfl⟩;have hbW:=hrow #[.int .i64 code,.int .i64 0,.slice A6 0 c6,.slice A7 0 c7];have hbx:=Bk.new w6 50 #[.int .i64 code,.int .i64 0,.slice A6 0 c6,.slice A7 0 c7];rw [hg6] at hbx;rw [hW7] at hbW hbx;obtain ⟨Hst7,Hm7,Hb7⟩:=hqq3 (Hst6.out.vb (Vis.of_below hbW)) ((Vis.of_below hbW).made Hm6.out.1 dC dC) (Hb6.out.trans (hbW.mono Hst6.out.size));have hs7:=Hsv2.out own2 gl2 W7 Hst7.out;obtain ⟨Hbx,HW7,Hg6⟩:=hqq3 hbx hW7 hg6;have hc0:=hbx.cell 0;clear hrow hbW hbx hW7 hg6 Hm6 Hst6 Hb6;go_upto_region 10 with fail
 try simp only [List.length_nil]
 rw [HW7.out]
 try rw [Hg6.out]
 go_wp2_with fail;refine hs7.mono ?_;clear hs7;rintro e w8 ⟨A8,c8,rfl,hm8,hv8⟩;have hb8:=Hb7.out.trans (VB.to_below hv8 Hst7.out.size);obtain ⟨Hx8,Hst8,Hm78,Hm8,Hb8⟩:=hqq5 (hv8.1.bk Hbx.out dC dC) (Hst7.out.vb hv8.1) (hv8.1.made Hm7.out dC dC) hm8 hb8;clear hb8 hm8 hv8 Hst7 Hm7 Hb7 Hbx hc0;go_wp2_with fail;refine (gP w8 (HT.out.below Hb8.out htB)).mono ?_;rintro e w9 ⟨rfl,hb9⟩;have hx9:=Hx8.out.below hb9 Hx8.out.lt;have hx1:=hx9.cell 1;have hx2:=hx9.cell 2;have hx3:=hx9.cell 3;have k1:=tI (Hm78.out.rd.below hb9) c5;have k2:=tI (Hm8.out.rd.below hb9) c8;have Hb9:=lhd (Hb8.out.trans (hb9.mono Hst8.out.size));have k3:=tI (Hr.out.below Hb9.out) c;have Hst9:=lhd (Hst8.out.vb (Vis.of_below hb9));clear hb9 hx9 Hst8 Hm78 Hm8 Hb8 Hx8;go_wp2_with fail;refine (aFd B own2 gs gl2 n r t w9 Hst9.out).mono ?_;rintro e w10 ⟨rfl,hv10⟩;have Hb10:=lhd (Hb9.out.trans (VB.to_below hv10 Hst9.out.size));clear hv10 Hst9 Hb9;go_wp2_with fail;go_ret;exact ⟨by first | rfl | simp,Hend.out _ Hb10.out⟩
end
end Go.Proofs.YthldmddkfbijhaaGreatDoor
