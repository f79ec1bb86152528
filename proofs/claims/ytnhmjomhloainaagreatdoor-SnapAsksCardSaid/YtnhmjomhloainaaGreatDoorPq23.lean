/- Parts of the walk, joined from several texts. Conditions: what each lemma says. -/
import Derived.Test.YtnhmjomhloainaaGreatDoorPq22
import Derived.BigQuiet
set_option linter.all false
set_option maxRecDepth 100000
set_option maxHeartbeats 2000000
namespace Go.Proofs.YtnhmjomhloainaaGreatDoor
open Go.RowKit
theorem pK {t:List UInt8} {rs:List Nat} (h:IsSuf (aD t) rs):rs[0]?=some t.length:=by
 obtain ⟨e1,e2,e3⟩:=dZ t;obtain ⟨j,hj,ej⟩:=h.row (p:=t.length) oM;rcases zBa j with h0 | h0
 · subst h0;rw [zAa hj,ej]
 · exfalso;have h1:=zAr.1 h.sorted 0 j oM hj h0;rw [ej] at h1;have hq:=h.lt (zBj (show 0 < rs.length by omega));have hne:rs[0]' oM≠t.length:=fun e=>by exact (zAr.1 h.nodup 0 j oM hj h0) (by rw [e,ej])
   rw [gM,eM (by omega:t.length < (aD t).length),eM hq,e2] at h1;have:=e3 (rs[0]' oM) oM;rcases h1 with h1 | h1;omega;omega
theorem tL {l rs:List Nat} (h:IsSuf l rs) {i j p:Nat} (hi:rs[i]?=some p) (hj:rs[j]?=some p):i=j:=by
 obtain ⟨hi1,hi2⟩:=zAc.1 hi;obtain ⟨hj1,hj2⟩:=zAc.1 hj;rcases Nat.lt_trichotomy i j with h1 | h1 | h1;exact absurd (by rw [hi2,hj2]) (zAr.1 h.nodup i j hi1 hj1 h1);exact h1;exact absurd (by rw [hi2,hj2]) (zAr.1 h.nodup j i hj1 hi1 h1)
end Go.Proofs.YtnhmjomhloainaaGreatDoor
namespace Go.Proofs.YtnhmjomhloainaaGreatDoor
open Go.RowKit Go.Shelf
def PermR (w:World) (gp R P:Nat) (pr:List (Nat×Nat)):Prop:=
 ∃B ga vl vo vt vf ks C tk fr,PermAt w B gp ga vl vo vt vf R P ks C tk fr/\ks.Pairwise (fun a b=>aC C a < aC C b)/\C.length<=1000/\ks.length<=1000/\pr=ks.map fun k=>(aC C k,aF C k)
theorem PermR.le {w:World} {gp R P:Nat} {pr:List (Nat×Nat)} (h:PermR w gp R P pr):pr.length<=1000:=by
 obtain ⟨B,ga,vl,vo,vt,vf,ks,C,tk,fr,h1,h2,h3,h4,rfl⟩:=h;rw [zBc];exact h4
theorem PermR.vis {w w':World} {gp R P:Nat} {pr:List (Nat×Nat)} (h:PermR w gp R P pr) (k:Vis w w'):PermR w' gp R P pr:=by
 obtain ⟨B,ga,vl,vo,vt,vf,ks,C,tk,fr,h1,h2⟩:=h;exact ⟨B,ga,vl,vo,vt,vf,ks,C,tk,fr,h1.vis k,h2⟩
theorem PermR.lt {w:World} {gp R P:Nat} {pr:List (Nat×Nat)} (h:PermR w gp R P pr):gp < w.heap.size:=by
 obtain ⟨B,ga,vl,vo,vt,vf,ks,C,tk,fr,h1,h2⟩:=h;exact h1.blk.lt
theorem aAJ (B gp ga:Nat) (vl vo vt vf:Value) (R P:Nat) (ks:List Nat) (C:List (Nat×Nat)) (tk:List Bool) (fr:List Nat) (w:World) (h:PermAt w B gp ga vl vo vt vf R P ks C tk fr) (hC:C.length<=1000) (hK:ks.length<=1000):
 Calls Tryz.prog 160 #[.pointer (some ⟨gp,0,none⟩)] w (qP w (ks.map fun k=>(aC C k,aF C k))):=by
 obtain ⟨i0,hi0,hz0,hz1,hz2⟩:=info_parts rE;have ho:=h.orow;obtain ⟨A2,c2,rfl,_,_⟩:=aR ho;obtain ⟨A1,c1,rfl,_,_⟩:=aR h.lrow;have c1':w.cell? ⟨gp,1,none⟩=some (.slice A1 C.length c1):=(h.blk.cell 1).trans rfl;have c2':w.cell? ⟨gp,2,none⟩=some (.slice A2 ks.length c2):=(h.blk.cell 2).trans rfl;have hgp:=h.blk.lt;obtain ⟨N,hN⟩:∃n,C.length=n:=⟨_,rfl⟩;obtain ⟨n,hn⟩:=eqx ks.length;obtain ⟨pr,hpr⟩:∃pr,(ks.map fun k=>(aC C k,aF C k))=pr:=⟨_,rfl⟩;have hprl:pr.length=n:=by rw [<-hpr,zBc,hn]
 rw [hpr];obtain ⟨H,Hn,HN,Hpr,Hprl⟩:=hqq5 h hn hN hpr hprl;rw [hN] at c1' hC;rw [hn] at c2' hK;clear h ho hn hN hpr hprl;unfold qP;go_enter Tryz.func160,Tryz.ntmps160;go_wp2_with fail;go_loopw [3,13] (fun v i wr=>∃k:Nat,k<=n/\i=.int .i64 (k:Int)/\wr.ownsRow w.heap.size 159 2 v k (bO (pr.take k))/\Below w.heap.size w wr) (fun _ i _=>n -(intOf i).toNat)
 case atStart=>exact ⟨0,zAp _,rfl,World.ownsRow_nil _ _ _ _,Below.refl _ _⟩
 case round=>
  obtain ⟨k,hk,rfl,hown,hb⟩:=hrel;have hsz:=hb.size;by_cases hlt:k < n
  · have hkn:k < ks.length:=(by rw [Hn.out];exact hlt);obtain ⟨j,hj⟩:∃j,ks[k]?=some j:=⟨_,zAa hkn⟩;have hjC:j < C.length:=H.out.lt j (zAd hj);have hjN:j < N:=(by rw [<-HN.out];exact hjC);have hp:=H.out.below hb;have ho2:=hp.orow;obtain ⟨g2,k2,e2,_,hg2⟩:=World.ownsRow.form ho2 oM;obtain ⟨g1,k1,e1,_,hg1⟩:=World.ownsRow.form hp.lrow oM;injection e2 with e2a _ _;injection e1 with e1a _ _;subst e2a;subst e1a;have d2:wr.cell? ⟨g2,k,none⟩=some (.int .i64 (j:Int)):=(World.ownsRow.cellAt ho2 k oM).trans (by rw [zAf,hj];rfl);obtain ⟨p0,p1⟩:=cD C j hjC;have d0:wr.cell? ⟨g1,j*2,none⟩=_:=(World.ownsRow.cellAt hp.lrow (j*2) oM).trans p0;have d1:wr.cell? ⟨g1,j*2+1,none⟩=_:=(World.ownsRow.cellAt hp.lrow (j*2+1) oM).trans p1;have d3:wr.cell? ⟨gp,1,none⟩=some (.slice (some ⟨g1,0,none⟩) N c1):=(hb.cell (p:=⟨gp,1,none⟩) hgp).trans c1';obtain ⟨a1,ha1⟩:∃x,aC C j=x:=⟨_,rfl⟩;obtain ⟨a2,ha2⟩:∃x,aF C j=x:=⟨_,rfl⟩;have hnext:bO (pr.take (k+1))=bO (pr.take k)++ [.int .i64 (a1:Int),.int .i64 (a2:Int)]:=(by have hc:pr[k]?=some (a1,a2):=(by rw [<-Hpr.out,zAf,hj,<-ha1,<-ha2];rfl);rw [zAv,hc];show bO (pr.take k++ [(a1,a2)])=_;rw [jM];rfl);rw [ha1] at d0;rw [ha2] at d1;obtain ⟨Hown,Hb,Hnext⟩:=hqq3 hown hb hnext;clear hown hb hnext hp ho2 p0 p1 c1' c2' ha1 ha2 hj hjC hkn;go_wp2_with (at_builtin;refine aY _ rfl (.tmp 17) (.tmp 25) _ rfl w.heap.size 159 i0 (.agg #[.int .i64 0,.int .i64 0]) 2 16 Tryz.underlying130 hi0 hz0 hz1 hz2 rfl dC _ k _ rfl Hown.out rfl rfl (by simp [Value.oneCell']) (by unfold maxLen;omega) oM hsz ?_;intro v5 w5 hown5 hg5 hs5 hat5);have hb5:=aW Hb.out Hown.out hg5 hsz;have Hb5:=lhd hb5;clear hb5 hg5 hat5;exact ⟨⟨v5,_,_,⟨k+1,by omega,by go_num,by rw [Hnext.out];exact hown5,Hb5.out⟩,rfl,rfl,rfl⟩,by simp [intOf];omega⟩
  · obtain rfl:k=n:=oM;have htk:pr.take k=pr:=zAg (by rw [Hprl.out];exact zAs _);rw [htk] at hown;obtain ⟨A9,c9,rfl,hm9⟩:=aS hown;obtain ⟨Hm9,Hb⟩:=hqq2 hm9 hb;clear hown hm9 hb;go_wp2_with fail;go_ret;exact ⟨A9,c9,by rw [Hprl.out];rfl,by rw [Hprl.out];exact Hm9.out,Hb.out⟩
theorem aAI (gp R P:Nat) (pr:List (Nat×Nat)) (w:World) (h:PermR w gp R P pr):
 Calls Tryz.prog 160 #[.pointer (some ⟨gp,0,none⟩)] w (qP w pr):=by
 obtain ⟨B,ga,vl,vo,vt,vf,ks,C,tk,fr,h1,h2,h3,h4,rfl⟩:=h;exact aAJ B gp ga vl vo vt vf R P ks C tk fr w h1 h3 h4
def dY (pr:List (Nat×Nat)) (pos:Nat) (z:Int):Prop:=(z=-1/\∀x∈pr,x.2 < pos)∨∃x∈pr,z=((x.2:Nat):Int)/\pos<=x.2/\∀y∈pr,pos<=y.2->x.2<=y.2
theorem uU {l:List (Nat×Nat)} {pos:Nat} {z:Int} (h:dY l pos z) (a1 a2:Nat):dY (l++(some (a1,a2)).toList) pos (if pos<=a2/\(z < 0∨(a2:Int) < z) then (a2:Int) else z):=by
 have hmem:∀y:Nat×Nat,y∈l++(some (a1,a2)).toList↔y∈l∨y=(a1,a2):=fun y=>by simp
 rcases h with ⟨rfl,h1⟩|⟨x,hx,rfl,h1,h2⟩;by_cases c:pos<=a2;rw [zBx ⟨c,.inl oM⟩];refine .inr ⟨(a1,a2),(hmem _).2 (.inr rfl),rfl,c,fun y hy hp=>?_⟩;rcases (hmem y).1 hy with hy | rfl;have:=h1 y hy;omega;exact zAs _;rw [zBw (fun e=>c e.1)];refine .inl ⟨rfl,fun y hy=>?_⟩;rcases (hmem y).1 hy with hy | rfl;exact h1 y hy;show a2 < pos;omega;by_cases c:pos<=a2/\((x.2:Int) < 0∨(a2:Int) < (x.2:Int));rw [zBx c];have c2:a2 < x.2:=oM;refine .inr ⟨(a1,a2),(hmem _).2 (.inr rfl),rfl,c.1,fun y hy hp=>?_⟩;rcases (hmem y).1 hy with hy | rfl;have:=h2 y hy hp;show a2<=_;omega;exact zAs _;rw [zBw c];refine .inr ⟨x,(hmem _).2 (.inl hx),rfl,h1,fun y hy hp=>?_⟩;rcases (hmem y).1 hy with hy | rfl;exact h2 y hy hp;have hp':pos<=a2:=hp;show x.2<=a2;omega
def rV (w:World) (C:List (Nat×Nat)) (pos:Nat) (e:Ending) (w':World):Prop:=∃z,e=.returned (.int .i64 z)/\dY C pos z/\Below w.heap.size w w'
theorem oE (gp R P:Nat) (C:List (Nat×Nat)) (pos:Nat) (w:World) (h:PermR w gp R P C):
 Calls Tryz.prog 124 #[.pointer (some ⟨gp,0,none⟩),.int .i64 (pos:Int)] w (rV w C pos):=by
 have hall:=aAI gp R P C w h;have hC:=h.le;unfold qP at hall;obtain ⟨n,hn⟩:=eqx C.length;rw [hn] at hall hC;have Hn:=lhd hn;clear h hn;unfold rV;go_enter Tryz.func124,Tryz.ntmps124;go_wp2_with fail;refine hall.mono ?_;rintro e w1 ⟨A,c,rfl,hm,hb1⟩;clear hall;obtain ⟨Hm,Hb1⟩:=hqq2 hm hb1;clear hm hb1;go_wp2_with fail;go_loopw [5,11] (fun v i wr=>∃(k:Nat) (z:Int),k<=n/\i=.int .i64 (k:Int)/\v=.int .i64 z/\dY (C.take k) pos z/\Below w1.heap.size w1 wr) (fun _ i _=>n -(intOf i).toNat)
 case atStart=>exact ⟨0,-1,zAp _,rfl,rfl,.inl ⟨rfl,fun x hx=>by simp at hx⟩,Below.refl _ _⟩
 case round=>
  obtain ⟨k,z,hk,rfl,rfl,hz,hb⟩:=hrel;have hsz:=hb.size;by_cases hlt:k < n
  · have hkC:k < C.length:=(by rw [Hn.out];exact hlt);have hr:=Hm.out.rd.below (hb.mono (B:=w1.heap.size) nL);obtain ⟨b,off,rfl,hbb,hcell⟩:=hr.2 oM;obtain ⟨p0,p1⟩:=cD C k hkC;have d0:=hcell _ _ p0;have d1:=hcell _ _ p1;obtain ⟨a1,ha1⟩:∃x,aC C k=x:=⟨_,rfl⟩;obtain ⟨a2,ha2⟩:∃x,aF C k=x:=⟨_,rfl⟩;rw [ha1] at d0;rw [ha2,<-Nat.add_assoc] at d1;have hcc:C[k]?=some (a1,a2):=(by rw [<-ha1,<-ha2];unfold aC aF;rw [zAb,zAa hkC];rfl);have hnx:∀y:Int,y=(if pos<=a2/\(z < 0∨(a2:Int) < z) then (a2:Int) else z)->dY (C.take (k+1)) pos y:=fun y hy=>by rw [zAv,hcc,hy];exact uU hz a1 a2
    obtain ⟨Hnx,Hb⟩:=hqq2 hnx hb;have hb2:Below w1.heap.size w1 (wr.alloc (.cells #[.int .i64 (a1:Int),.int .i64 (a2:Int)] 159)):=hb.alloc hsz _;have Hb2:=lhd hb2;clear hz hb hr hcell p0 p1 ha1 ha2 hb2 hnx hcc;by_cases h1:pos<=a2
    · have n1:decide (pos<=a2)=true:=zBz h1;by_cases h2:z < 0
      · have hok:dY (C.take (k+1)) pos (a2:Int):=Hnx.out (a2:Int) (by rw [zBx ⟨h1,.inl h2⟩]);have Hok:=lhd hok;clear hok;go_wp2_with fail;go_roundw
        case rel=>exact ⟨k+1,(a2:Int),by omega,by go_num,by first | rfl | trivial,Hok.out,Hb2.out⟩
        case measure=>simp [intOf];omega
      · have n2:decide (z < 0)=false:=zBy h2;by_cases h3:(a2:Int) < z
        · have hok:dY (C.take (k+1)) pos (a2:Int):=Hnx.out (a2:Int) (by rw [zBx ⟨h1,.inr h3⟩]);have Hok:=lhd hok;clear hok;go_wp2_with fail;go_roundw
          case rel=>exact ⟨k+1,(a2:Int),by omega,by go_num,by first | rfl | trivial,Hok.out,Hb2.out⟩
          case measure=>simp [intOf];omega
        · have n3:decide ((a2:Int) < z)=false:=zBy h3;have hok:dY (C.take (k+1)) pos z:=Hnx.out z (by rw [zBw oM]);have Hok:=lhd hok;clear hok;go_wp2_with fail;go_roundw
          case rel=>exact ⟨k+1,z,by omega,by go_num,by first | rfl | trivial,Hok.out,Hb2.out⟩
          case measure=>simp [intOf];omega
    · have n1:decide (pos<=a2)=false:=zBy h1;have hok:dY (C.take (k+1)) pos z:=Hnx.out z (by rw [zBw oM]);have Hok:=lhd hok;clear hok;go_wp2_with fail;go_roundw
      case rel=>exact ⟨k+1,z,by omega,by go_num,by first | rfl | trivial,Hok.out,Hb2.out⟩
      case measure=>simp [intOf];omega
  · obtain rfl:k=n:=oM;have hbW:=Hb1.out.trans (hb.mono Hb1.out.size);have HbW:=lhd hbW;have htk:C.take k=C:=zAg (by rw [Hn.out];exact zAs _);rw [htk] at hz;have Hz:=lhd hz;clear hbW hz hb htk;go_wp2_with fail;go_ret;exact ⟨z,rfl,Hz.out,HbW.out⟩
def aB1 (w:World) (ks:List Nat) (C:List (Nat×Nat)) (pos:Nat) (e:Ending) (w':World):Prop:=∃k,k∈ks/\aF C k=pos/\e=.returned (.int .i64 ((aC C k:Nat):Int))/\Below w.heap.size w w'
theorem aAD (B gp ga:Nat) (vl vo vt vf:Value) (R P:Nat) (ks:List Nat) (C:List (Nat×Nat)) (tk:List Bool) (fr:List Nat) (pos:Nat) (w:World) (h:PermAt w B gp ga vl vo vt vf R P ks C tk fr) (hk:ks.length<=1099511627776) (hC:C.length<=1099511627776) (hex:∃k∈ks,aF C k=pos):
 Calls Tryz.prog 125 #[.pointer (some ⟨gp,0,none⟩),.int .i64 (pos:Int)] w (aB1 w ks C pos):=by
 have hhas:=iJ B gp ga vl vo vt vf R P ks C tk fr pos w h hk;obtain ⟨q,x,hq,hx1,hx2⟩:=sE (p:=fun k=>decide (aF C k=pos)) (l:=ks) (by obtain ⟨k,hk1,hk2⟩:=hex;exact ⟨k,hk1,zBz hk2⟩) 0;rw [hq,zBi] at hhas;have hx3:aF C x=pos:=of_decide_eq_true hx2;have hqn:q < ks.length:=(zAc.1 hx1).1;have hxC:x < C.length:=h.lt x (zAd hx1);obtain ⟨g,cap,hvo,hnc,hgl⟩:=World.ownsRow.form h.orow oM;obtain ⟨g2,cap2,hvl,hnc2,hgl2⟩:=World.ownsRow.form h.lrow oM;subst hvo;subst hvl;have hpair:=(cD C x hxC).1;obtain ⟨H,Hx1,Hx3,Hpair⟩:=hqq4 h hx1 hx3 hpair;have hqI:(q:Int) < (ks.length:Int):=oM;have hxI:(x:Int) < (C.length:Int):=oM;have hq0:decide ((q:Int) < 0)=false:=by simp
 clear h hq hx1 hx2 hx3 hpair hex;unfold aB1;go_enter Tryz.func125,Tryz.ntmps125;go_wp2_with fail;refine hhas.mono ?_;rintro e w1 ⟨rfl,hb1⟩;have h1:=H.out.below hb1;have c1:∀d,(w1.drewN d).cell? ⟨gp,1,none⟩=some (.slice (some ⟨g2,0,none⟩) C.length cap2):=fun d=>(h1.blk.cell 1).trans rfl;have c2:∀d,(w1.drewN d).cell? ⟨gp,2,none⟩=some (.slice (some ⟨g,0,none⟩) ks.length cap):=fun d=>(h1.blk.cell 2).trans rfl;have hgp:=h1.blk.lt;have c3:∀d,(w1.drewN d).cell? ⟨g,q,none⟩=some (.int .i64 (x:Int)):=fun d=>(World.ownsRow.cellAt h1.orow q oM).trans (by rw [zAf,Hx1.out];rfl);have c4:∀d,(w1.drewN d).cell? ⟨g2,x*2,none⟩=some (.int .i64 ((aC C x:Nat):Int)):=fun d=>(World.ownsRow.cellAt h1.lrow (x*2) oM).trans Hpair.out;have Hb1:=lhd hb1;have hgl1:=zAl hgl hb1.size;have hgl21:=zAl hgl2 hb1.size;obtain ⟨pp,hpp⟩:=eqx (aC C x);rw [hpp] at c4;have Hpp:=lhd hpp;clear hhas hb1 h1 hpp;go_wp2_with fail;go_quiet (fail);go_wp2_with fail;go_ret;exact ⟨x,zAd Hx1.out,Hx3.out,by rw [Hpp.out];rfl,below_drewN Hb1.out _⟩
def wR (w:World) (pr:List (Nat×Nat)) (pos:Nat) (e:Ending) (w':World):Prop:=∃r,(r,pos)∈pr/\e=.returned (.int .i64 (r:Int))/\Below w.heap.size w w'
theorem qN (gp R P:Nat) (pr:List (Nat×Nat)) (pos:Nat) (w:World) (h:PermR w gp R P pr) (hex:∃x∈pr,x.2=pos):
 Calls Tryz.prog 125 #[.pointer (some ⟨gp,0,none⟩),.int .i64 (pos:Int)] w (wR w pr pos):=by
 obtain ⟨B,ga,vl,vo,vt,vf,ks,C,tk,fr,h1,h2,h3,h4,rfl⟩:=h;have hex':∃k∈ks,aF C k=pos:=by obtain ⟨x,hx,e⟩:=hex;obtain ⟨k,hk,rfl⟩:=zAy.1 hx;exact ⟨k,hk,e⟩
 have hr:=aAD B gp ga vl vo vt vf R P ks C tk fr pos w h1 oM oM hex';refine hr.mono ?_;rintro e w' ⟨k,hk,hp,rfl,hb⟩;exact ⟨_,zAy.2 ⟨k,hk,by rw [hp]⟩,rfl,hb⟩
theorem xU (gp R P:Nat) (pr:List (Nat×Nat)) (pos:Nat) (w:World) (h:PermR w gp R P pr) (hno:∀x∈pr,x.2≠pos):
 Calls Tryz.prog 125 #[.pointer (some ⟨gp,0,none⟩),.int .i64 (pos:Int)] w fun e w'=>e=.returned (.int .i64 (-1))/\Below w.heap.size w w':=by
 obtain ⟨B,ga,vl,vo,vt,vf,ks,C,tk,fr,h1,h2,h3,h4,rfl⟩:=h;have hhas:=iJ B gp ga vl vo vt vf R P ks C tk fr pos w h1 oM;rw [jP (p:=fun k=>decide (aF C k=pos)) (l:=ks) (fun k hk=>zBy (hno _ (zAy.2 ⟨k,hk,rfl⟩))) 0] at hhas;clear h1 h2 hno;go_enter Tryz.func125,Tryz.ntmps125;go_wp2_with fail;refine hhas.mono ?_;rintro e w1 ⟨rfl,hb1⟩;have Hb1:=lhd hb1;clear hhas hb1;go_wp2_with fail;go_ret;exact ⟨rfl,Hb1.out⟩
end Go.Proofs.YtnhmjomhloainaaGreatDoor
namespace Go.Proofs.YtnhmjomhloainaaGreatDoor
open Go.RowKit
theorem aAi {L:List Nat} {i s:Nat} (h:L[i]?=some s):(L.take i).count s < L.count s:=by
 have h1:L.count s=(L.take (i+1)).count s+(L.drop (i+1)).count s:=by rw [<-zCc,zAu]
 have h2:(L.take (i+1)).count s=(L.take i).count s+1:=by rw [zAv,h,zCc];simp
 omega
theorem aGc {t:List UInt8} {rs:List Nat} (h:IsSuf (aD t) rs) {i j p:Nat} {c:UInt8} (hi:rs[i]?=some (p+1)) (hj:rs[j]?=some p) (hc:t[p]?=some c):
 (aE (aD t) rs)[i]?=some (c.toNat+1)/\cE (aE (aD t) rs) (c.toNat+1) i=j:=by
 obtain ⟨hi1,hi2⟩:=zAc.1 hi;obtain ⟨hj1,hj2⟩:=zAc.1 hj;have hp:=(zAc.1 hc).1;have hg:(aD t).getD p 0=c.toNat+1:=by unfold aD dE;rw [zAb,zAn (by simpa using hp),zAf,hc];rfl
 have h1:=lf h (dZ t) hi1 hj1 hi2 hj2;have h2:=pT (dZ t) hi1 hi2 hp;rw [hg] at h1 h2;exact ⟨zAc.2 ⟨_,h2⟩,h1⟩
theorem oB (B gk:Nat) (L:List Nat) (i j s:Nat) (w:World) (h:WalkAt w B gk L) (his:L[i]?=some s) (hij:cE L s i=j) (hL:∀x∈L,x < 257) (hl:L.length<=1000):
 Calls Tryz.prog 165 #[.pointer (some ⟨gk,0,none⟩),.int .i64 (j:Int)] w fun e w'=>e=.returned (.int .i64 (s:Int))/\Below w.heap.size w w':=by
 have hs:s < 257:=hL _ (zAd his);have hcl:=aAi his;have hjd:L.countP (fun x=>decide (x < s))+(L.take i).count s=j:=hij;have hjl:j < L.length:=by have:=tO L s L.length;unfold cE at this;rw [List.take_length] at this;omega
 have hH:=h;obtain ⟨gv,gt,h1,h2,h3⟩:=h;have c1:=h1.cell 1;obtain ⟨H,H3,Hj,Hc,Hjl,Hl⟩:=hqq6 hH h3 hjd hcl hjl hl;clear hH h1 h2 h3 hjd hcl hij hjl hL hl his;go_enter Tryz.func165,Tryz.ntmps165;go_wp2_with fail;refine (vV B gk L j w H.out Hjl.out).mono ?_;rintro e w1 ⟨rfl,rfl⟩;go_wp2_with fail;refine (wI gt L j s _ H3.out hs (by have:=Hj.out;omega) (by have:=Hj.out;have:=Hc.out;omega) Hl.out).mono ?_;rintro e w' ⟨rfl,hb⟩;go_wp2_with fail;go_ret;exact ⟨rfl,hb⟩
theorem sM (c:UInt8) (s:Nat) (hs:s=c.toNat+1) (w:World):
 Calls Tryz.prog 157 #[.int .i64 (s:Int)] w fun e w'=>e=.returned (.tuple #[bv c,.bool true])/\Below w.heap.size w w':=by
 have hc:=c.toNat_lt;have e0:¬((s:Int)=0):=oM;have e1:((s:Int)==0)=false:=by rw [zCb];omega
 have e2:IntKind.i64.wrap ((s:Int) - 1)=(c.toNat:Int):=by rw [IntKind.wrap_i64];omega
 have e3:IntKind.u8.wrap (c.toNat:Int)=(c.toNat:Int):=by rw [IntKind.wrap_u8];omega
 have e4:¬s=0:=oM;have e5:decide (s=0)=false:=zBy e4;have hs257:s < 257:=oM;clear hs hc;go_enter Tryz.func157,Tryz.ntmps157;go_wp2_with fail;refine (eT s w hs257).mono ?_;rintro e w1 ⟨rfl,hb⟩;go_wp2_with fail;go_ret2;exact ⟨rfl,hb⟩
theorem vT (B gk:Nat) (L:List Nat) (i j s:Nat) (w:World) (h:WalkAt w B gk L) (his:L[i]?=some s) (hij:cE L s i=j) (hL:∀x∈L,x < 257) (hl:L.length<=1000) (hT:TabW w) (hB0:1 < B):
 Calls Tryz.prog 145 #[.pointer (some ⟨gk,0,none⟩),.int .i64 (j:Int)] w fun e w'=>e=.returned (.int .i64 (i:Int))/\VB B w w':=by
 have hs:s < 257:=hL _ (zAd his);have hfirst:=oB B gk L i j s w h his hij hL hl;obtain ⟨q,hq⟩:∃q,L.countP (fun x=>decide (x < s))=q:=⟨_,rfl⟩;obtain ⟨c,hc⟩:∃q,(L.take i).count s=q:=⟨_,rfl⟩;have hjd:q+c=j:=by rw [<-hq,<-hc];exact hij
 have hb1:q<=1000:=by rw [<-hq];exact zAk zBh hl
 have hb2:c<=1000:=by rw [<-hc];exact zAk zBv (by rw [zAj];omega)
 have hH:=h;obtain ⟨gv,gt,h1,h2,h3⟩:=h;have hlt:=h1.lt;obtain ⟨H,H1,H2,His,HL,Hl,Hq,Hc,Hj⟩:=hqq9 hH h1 h2 his hL hl hq hc hjd;have HT:=lhd hT;clear hH h1 h2 h3 his hL hl hq hc hij hjd hT;have hs0:decide ((s:Int) < 0)=false:=by simp
 go_enter Tryz.func145,Tryz.ntmps145;go_wp2_with fail;refine hfirst.mono ?_;rintro e W ⟨rfl,hb⟩;clear hfirst;have hv:VB B w W:=VisK.of_below hb;obtain ⟨HW,H1W,H2W,HTW⟩:=hqq4 (H.out.vis hv.1) (hv.1.bk H1.out dC dC) (H2.out.vis hv.1) (HT.out.vb hv hB0 HT.out.pos);have hsz:=hv.1.size;have Hv:=lhd hv;clear hv hb;go_wp2_with fail;refine wp_region_any kR ?_;refine aX [11,12,13,14,15,16,17,18,19,20,21,4] (VB B) (Vs [is (.pointer (some ⟨gk,0,none⟩)),is (.pointer (some ⟨gk,0,none⟩)),is (.pointer (some ⟨gk,0,none⟩)),is (.pointer (some ⟨gv,0,none⟩)),is (.int .i64 (j:Int)),is (.pointer (some ⟨gk,0,none⟩)),is (.int .i64 (s:Int)),is (.int .i64 (q:Int)),is (.int .i64 (c:Int)),is (.int .i64 (s:Int)),is (.int .i64 (i:Int)),is (.int .i64 (i:Int))]) _ _ rfl kR vR (fun _ _=>VisK.trans) (cY (by repeat' (first | exact cA _ _ | exact bS _ |(refine zAe.2 ⟨?_,?_⟩)|(intro p hp;cases hp)))) ?_ ?_
 · refine aT ?_;refine pH 0 (.pointer (some ⟨gk,0,none⟩)) ?_;refine pV 0 11 ?_;refine pV 1 12 ?_;refine sC (fun _ w5 hS _ _ _ hval _ _ _ hK=>?_) ?_
   · have e13:_=_:=hval 2 13 kR rfl;replace hS:(VB B) W w5:=bD hS;have c26:w5.cell? ⟨gk,0,none⟩=some (.pointer (some ⟨gv,0,none⟩)):=((hS.1.bk H1W.out dC dC).cell 0).trans rfl;go_simp;exact hK _ _ vR rfl
   refine pH 1 (.int .i64 (j:Int)) ?_;refine pH 0 (.pointer (some ⟨gk,0,none⟩)) ?_;refine pH 5 (.int .i64 (s:Int)) ?_;refine sC (fun _ w5 hS _ _ _ hval _ _ _ hK=>?_) ?_
   · have e16:_=_:=hval 5 16 kR rfl;have e17:_=_:=hval 6 17 kR rfl;replace hS:(VB B) W w5:=bD hS;go_simp;refine (gV B gk L s w5 (HW.out.vis hS.1) hs Hl.out).mono ?_;rintro e w8 ⟨rfl,hb8⟩;rw [Hq.out];exact hK _ _ (VisK.of_below hb8) rfl
   refine sC (fun _ _ _ _ _ _ hval _ _ _ hK=>?_) ?_
   · have e15:_=_:=hval 4 15 kR rfl;have e18:_=_:=hval 7 18 kR rfl;have hx1:IntKind.i64.wrap ((j:Int) -(q:Int))=(c:Int):=(by rw [IntKind.wrap_i64];have:=Hj.out;omega);go_simp;exact hK _ _ vR rfl
   refine pH 5 (.int .i64 (s:Int)) ?_;refine sC (fun _ w5 hS _ _ _ hval _ _ _ hK=>?_) ?_
   · have e14:_=_:=hval 3 14 kR rfl;have e19:_=_:=hval 8 19 kR rfl;have e20:_=_:=hval 9 20 kR rfl;replace hS:(VB B) W w5:=bD hS;go_simp;refine (vP B gv L i c s w5 (H2W.out.vis hS.1) His.out Hc.out HL.out Hl.out (HTW.out.vb hS hB0 HTW.out.pos) hB0).mono ?_;rintro e w8 ⟨rfl,hv8⟩;exact hK _ _ hv8 rfl
   refine pV 10 21 ?_;exact aG
 · intro ev w6 hS hval;replace hS:(VB B) W w6:=bD hS;have e4:ev (.tmp 4)=.int .i64 (i:Int):=hval 11 4 rfl;simp only [aO,zq1,zq2,Act.put,zq3,zq4,zq5];rw [e4];clear hval;have hv6:=Hv.out.trans hS;go_wp2_with fail;go_ret;exact ⟨rfl,hv6⟩
theorem aDF (A A2:Option Addr) (n c c2 B:Nat) (L:List Nat) (w:World) (hr:Rd w B 1 A n (L.map sv)) (hr2:Rd w B 1 A2 n (L.map sv)) (hB:B<=w.heap.size) (hn:n<=1099511627776):
 Calls Tryz.prog 108 #[.slice A n c,.slice A2 n c2] w fun e w'=>e=.returned (.bool true)/\Below w.heap.size w w':=by
 have hbl:L.length=n:=by have:=hr.1;simpa using this
 obtain ⟨H,H2⟩:=hqq2 hr hr2;clear hr hr2;go_enter Tryz.func108,Tryz.ntmps108;go_wp2_with fail;go_loopw [13] (fun i wr=>∃k:Nat,k<=n/\i=.int .i64 (k:Int)/\Below w.heap.size w wr) (fun i _=>n -(intOf i).toNat)
 case atStart=>exact ⟨0,by omega,rfl,Below.refl _ _⟩
 case round=>
  obtain ⟨k,hk,rfl,hb⟩:=hrel;by_cases hlt:k < n
  · obtain ⟨b1,o1,u,rfl,hb1,hu,hc1⟩:=(H.out.below (hb.mono hB)).get hlt;obtain ⟨b2,o2,u2,rfl,hb2,hu2,hc2⟩:=(H2.out.below (hb.mono hB)).get hlt;obtain ⟨x,hx⟩:∃x,L[k]?=some x:=⟨_,zAa oM⟩;rw [zAf,hx] at hu hu2;injection hu with hu;injection hu2 with hu2;subst hu hu2;unfold sv at hc1 hc2;go_wp2_with fail;go_quiet (fail);go_wp2_with fail;go_roundw
    case rel=>exact ⟨k+1,by omega,by go_num,⟨hb.os,hb.tape,hb.output,hb.size,hb.block⟩⟩
    case measure=>simp [intOf];omega
  · have hks:k=n:=oM;subst hks;go_wp2_with fail;go_ret;exact ⟨rfl,hb⟩
theorem wP (A A2:Option Addr) (n c c2 B:Nat) (L:List Nat) (w:World) (hr:Rd w B 1 A n (L.map sv)) (hr2:Rd w B 1 A2 n (L.map sv)) (hB:B<=w.heap.size) (hn:n<=1099511627776):
 Calls Tryz.prog 158 #[.slice A n c,.slice A2 n c2] w fun e w'=>e=.returned (.bool true)/\Below w.heap.size w w':=by
 have he:=aDF A A2 n c c2 B L w hr hr2 hB hn;clear hr hr2;go_enter Tryz.func158,Tryz.ntmps158;go_wp2_with fail;refine he.mono ?_;rintro e w1 ⟨rfl,hb⟩;go_wp2_with fail;go_ret;exact ⟨rfl,hb⟩
theorem xC (A A2:Option Addr) (n n2 c c2 B:Nat) (l l2:List UInt8) (w:World) (hr:Rd w B 1 A n (l.map bv)) (hr2:Rd w B 1 A2 n2 (l2.map bv)):
 Calls Tryz.prog 89 #[.slice A n c,.slice A2 n2 c2] w fun e w'=>e=.returned (.bool (l==l2))/\Below w.heap.size w w':=by
 have s1:(convert 23 9 (.slice A n c)).run Tryz.prog w=.ok (.string ⟨l.toArray⟩) w:=oJ (P:=Tryz.prog) 23 9 5 Tryz.underlying23 Tryz.underlying5 Tryz.underlying9 hr;have s2:(convert 23 9 (.slice A2 n2 c2)).run Tryz.prog w=.ok (.string ⟨l2.toArray⟩) w:=oJ (P:=Tryz.prog) 23 9 5 Tryz.underlying23 Tryz.underlying5 Tryz.underlying9 hr2;obtain ⟨x1,hx1⟩:∃x:ByteArray,⟨l.toArray⟩=x:=⟨_,rfl⟩;obtain ⟨x2,hx2⟩:∃x:ByteArray,⟨l2.toArray⟩=x:=⟨_,rfl⟩;rw [hx1] at s1;rw [hx2] at s2;have e1:x1.toList=l:=by rw [<-hx1,ByteArray.toList_eq]
 have e2:x2.toList=l2:=by rw [<-hx2,ByteArray.toList_eq]
 clear hx1 hx2 hr hr2;go_enter Tryz.func89,Tryz.ntmps89;go_wp2_with fail;go_ret;refine ⟨?_,Below.refl _ _⟩;rw [<-e1,<-e2];rfl
end Go.Proofs.YtnhmjomhloainaaGreatDoor
