/- Lemmas of the walk. Conditions: each its own. -/
import Derived.Test.YthldmddkfbijhaaGreatDoorPsr31
import Derived.Test.YthldmddkfbijhaaGreatDoorProg
set_option linter.all false
set_option maxRecDepth 100000
set_option maxHeartbeats 4000000
namespace Go.Proofs.YthldmddkfbijhaaGreatDoor
open Go.RowKit
theorem aCT (gp:Nat) (A AD:Option Addr) (n c nd cd B1 B2:Nat) (T D:List UInt8) (L:List Nat) (N:Nat) (w:World) (hb:Bk w gp 183 #[.slice A n c]) (hr:Rd w B1 1 A n (T.map bv)) (hB1:B1<=w.heap.size) (hnc:n<=c)
 (hd:Rd w B2 1 AD nd (D.map bv)) (hB2:B2<=w.heap.size) (hL:fM T D=L) (hN:L.length=N) (hn:n<=1099511627776) (hnd:nd<=1099511627776):
 Calls Tryz.prog 189 #[gp,.slice AD nd cd] w fun e w'=>∃A' c',e=.returned (.slice A' N c')/\Made w' w.heap.size 3 1 A' N c' (L.map nv)/\Below w.heap.size w w':=by
 obtain ⟨i0,hi0,hz0,hz1,hz2⟩:=info_parts aCM;have lT:T.length=n:=by simpa using hr.1
 have lD:D.length=nd:=by simpa using hd.1
 obtain ⟨Hr,Hd⟩:=hqq2 (hr.mono hB1) (hd.mono hB2);have hend:∀k:Nat,k<=n+1 - nd->¬(k+nd<=n)->iB T D k=L:=fun k h1 h2=>by rw [<-hL,fM,lT,lD];congr 1;omega
 obtain ⟨Hend,HN⟩:=hqq2 hend hN;have hbp:=hb.lt;clear hr hd hL hN hend lT lD;go_enter Tryz.func189,Tryz.ntmps189;go_wp2;go_loopw [5,6] (fun v i wr=>∃k:Nat,k<=n+1 - nd/\i=.int .i64 k/\wr.ownsRow w.heap.size 3 1 v (iB T D k).length ((iB T D k).map nv)/\Below w.heap.size w wr) (fun _ i _=>n+1 -(intOf i).toNat)
 case atStart=>exact ⟨0,zAp _,rfl,World.ownsRow_nil _ _ _ _,Below.refl _ _⟩
 case round=>
  obtain ⟨k,hk,rfl,hown,hbw⟩:=hrel;have hsz:=hbw.size;have hbk:=(hb.below hbw hbp);have c0:wr.cell? ⟨gp,0,none⟩=some (.slice A n c):=(hbk.cell 0).trans rfl;by_cases hlt:k+nd<=n
  · have hr5:=Hr.out.below hbw;have hcut:=iL (P:=Tryz.prog) 26 5 1 Tryz.underlying26 kG A n c k oM;have c2:=hr5.cut (k:=k) (cap:=c) oM hnc;rw [zBl,<-List.map_drop] at c2;obtain ⟨Hc2,Hd5⟩:=hqq2 c2 (Hd.out.below hbw);have hle:=aAK T D k;have hdec:decide ((k:Int)+(nd:Int)<=(n:Int))=true:=(by simp;omega);obtain ⟨Hbk,Hown⟩:=hqq2 hbk hown;clear hr5 c2 hown hbk;cases hp:D.isPrefixOf (T.drop k) with
    | true=>
      have hnx:=aED T D k hp;have Hnx:=lhd hnx;obtain ⟨q,hq⟩:=eqx ((iB T D k).length);rw [hq] at hle Hown;have Hq:=lhd hq;clear hnx hq;go_wp2_with fail;refine (zD _ _ _ _ _ _ _ _ (T.drop k) D _ Hc2.out Hd5.out oM).mono ?_;rintro e w' ⟨rfl,rfl⟩;rw [hp];go_wp2_with (at_builtin;refine bP _ rfl (.tmp 27) (.tmp 29) _ rfl w.heap.size 3 i0 (.int .i64 0) 1 8 Tryz.underlying22 hi0 hz0 hz1 hz2 rfl dC _ q _ rfl Hown.out rfl rfl (by simp [Value.oneCell']) (by unfold maxLen;omega) oM hsz ?_;intro v2 w2 hown2 hg2 hs2 hat2);have hb2:=aZ hbw Hown.out hg2 hsz;clear hg2 hat2;go_roundw
      case rel=>refine ⟨k+1,by omega,by go_num,?_,hb2⟩;rw [Hnx.out,zAi,Hq.out,zAz];exact hown2
      case measure=>simp [intOf];omega
    | false=>
      have hnx:=aAJ T D k hp;have Hnx:=lhd hnx;clear hnx hle;go_wp2_with fail;refine (zD _ _ _ _ _ _ _ _ (T.drop k) D _ Hc2.out Hd5.out oM).mono ?_;rintro e w' ⟨rfl,rfl⟩;rw [hp];go_wp2;go_roundw
      case rel=>refine ⟨k+1,by omega,by go_num,?_,hbw⟩;rw [Hnx.out];exact Hown.out
      case measure=>simp [intOf];omega
  · have hdec:decide ((k:Int)+(nd:Int)<=(n:Int))=false:=(by simp;omega);rw [Hend.out k hk hlt,HN.out] at hown;obtain ⟨A',c',rfl,hm⟩:=aS hown;clear hown hbk;go_wp2;go_ret;exact ⟨A',c',rfl,hm,hbw⟩
def aKj (most:Int) (w w':World) (e:Ending):Prop:=∃g gp,e=.returned (.tuple #[.pointer (some ⟨g,0,none⟩),.int .i64 0])/\Below w.heap.size w w'/\w.heap.size<=g/\w.heap.size<=gp/\g≠gp/\
 Bk w' g 185 #[.pointer (some ⟨gp,0,none⟩),.int .i64 most]/\Bk w' gp 183 #[.slice none 0 0]
theorem aLb (most:Int) (w:World) (h0:0<=most) (h1:most<=2147483648):
 Calls Tryz.prog 83 #[.int .i64 most] w fun e w'=>aKj most w w' e:=by
 have t0:¬(most < 0):=oM;have t1:¬(most > 2147483648):=oM;go_enter Tryz.func83,Tryz.ntmps83;go_wp2;go_ret2;exact ⟨w.heap.size+1,w.heap.size,rfl,(bR.alloc nL _).alloc (by simp) _,by omega,zAs _,by omega,by simpa using Bk.new (w.alloc (.cells #[.slice none 0 0] 183)) 185 #[w.heap.size,.int .i64 most],(Bk.new _ _ _).alloc _⟩
theorem aFg (g gp:Nat) (AD:Option Addr) (nd cd B:Nat) (p k:Nat) (most:Int) (T D:List UInt8) (w:World) (hg:Bk w g 185 #[gp,.int .i64 most]) (hp:PlS w gp T)
 (hd:Rd w B 1 AD nd (D.map bv)) (hB:B<=w.heap.size) (hdne:0 < nd->∀a,AD=some a->a.block≠gp) (hgne:g≠gp) (hT:T.length<=549755813888) (hD:nd<=549755813888) (hpb:-9223372036854775808<=(p:Int)/\(p:Int)<=9223372036854775807) (hkb:-9223372036854775808<=(k:Int)/\(k:Int)<=9223372036854775807) (hmb:0<=most/\most<=2147483648)
 (hhas:eD T.length p k=true):
 Calls Tryz.prog 139 #[g,bT 5 p k AD nd cd] w fun e w'=>fY gp (T) ⟨0,0,(T.drop p).take k, []⟩ w w' e:=by
 have Hp:=lhd hp;obtain ⟨A,c,hb,hr,hnc,hne⟩:=hp;obtain ⟨n,hn⟩:=eqx T.length;rw [hn] at hb hr hnc hT hne;rw [hn] at hhas;have hDl:D.length=nd:=by simpa using hd.1
 have F:=fR (kind:=5) (p:=p) (k:=k) (cd:=cd) hg hb hr hd hB hgne;obtain ⟨HF,Hn,Hne,Hdne⟩:=hqq4 F hn hne hdne;clear hb hr hd hg F hn hne hdne;obtain ⟨q,hq⟩:=eqx (p+k);obtain ⟨X,hX⟩:=eqx ((T.drop p).take k);rw [hX];have hqn:q<=n:=by unfold eD at hhas;have:=of_decide_eq_true hhas;omega
 have hXl:X.length=q - p:=by rw [<-hX];have:=Hn.out;simp only [zAj,zAw];omega
 have hcut:∀w5:World,Rd w5 w.heap.size 1 A n (T.map bv)->Rd w5 w.heap.size 1 (dP A c p 1) (q - p) (X.map bv):=fun w5 hr5=>by have h1:=(hr5.cut (k:=p) (cap:=c) oM hnc).cut_hi (k:=q - p) oM;rw [zBl,zBl,<-List.map_drop,<-List.map_take,show q - p=k by omega,hX] at h1;rw [show q - p=k by omega];exact h1
 have hcutr:=qZ (P:=Tryz.prog) 26 5 1 Tryz.underlying26 kG A n c p q oM oM;obtain ⟨Hcut,HX⟩:=hqq2 hcut hXl;clear hX hXl hcut;unfold bT;go_enter Tryz.func139,Tryz.ntmps139;go_wp2;obtain ⟨W,hW⟩:=eqx ((w.alloc (.cells #[.int .i64 5,.int .i64 p,.int .i64 k,.slice AD nd cd] 46)).alloc (.cells #[.int .i64 0,.int .i64 0,.slice none 0 0,.slice none 0 0] 50));rw [hW] at HF⊢;have F:=HF.out;clear hW HF;refine wp_region_any kR ?_;refine aO [55,56,57,58,59,60,61,62,63,64] Grow (Vs [is g,is g,is g,is gp,is (.pointer (some ⟨w.heap.size,1,none⟩)),is (.int .i64 p),is (.pointer (some ⟨w.heap.size,2,none⟩)),is (.int .i64 k),is (.bool true),is (.bool false)]) _ _ rfl kR bR (fun _ _=>Grow.trans) (eU tA2) ?_ ?_
 · refine aM ?_;refine sC (fun ev _ _ _ _ hold _ _ _ _ hK=>?_) ?_
   · have e0:ev (.tmp 0)=.pointer (some ⟨g,0,none⟩):=hold 0 kR;go_simp;exact hK _ _ bR rfl
   refine sC (fun _ _ _ _ _ _ hval _ _ _ hK=>?_) ?_
   · have e55:_=_:=hval 0 55 kR rfl;go_simp;exact hK _ _ bR rfl
   refine sC (fun _ _ _ _ _ _ hval _ _ _ hK=>?_) ?_
   · have e56:_=_:=hval 1 56 kR rfl;go_simp;exact hK _ _ bR rfl
   refine sC (fun _ w5 hS _ _ _ hval _ _ _ hK=>?_) ?_
   · have e57:_=_:=hval 2 57 kR rfl;replace hS:Grow W w5:=⟨hS.os,hS.tape,hS.output,hS.size,hS.block⟩;have c58:w5.cell? ⟨g,0,none⟩=some (.pointer (some ⟨gp,0,none⟩)):=((F.mod.below hS F.mod.lt).cell 0).trans rfl;go_simp;exact hK _ _ bR rfl
   refine sC (fun ev _ _ _ _ hold _ _ _ _ hK=>?_) ?_
   · have e3:ev (.tmp 3)=.pointer (some ⟨w.heap.size,0,none⟩):=hold 3 kR;go_simp;exact hK _ _ bR rfl
   refine sC (fun _ w5 hS _ _ _ hval _ _ _ hK=>?_) ?_
   · have e59:_=_:=hval 4 59 kR rfl;replace hS:Grow W w5:=⟨hS.os,hS.tape,hS.output,hS.size,hS.block⟩;have c60:w5.cell? ⟨w.heap.size,1,none⟩=some (.int .i64 p):=((F.step.below hS F.step.lt).cell 1).trans rfl;go_simp;exact hK _ _ bR rfl
   refine sC (fun ev _ _ _ _ hold _ _ _ _ hK=>?_) ?_
   · have e3:ev (.tmp 3)=.pointer (some ⟨w.heap.size,0,none⟩):=hold 3 kR;go_simp;exact hK _ _ bR rfl
   refine sC (fun _ w5 hS _ _ _ hval _ _ _ hK=>?_) ?_
   · have e61:_=_:=hval 6 61 kR rfl;replace hS:Grow W w5:=⟨hS.os,hS.tape,hS.output,hS.size,hS.block⟩;have c62:w5.cell? ⟨w.heap.size,2,none⟩=some (.int .i64 k):=((F.step.below hS F.step.lt).cell 2).trans rfl;go_simp;exact hK _ _ bR rfl
   refine sC (fun _ w5 hS _ _ _ hval _ _ _ hK=>?_) ?_
   · have e58:_=_:=hval 3 58 kR rfl;have e60:_=_:=hval 5 60 kR rfl;have e62:_=_:=hval 7 62 kR rfl;replace hS:Grow W w5:=⟨hS.os,hS.tape,hS.output,hS.size,hS.block⟩;go_simp;refine (jR gp A n c p (k) w5 (((F.pl.below hS F.pl.lt).cell 0).trans rfl) oM hpb hkb).mono ?_;rintro e w8 ⟨rfl,rfl⟩;exact hK _ _ bR (iF hhas)
   refine sC (fun _ _ _ _ _ _ hval _ _ _ hK=>?_) ?_
   · have e63:_=_:=hval 8 63 kR rfl;go_simp;exact hK _ _ bR rfl
   exact aC
 · intro ev w6 hS hval;replace hS:Grow W w6:=⟨hS.os,hS.tape,hS.output,hS.size,hS.block⟩;have e64:ev (.tmp 64)=.bool false:=hval 9 64 rfl;simp only [aI,zq1,zq2,Act.put,zq3,zq4,zq5];rw [e64];clear hval;have F6:=F.grow hS;clear F hS;revert F6;generalize w6=W2;intro F;have c66:W2.cell? ⟨w.heap.size,0,none⟩=some (.int .i64 5):=(F.step.cell 0).trans rfl;go_wp2;refine wp_region_any kR ?_;refine bH [69,70,71,72,73,74,75,76,77,78,79,80,81,82,83,84,85] (fun b=>b=w.heap.size+1) 17 [17] (fun w1=>Bk w1 (w.heap.size+1) 50 #[.int .i64 0,.int .i64 0,.slice none 0 0,.slice none 0 0]) (aK3 (w.heap.size+1) (w.heap.size+2) 0 X) [is g,is g,is g,is gp,is gp,is gp,is (.slice A n c),is (.pointer (some ⟨w.heap.size,1,none⟩)),is (p:Int),is (.pointer (some ⟨w.heap.size,1,none⟩)),is (p:Int),is (.pointer (some ⟨w.heap.size,2,none⟩)),is (k:Int),is (q:Int),is (.slice (dP A c p 1) (q - p) (c - p)),kH (w.heap.size+2) 5 1 X.length (X.map bv),aK4 (w.heap.size+2) 0 X,cR] _ _ rfl kR kR (F.res) (fun w1 w2 h _ hg=>Bk.below h hg h.lt) (aI6 _ _ _ _) (by repeat' (first | exact iR _ _ | exact fZ _ | exact lJ (fun b hb=>by subst hb;omega) _ _ _ _ | exact aHO (fun b hb=>by subst hb;omega) _ _ |(refine zAe.2 ⟨?_,?_⟩)|(intro p hp;cases hp))) ?_ ?_
   · refine aM ?_;refine pH3 0 (.pointer (some ⟨g,0,none⟩)) ?_;refine pV3 0 69 ?_;refine pV3 1 70 ?_;refine sC3 (fun _ w5 hS _ _ _ _ hval _ _ _ hK=>?_) ?_
     · replace hS:Keep (fun b=>b=w.heap.size+1) W2 w5:=kD hS;have e71:_=_:=hval 2 71 kR rfl;have c72:w5.cell? ⟨g,0,none⟩=some (.pointer (some ⟨gp,0,none⟩)):=((hS.bk F.mod (fun h=>absurd (show g=w.heap.size+1 from h) (by have:=F.gll;omega))).cell 0).trans rfl;go_simp;exact kq hK rfl
     refine pV3 3 72 ?_;refine pV3 4 73 ?_;refine sC3 (fun _ w5 hS _ _ _ _ hval _ _ _ hK=>?_) ?_
     · replace hS:Keep (fun b=>b=w.heap.size+1) W2 w5:=kD hS;have e74:_=_:=hval 5 74 kR rfl;have c75:w5.cell? ⟨gp,0,none⟩=some (.slice A n c):=((hS.bk F.pl (fun h=>absurd (show gp=w.heap.size+1 from h) (by have:=F.gpl;omega))).cell 0).trans rfl;go_simp;exact kq hK rfl
     refine pH3 3 (.pointer (some ⟨w.heap.size,0,none⟩)) ?_;refine sC3 (fun _ w5 hS _ _ _ _ hval _ _ _ hK=>?_) ?_
     · replace hS:Keep (fun b=>b=w.heap.size+1) W2 w5:=kD hS;have e76:_=_:=hval 7 76 kR rfl;have c77:w5.cell? ⟨w.heap.size,1,none⟩=some (.int .i64 (p:Int)):=((hS.bk F.step (fun h=>absurd (show w.heap.size=w.heap.size+1 from h) oM)).cell 1).trans rfl;go_simp;exact kq hK rfl
     refine pH3 3 (.pointer (some ⟨w.heap.size,0,none⟩)) ?_;refine sC3 (fun _ w5 hS _ _ _ _ hval _ _ _ hK=>?_) ?_
     · replace hS:Keep (fun b=>b=w.heap.size+1) W2 w5:=kD hS;have e78:_=_:=hval 9 78 kR rfl;have c79:w5.cell? ⟨w.heap.size,1,none⟩=some (.int .i64 (p:Int)):=((hS.bk F.step (fun h=>absurd (show w.heap.size=w.heap.size+1 from h) oM)).cell 1).trans rfl;go_simp;exact kq hK rfl
     refine pH3 3 (.pointer (some ⟨w.heap.size,0,none⟩)) ?_;refine sC3 (fun _ w5 hS _ _ _ _ hval _ _ _ hK=>?_) ?_
     · replace hS:Keep (fun b=>b=w.heap.size+1) W2 w5:=kD hS;have e80:_=_:=hval 11 80 kR rfl;have c81:w5.cell? ⟨w.heap.size,2,none⟩=some (.int .i64 (k:Int)):=((hS.bk F.step (fun h=>absurd (show w.heap.size=w.heap.size+1 from h) oM)).cell 2).trans rfl;go_simp;exact kq hK rfl
     refine sC3 (fun _ _ _ _ _ _ _ hval _ _ _ hK=>?_) ?_
     · have e79:_=_:=hval 10 79 kR rfl;have e81:_=_:=hval 12 81 kR rfl;go_simp;exact hK _ _ (aJ bR) (dD (by rw [IntKind.wrap_i64];omega))
     refine sC3 (fun _ _ _ _ _ _ _ hval _ _ _ hK=>?_) ?_
     · have e75:_=_:=hval 6 75 kR rfl;have e77:_=_:=hval 8 77 kR rfl;have e82:_=_:=hval 13 82 kR rfl;go_simp;exact kq hK rfl
     refine sC3 (fun _ w5 hS _ _ _ _ hval _ _ _ hK=>?_) ?_
     · replace hS:Keep (fun b=>b=w.heap.size+1) W2 w5:=kD hS;have e83:_=_:=hval 14 83 kR rfl;go_simp;have hr5:=hS.rd F.rT F.low.size (fun b hb h=>absurd (show b=w.heap.size+1 from h) oM);have hc5:=Hcut.out w5 hr5;refine (aHq _ _ _ _ X _ hc5 (zAk F.low.size hS.size) oM).mono ?_;rintro e w8 ⟨A9,c9,rfl,hm9,hb9⟩;rw [<-HX.out] at hm9⊢;exact hK _ _ (aJ hb9) ⟨A9,c9,rfl,hm9.mono (by have:=hS.size;have:=F.res.lt;omega)⟩
     refine sC3 (fun ev w5 _ _ _ _ _ hval _ _ _ hK=>?_) ?_
     · have p84:(kH (w.heap.size+2) 5 1 X.length (X.map bv)) (ev (.tmp 84)) w5:=hval 15 84 kR rfl;obtain ⟨A9,c9,e84,hm9⟩:=p84;go_simp;exact hK _ _ (aJ bR) ⟨A9,c9,rfl,hm9⟩
     refine sC3 (fun ev w5 _ hU _ _ hold hval _ _ _ hK=>?_) ?_
     · have hpre:=hU rfl;have e4:ev (.tmp 4)=.pointer (some ⟨w.heap.size+1,0,none⟩):=hold 4 kR;have p85:(aK4 (w.heap.size+2) 0 X) (ev (.tmp 85)) w5:=hval 16 85 kR rfl;obtain ⟨A9,c9,e85,hm9⟩:=p85;unfold lF at e85;have r0:w5.cell? ⟨w.heap.size+1,0,none⟩=some (.int .i64 0):=(hpre.cell 0).trans rfl;have f0:=hpre.frozen 0;have r1:w5.cell? ⟨w.heap.size+1,1,none⟩=some (.int .i64 0):=(hpre.cell 1).trans rfl;have f1:=hpre.frozen 1;have r2:w5.cell? ⟨w.heap.size+1,2,none⟩=some (.slice none 0 0):=(hpre.cell 2).trans rfl;have f2:=hpre.frozen 2;have r3:w5.cell? ⟨w.heap.size+1,3,none⟩=some (.slice none 0 0):=(hpre.cell 3).trans rfl;have f3:=hpre.frozen 3;go_simp;exact hK (.bool true) _ (aW qM) ⟨A9,c9,gZ hpre,hm9.keepF qM (fun b hb=>by subst hb;omega)⟩
     exact aC
   · intro ev w6 hS hval hall;replace hS:Keep (fun b=>b=w.heap.size+1) W2 w6:=kD hS;obtain ⟨vJ,pJ⟩:∃v,(aK3 (w.heap.size+1) (w.heap.size+2) 0 X) v w6:=hall 17 dC;simp only [aI,zq1,zq2,Act.put,zq3,zq4,zq5];clear hval hall;obtain ⟨A9,c9,hb9,hm9⟩:=pJ;go_wp2;have hbl:Below w.heap.size w w6:=F.low.trans (hS.to_below F.low.size (fun b hb h=>absurd (show b=w.heap.size+1 from h) oM));exact iD (A1:=A9) (c1:=c9) (A2:=none) (c2:=0) (.inl rfl) rfl hb9 (Keep.of_below hbl) (hm9.mono oM) (bB _ _ _) (Hp.out.keep hbl)
theorem aJk (g gp:Nat) (AD:Option Addr) (nd cd B:Nat) (p k:Int) (most:Int) (T D:List UInt8) (w:World) (hg:Bk w g 185 #[gp,.int .i64 most]) (hp:PlS w gp T)
 (hd:Rd w B 1 AD nd (D.map bv)) (hB:B<=w.heap.size) (hdne:0 < nd->∀a,AD=some a->a.block≠gp) (hgne:g≠gp) (hT:T.length<=549755813888) (hD:nd<=549755813888) (hpb:-9223372036854775808<=(p:Int)/\(p:Int)<=9223372036854775807) (hkb:-9223372036854775808<=(k:Int)/\(k:Int)<=9223372036854775807) (hmb:0<=most/\most<=2147483648)
  :
 Calls Tryz.prog 139 #[g,bT 6 p k AD nd cd] w fun e w'=>fY gp (T) ⟨0,((fM T D).length:Int), [], []⟩ w w' e:=by
 have Hp:=lhd hp;obtain ⟨A,c,hb,hr,hnc,hne⟩:=hp;obtain ⟨n,hn⟩:=eqx T.length;rw [hn] at hb hr hnc hT hne;have hDl:D.length=nd:=by simpa using hd.1
 have F:=fR (kind:=6) (p:=p) (k:=k) (cd:=cd) hg hb hr hd hB hgne;obtain ⟨HF,Hn,Hne,Hdne⟩:=hqq4 F hn hne hdne;clear hb hr hd hg F hn hne hdne;obtain ⟨L,hL⟩:=eqx (fM T D);obtain ⟨N,hN⟩:=eqx L.length;rw [hL,hN];obtain ⟨HL,HN⟩:=hqq2 hL hN;clear hL hN;unfold bT;go_enter Tryz.func139,Tryz.ntmps139;go_wp2;obtain ⟨W,hW⟩:=eqx ((w.alloc (.cells #[.int .i64 6,.int .i64 p,.int .i64 k,.slice AD nd cd] 46)).alloc (.cells #[.int .i64 0,.int .i64 0,.slice none 0 0,.slice none 0 0] 50));rw [hW] at HF⊢;have F:=HF.out;clear hW HF;refine wp_region_any kR ?_;refine bH [134,135,136,137,138,139,140,141,142] (fun b=>b=w.heap.size+1) 9 [9] (fun w1=>Bk w1 (w.heap.size+1) 50 #[.int .i64 0,.int .i64 0,.slice none 0 0,.slice none 0 0]) (fun _ w1=>Bk w1 (w.heap.size+1) 50 #[.int .i64 0,(N:Int),.slice none 0 0,.slice none 0 0]) [is g,is g,is g,is gp,is (.pointer (some ⟨w.heap.size,3,none⟩)),is (.slice AD nd cd),kH (w.heap.size+2) 3 1 N (L.map nv),is (N:Int),is (.agg #[.int .i64 0,(N:Int),.slice none 0 0,.slice none 0 0]),cR] _ _ rfl kR kR (F.res) (fun w1 w2 h _ hg=>Bk.below h hg h.lt) (fun _ _ _ h k=>Bk.below h k h.lt) (by repeat' (first | exact iR _ _ | exact fZ _ | exact lJ (fun b hb=>by subst hb;omega) _ _ _ _ |(refine zAe.2 ⟨?_,?_⟩)|(intro p hp;cases hp))) ?_ ?_
 · refine aM ?_;refine pH3 0 (.pointer (some ⟨g,0,none⟩)) ?_;refine pV3 0 134 ?_;refine pV3 1 135 ?_;refine sC3 (fun _ w5 hS _ _ _ _ hval _ _ _ hK=>?_) ?_
   · replace hS:Keep (fun b=>b=w.heap.size+1) W w5:=kD hS;have e136:_=_:=hval 2 136 kR rfl;have c137:w5.cell? ⟨g,0,none⟩=some (.pointer (some ⟨gp,0,none⟩)):=((hS.bk F.mod (fun h=>absurd (show g=w.heap.size+1 from h) (by have:=F.gll;omega))).cell 0).trans rfl;go_simp;exact kq hK rfl
   refine pH3 3 (.pointer (some ⟨w.heap.size,0,none⟩)) ?_;refine sC3 (fun _ w5 hS _ _ _ _ hval _ _ _ hK=>?_) ?_
   · replace hS:Keep (fun b=>b=w.heap.size+1) W w5:=kD hS;have e138:_=_:=hval 4 138 kR rfl;have c139:w5.cell? ⟨w.heap.size,3,none⟩=some (.slice AD nd cd):=((hS.bk F.step (fun h=>absurd (show w.heap.size=w.heap.size+1 from h) oM)).cell 3).trans rfl;go_simp;exact kq hK rfl
   refine sC3 (fun _ w5 hS _ _ _ _ hval _ _ _ hK=>?_) ?_
   · replace hS:Keep (fun b=>b=w.heap.size+1) W w5:=kD hS;have e137:_=_:=hval 3 137 kR rfl;have e139:_=_:=hval 5 139 kR rfl;go_simp;have hr5:=hS.rd F.rT F.low.size (fun b hb h=>absurd (show b=w.heap.size+1 from h) oM);have hd5:=hS.rd F.rD F.low.size (fun b hb h=>absurd (show b=w.heap.size+1 from h) oM);have hB5:=zAk F.low.size hS.size;have hb5:=hS.bk F.pl (fun h=>absurd (show gp=w.heap.size+1 from h) (by have:=F.gpl;omega));refine (aCT gp A AD n c nd cd _ _ T D L N w5 hb5 hr5 hB5 hnc hd5 hB5 HL.out HN.out oM oM).mono ?_;rintro e w8 ⟨A9,c9,rfl,hm9,hb9⟩;exact hK _ _ (aJ hb9) ⟨A9,c9,rfl,hm9.mono (by have:=hS.size;have:=F.res.lt;omega)⟩
   refine sC3 (fun ev w5 _ _ _ _ _ hval _ _ _ hK=>?_) ?_
   · have p140:(kH (w.heap.size+2) 3 1 N (L.map nv)) (ev (.tmp 140)) w5:=hval 6 140 kR rfl;obtain ⟨A9,c9,e140,hm9⟩:=p140;go_simp;exact kq hK rfl
   refine pV3 7 141 ?_;refine sC3 (fun ev w5 _ hU _ _ hold hval _ _ _ hK=>?_) ?_
   · have hpre:=hU rfl;have e4:ev (.tmp 4)=.pointer (some ⟨w.heap.size+1,0,none⟩):=hold 4 kR;have e142:_=_:=hval 8 142 kR rfl;have r0:w5.cell? ⟨w.heap.size+1,0,none⟩=some (.int .i64 0):=(hpre.cell 0).trans rfl;have f0:=hpre.frozen 0;have r1:w5.cell? ⟨w.heap.size+1,1,none⟩=some (.int .i64 0):=(hpre.cell 1).trans rfl;have f1:=hpre.frozen 1;have r2:w5.cell? ⟨w.heap.size+1,2,none⟩=some (.slice none 0 0):=(hpre.cell 2).trans rfl;have f2:=hpre.frozen 2;have r3:w5.cell? ⟨w.heap.size+1,3,none⟩=some (.slice none 0 0):=(hpre.cell 3).trans rfl;have f3:=hpre.frozen 3;go_simp;exact hK (.bool true) _ (aW qM) (gZ hpre)
   exact aC
 · intro ev w6 hS hval hall;replace hS:Keep (fun b=>b=w.heap.size+1) W w6:=kD hS;obtain ⟨vJ,pJ⟩:∃v,(fun _ w1=>Bk w1 (w.heap.size+1) 50 #[.int .i64 0,(N:Int),.slice none 0 0,.slice none 0 0]) v w6:=hall 9 dC;simp only [aI,zq1,zq2,Act.put,zq3,zq4,zq5];clear hval hall;go_wp2;have hbl:Below w.heap.size w w6:=F.low.trans (hS.to_below F.low.size (fun b hb h=>absurd (show b=w.heap.size+1 from h) oM));exact iD (A1:=none) (c1:=0) (A2:=none) (c2:=0) (.inl rfl) rfl pJ (Keep.of_below hbl) (bB _ _ _) (bB _ _ _) (Hp.out.keep hbl)
theorem aHn (g gp:Nat) (AD:Option Addr) (nd cd B:Nat) (p k:Int) (most:Int) (T D:List UInt8) (w:World) (hg:Bk w g 185 #[gp,.int .i64 most]) (hp:PlS w gp T)
 (hd:Rd w B 1 AD nd (D.map bv)) (hB:B<=w.heap.size) (hdne:0 < nd->∀a,AD=some a->a.block≠gp) (hgne:g≠gp) (hT:T.length<=549755813888) (hD:nd<=549755813888) (hpb:-9223372036854775808<=(p:Int)/\(p:Int)<=9223372036854775807) (hkb:-9223372036854775808<=(k:Int)/\(k:Int)<=9223372036854775807) (hmb:0<=most/\most<=2147483648)
  :
 Calls Tryz.prog 139 #[g,bT 7 p k AD nd cd] w fun e w'=>fY gp (T) ⟨0,((fM T D).length:Int), [],fM T D⟩ w w' e:=by
 have Hp:=lhd hp;obtain ⟨A,c,hb,hr,hnc,hne⟩:=hp;obtain ⟨n,hn⟩:=eqx T.length;rw [hn] at hb hr hnc hT hne;have hDl:D.length=nd:=by simpa using hd.1
 have F:=fR (kind:=7) (p:=p) (k:=k) (cd:=cd) hg hb hr hd hB hgne;obtain ⟨HF,Hn,Hne,Hdne⟩:=hqq4 F hn hne hdne;clear hb hr hd hg F hn hne hdne;obtain ⟨L,hL⟩:=eqx (fM T D);obtain ⟨N,hN⟩:=eqx L.length;rw [hL,hN];obtain ⟨HL,HN⟩:=hqq2 hL hN;clear hL hN;unfold bT;go_enter Tryz.func139,Tryz.ntmps139;go_wp2;obtain ⟨W,hW⟩:=eqx ((w.alloc (.cells #[.int .i64 7,.int .i64 p,.int .i64 k,.slice AD nd cd] 46)).alloc (.cells #[.int .i64 0,.int .i64 0,.slice none 0 0,.slice none 0 0] 50));rw [hW] at HF⊢;have F:=HF.out;clear hW HF;refine wp_region_any kR ?_;refine bH [145,146,147,148,149,150,151,5] (fun _=>False) 7 [] (fun _=>True) (kH (w.heap.size+2) 3 1 N (L.map nv)) [is g,is g,is g,is gp,is (.pointer (some ⟨w.heap.size,3,none⟩)),is (.slice AD nd cd),kH (w.heap.size+2) 3 1 N (L.map nv),cR] _ _ rfl kR kR (trivial) (fun _ _ _ _ _=>trivial) (aGq _ _ _ _ _) (by repeat' (first | exact iR _ _ | exact fZ _ | exact lJ (fun b hb=>hb.elim) _ _ _ _ |(refine zAe.2 ⟨?_,?_⟩)|(intro p hp;cases hp))) ?_ ?_
 · refine aM ?_;refine pH3 0 (.pointer (some ⟨g,0,none⟩)) ?_;refine pV3 0 145 ?_;refine pV3 1 146 ?_;refine sC3 (fun _ w5 hS _ _ _ _ hval _ _ _ hK=>?_) ?_
   · replace hS:Keep (fun _=>False) W w5:=kD hS;have e147:_=_:=hval 2 147 kR rfl;have c148:w5.cell? ⟨g,0,none⟩=some (.pointer (some ⟨gp,0,none⟩)):=((hS.bk F.mod (fun h=>h)).cell 0).trans rfl;go_simp;exact kq hK rfl
   refine pH3 3 (.pointer (some ⟨w.heap.size,0,none⟩)) ?_;refine sC3 (fun _ w5 hS _ _ _ _ hval _ _ _ hK=>?_) ?_
   · replace hS:Keep (fun _=>False) W w5:=kD hS;have e149:_=_:=hval 4 149 kR rfl;have c150:w5.cell? ⟨w.heap.size,3,none⟩=some (.slice AD nd cd):=((hS.bk F.step (fun h=>h)).cell 3).trans rfl;go_simp;exact kq hK rfl
   refine sC3 (fun _ w5 hS _ _ _ _ hval _ _ _ hK=>?_) ?_
   · replace hS:Keep (fun _=>False) W w5:=kD hS;have e148:_=_:=hval 3 148 kR rfl;have e150:_=_:=hval 5 150 kR rfl;go_simp;have hr5:=hS.rd F.rT F.low.size (fun b hb h=>h);have hd5:=hS.rd F.rD F.low.size (fun b hb h=>h);have hB5:=zAk F.low.size hS.size;have hb5:=hS.bk F.pl (fun h=>h);refine (aCT gp A AD n c nd cd _ _ T D L N w5 hb5 hr5 hB5 hnc hd5 hB5 HL.out HN.out oM oM).mono ?_;rintro e w8 ⟨A9,c9,rfl,hm9,hb9⟩;exact hK _ _ (aJ hb9) ⟨A9,c9,rfl,hm9.mono (by have:=hS.size;have:=F.res.lt;omega)⟩
   refine sC3 (fun ev w5 _ _ _ _ _ hval _ _ _ hK=>?_) ?_
   · have p151:(kH (w.heap.size+2) 3 1 N (L.map nv)) (ev (.tmp 151)) w5:=hval 6 151 kR rfl;obtain ⟨A9,c9,e151,hm9⟩:=p151;go_simp;exact hK _ _ (aJ bR) ⟨A9,c9,rfl,hm9⟩
   exact aC
 · intro ev w6 hS hval hall;replace hS:Keep (fun _=>False) W w6:=kD hS;have p5:(kH (w.heap.size+2) 3 1 N (L.map nv)) (ev (.tmp 5)) w6:=hval 7 5 rfl;obtain ⟨vJ,pJ⟩:∃v,(kH (w.heap.size+2) 3 1 N (L.map nv)) v w6:=hall 7 dC;simp only [aI,zq1,zq2,Act.put,zq3,zq4,zq5];clear hval hall;obtain ⟨A9,c9,e5,hm9⟩:=p5;rw [e5];have hbl:Below w.heap.size w w6:=F.low.trans (hS.to_below F.low.size (fun b hb h=>h));have hres:Bk w6 (w.heap.size+1) 50 #[.int .i64 0,.int .i64 0,.slice none 0 0,.slice none 0 0]:=hS.bk F.res (fun h=>h);have r0:w6.cell? ⟨w.heap.size+1,0,none⟩=some (.int .i64 0):=(hres.cell 0).trans rfl;have f0:=hres.frozen 0;have r1:w6.cell? ⟨w.heap.size+1,1,none⟩=some (.int .i64 0):=(hres.cell 1).trans rfl;have f1:=hres.frozen 1;have r2:w6.cell? ⟨w.heap.size+1,2,none⟩=some (.slice none 0 0):=(hres.cell 2).trans rfl;have f2:=hres.frozen 2;have r3:w6.cell? ⟨w.heap.size+1,3,none⟩=some (.slice none 0 0):=(hres.cell 3).trans rfl;have f3:=hres.frozen 3;go_wp2;have hbl2:=lU (v0:=.int .i64 0) (v1:=.int .i64 (N:Int)) (v2:=.slice none 0 0) (v3:=.slice A9 N c9) (Nat.le_succ w.heap.size) hbl;rw [<-HN.out] at*
   exact iD (s:=w.heap.size+1) (A1:=none) (c1:=0) (A2:=A9) (c2:=c9) (.inl rfl) rfl (gZ hres) (Keep.of_below hbl2) (bB _ _ _) ((hm9.keepF qM (fun b hb=>by subst hb;omega)).mono oM) (Hp.out.keep hbl2)
end Go.Proofs.YthldmddkfbijhaaGreatDoor
