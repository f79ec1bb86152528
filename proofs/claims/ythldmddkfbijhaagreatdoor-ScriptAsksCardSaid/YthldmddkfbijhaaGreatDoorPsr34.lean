/- Lemmas of the walk. Conditions: each its own. -/
import Derived.Test.YthldmddkfbijhaaGreatDoorPsr31
import Derived.Test.YthldmddkfbijhaaGreatDoorProg
set_option linter.all false
set_option maxRecDepth 100000
set_option maxHeartbeats 4000000
namespace Go.Proofs.YthldmddkfbijhaaGreatDoor
open Go.RowKit
theorem aHo (g gp:Nat) (AD:Option Addr) (nd cd B:Nat) (p:Nat) (k:Int) (most:Int) (T D:List UInt8) (w:World) (hg:Bk w g 185 #[gp,.int .i64 most]) (hp:PlS w gp T)
 (hd:Rd w B 1 AD nd (D.map bv)) (hB:B<=w.heap.size) (hdne:0 < nd->∀a,AD=some a->a.block≠gp) (hgne:g≠gp) (hT:T.length<=549755813888) (hD:nd<=549755813888) (hpb:-9223372036854775808<=(p:Int)/\(p:Int)<=9223372036854775807) (hkb:-9223372036854775808<=(k:Int)/\(k:Int)<=9223372036854775807) (hmb:0<=most/\most<=2147483648)
 (hhas:eD T.length p 0=true) (hfull:(nd:Int)<=most -(T.length:Int)):
 Calls Tryz.prog 139 #[g,bT 1 p k AD nd cd] w fun e w'=>fY gp (T.take p++(D++T.drop (p+0))) ⟨0,0, [], []⟩ w w' e:=by
 have Hp:=lhd hp;obtain ⟨A,c,hb,hr,hnc,hne⟩:=hp;obtain ⟨n,hn⟩:=eqx T.length;rw [hn] at hb hr hnc hT hne;rw [hn] at hhas hfull;have hDl:D.length=nd:=by simpa using hd.1
 have F:=fR (kind:=1) (p:=p) (k:=k) (cd:=cd) hg hb hr hd hB hgne;obtain ⟨HF,Hn,Hne,Hdne⟩:=hqq4 F hn hne hdne;clear hb hr hd hg F hn hne hdne;obtain ⟨q,hq⟩:=eqx (p+0);rw [hq];obtain ⟨T2,hT2⟩:=eqx (T.take p++(D++T.drop q));rw [hT2];obtain ⟨N,hN⟩:=eqx T2.length;have hqn:q<=n:=by unfold eD at hhas;have:=of_decide_eq_true hhas;omega
 have hN2:N<=1099511627776:=by rw [<-hN,<-hT2];have:=Hn.out;simp only [zAi,zAj,zAw,List.length_nil];omega
 obtain ⟨HT2,HN⟩:=hqq2 hT2 hN;clear hT2 hN;unfold bT;go_enter Tryz.func139,Tryz.ntmps139;go_wp2;obtain ⟨W,hW⟩:=eqx ((w.alloc (.cells #[.int .i64 1,.int .i64 p,.int .i64 k,.slice AD nd cd] 46)).alloc (.cells #[.int .i64 0,.int .i64 0,.slice none 0 0,.slice none 0 0] 50));rw [hW] at HF⊢;have F:=HF.out;clear hW HF;refine wp_region_any kR ?_;refine aO [15,16,17,18,19,20,21,22,14] Grow (Vs [is g,is g,is g,is gp,is (.pointer (some ⟨w.heap.size,1,none⟩)),is (.int .i64 p),is (.bool true),is (.bool false),is (.bool false)]) _ _ rfl kR bR (fun _ _=>Grow.trans) (eU tA2) ?_ ?_
 · refine aM ?_;refine sC (fun ev _ _ _ _ hold _ _ _ _ hK=>?_) ?_
   · have e0:ev (.tmp 0)=.pointer (some ⟨g,0,none⟩):=hold 0 kR;go_simp;exact hK _ _ bR rfl
   refine sC (fun _ _ _ _ _ _ hval _ _ _ hK=>?_) ?_
   · have e15:_=_:=hval 0 15 kR rfl;go_simp;exact hK _ _ bR rfl
   refine sC (fun _ _ _ _ _ _ hval _ _ _ hK=>?_) ?_
   · have e16:_=_:=hval 1 16 kR rfl;go_simp;exact hK _ _ bR rfl
   refine sC (fun _ w5 hS _ _ _ hval _ _ _ hK=>?_) ?_
   · have e17:_=_:=hval 2 17 kR rfl;replace hS:Grow W w5:=⟨hS.os,hS.tape,hS.output,hS.size,hS.block⟩;have c18:w5.cell? ⟨g,0,none⟩=some (.pointer (some ⟨gp,0,none⟩)):=((F.mod.below hS F.mod.lt).cell 0).trans rfl;go_simp;exact hK _ _ bR rfl
   refine sC (fun ev _ _ _ _ hold _ _ _ _ hK=>?_) ?_
   · have e3:ev (.tmp 3)=.pointer (some ⟨w.heap.size,0,none⟩):=hold 3 kR;go_simp;exact hK _ _ bR rfl
   refine sC (fun _ w5 hS _ _ _ hval _ _ _ hK=>?_) ?_
   · have e19:_=_:=hval 4 19 kR rfl;replace hS:Grow W w5:=⟨hS.os,hS.tape,hS.output,hS.size,hS.block⟩;have c20:w5.cell? ⟨w.heap.size,1,none⟩=some (.int .i64 p):=((F.step.below hS F.step.lt).cell 1).trans rfl;go_simp;exact hK _ _ bR rfl
   refine sC (fun _ w5 hS _ _ _ hval _ _ _ hK=>?_) ?_
   · have e18:_=_:=hval 3 18 kR rfl;have e20:_=_:=hval 5 20 kR rfl;replace hS:Grow W w5:=⟨hS.os,hS.tape,hS.output,hS.size,hS.block⟩;go_simp;refine (jR gp A n c p (0) w5 (((F.pl.below hS F.pl.lt).cell 0).trans rfl) oM hpb oM).mono ?_;rintro e w8 ⟨rfl,rfl⟩;exact hK _ _ bR (iF hhas)
   refine sC (fun _ _ _ _ _ _ hval _ _ _ hK=>?_) ?_
   · have e21:_=_:=hval 6 21 kR rfl;go_simp;exact hK _ _ bR rfl
   refine sC (fun _ _ _ _ _ _ hval _ _ _ hK=>?_) ?_
   · have e22:_=_:=hval 7 22 kR rfl;go_simp;exact hK _ _ bR rfl
   exact aC
 · intro ev w6 hS hval;replace hS:Grow W w6:=⟨hS.os,hS.tape,hS.output,hS.size,hS.block⟩;have e14:ev (.tmp 14)=.bool false:=hval 8 14 rfl;simp only [aI,zq1,zq2,Act.put,zq3,zq4,zq5];rw [e14];clear hval;have F6:=F.grow hS;clear F hS;revert F6;generalize w6=W2;intro F;go_wp2;refine wp_region_any kR ?_;refine aO [25,26,27,28,29,30,31,32,33,34,35,36,37,38,39,40,41,24] Grow (Vs [is (.pointer (some ⟨w.heap.size,3,none⟩)),is (.slice AD nd cd),is (nd:Int),is g,is g,is (.pointer (some ⟨g,1,none⟩)),is (.int .i64 most),is g,is g,is g,is gp,is gp,is gp,is (.slice A n c),is (n:Int),is (.int .i64 (most -(n:Int))),is (.bool false),is (.bool false)]) _ _ rfl kR bR (fun _ _=>Grow.trans) (eU tA2) ?_ ?_
   · refine aM ?_;refine sC (fun ev _ _ _ _ hold _ _ _ _ hK=>?_) ?_
     · have e3:ev (.tmp 3)=.pointer (some ⟨w.heap.size,0,none⟩):=hold 3 kR;go_simp;exact hK _ _ bR rfl
     refine sC (fun _ w5 hS _ _ _ hval _ _ _ hK=>?_) ?_
     · have e25:_=_:=hval 0 25 kR rfl;replace hS:Grow W2 w5:=⟨hS.os,hS.tape,hS.output,hS.size,hS.block⟩;have c26:w5.cell? ⟨w.heap.size,3,none⟩=some (.slice AD nd cd):=((F.step.below hS F.step.lt).cell 3).trans rfl;go_simp;exact hK _ _ bR rfl
     refine sC (fun _ _ _ _ _ _ hval _ _ _ hK=>?_) ?_
     · have e26:_=_:=hval 1 26 kR rfl;go_simp;exact hK _ _ bR rfl
     refine sC (fun ev _ _ _ _ hold _ _ _ _ hK=>?_) ?_
     · have e0:ev (.tmp 0)=.pointer (some ⟨g,0,none⟩):=hold 0 kR;go_simp;exact hK _ _ bR rfl
     refine sC (fun _ _ _ _ _ _ hval _ _ _ hK=>?_) ?_
     · have e28:_=_:=hval 3 28 kR rfl;go_simp;exact hK _ _ bR rfl
     refine sC (fun _ _ _ _ _ _ hval _ _ _ hK=>?_) ?_
     · have e29:_=_:=hval 4 29 kR rfl;go_simp;exact hK _ _ bR rfl
     refine sC (fun _ w5 hS _ _ _ hval _ _ _ hK=>?_) ?_
     · have e30:_=_:=hval 5 30 kR rfl;replace hS:Grow W2 w5:=⟨hS.os,hS.tape,hS.output,hS.size,hS.block⟩;have c31:w5.cell? ⟨g,1,none⟩=some (.int .i64 most):=((F.mod.below hS F.mod.lt).cell 1).trans rfl;go_simp;exact hK _ _ bR rfl
     refine sC (fun ev _ _ _ _ hold _ _ _ _ hK=>?_) ?_
     · have e0:ev (.tmp 0)=.pointer (some ⟨g,0,none⟩):=hold 0 kR;go_simp;exact hK _ _ bR rfl
     refine sC (fun _ _ _ _ _ _ hval _ _ _ hK=>?_) ?_
     · have e32:_=_:=hval 7 32 kR rfl;go_simp;exact hK _ _ bR rfl
     refine sC (fun _ _ _ _ _ _ hval _ _ _ hK=>?_) ?_
     · have e33:_=_:=hval 8 33 kR rfl;go_simp;exact hK _ _ bR rfl
     refine sC (fun _ w5 hS _ _ _ hval _ _ _ hK=>?_) ?_
     · have e34:_=_:=hval 9 34 kR rfl;replace hS:Grow W2 w5:=⟨hS.os,hS.tape,hS.output,hS.size,hS.block⟩;have c35:w5.cell? ⟨g,0,none⟩=some (.pointer (some ⟨gp,0,none⟩)):=((F.mod.below hS F.mod.lt).cell 0).trans rfl;go_simp;exact hK _ _ bR rfl
     refine sC (fun _ _ _ _ _ _ hval _ _ _ hK=>?_) ?_
     · have e35:_=_:=hval 10 35 kR rfl;go_simp;exact hK _ _ bR rfl
     refine sC (fun _ _ _ _ _ _ hval _ _ _ hK=>?_) ?_
     · have e36:_=_:=hval 11 36 kR rfl;go_simp;exact hK _ _ bR rfl
     refine sC (fun _ w5 hS _ _ _ hval _ _ _ hK=>?_) ?_
     · have e37:_=_:=hval 12 37 kR rfl;replace hS:Grow W2 w5:=⟨hS.os,hS.tape,hS.output,hS.size,hS.block⟩;have c38:w5.cell? ⟨gp,0,none⟩=some (.slice A n c):=((F.pl.below hS F.pl.lt).cell 0).trans rfl;go_simp;exact hK _ _ bR rfl
     refine sC (fun _ _ _ _ _ _ hval _ _ _ hK=>?_) ?_
     · have e38:_=_:=hval 13 38 kR rfl;go_simp;exact hK _ _ bR rfl
     refine sC (fun _ _ _ _ _ _ hval _ _ _ hK=>?_) ?_
     · have e31:_=_:=hval 6 31 kR rfl;have e39:_=_:=hval 14 39 kR rfl;go_simp;exact hK _ _ bR (dD (by rw [IntKind.wrap_i64];omega))
     refine sC (fun _ _ _ _ _ _ hval _ _ _ hK=>?_) ?_
     · have e27:_=_:=hval 2 27 kR rfl;have e40:_=_:=hval 15 40 kR rfl;go_simp;exact hK _ _ bR (iF (by simp <;> omega))
     refine sC (fun _ _ _ _ _ _ hval _ _ _ hK=>?_) ?_
     · have e41:_=_:=hval 16 41 kR rfl;go_simp;exact hK _ _ bR rfl
     exact aC
   · intro ev w6 hS hval;replace hS:Grow W2 w6:=⟨hS.os,hS.tape,hS.output,hS.size,hS.block⟩;have e24:ev (.tmp 24)=.bool false:=hval 17 24 rfl;simp only [aI,zq1,zq2,Act.put,zq3,zq4,zq5];rw [e24];clear hval;have F6:=F.grow hS;clear F hS;revert F6;generalize w6=W3;intro F;go_wp2;refine wp_region_any kR ?_;refine bH [43,44,45,46,47,48,49,50,51] (fun b=>b=gp) 8 [8] (fun w1=>Bk w1 gp 183 #[.slice A n c]) (aD2 gp (w.heap.size+2) N T2) [is g,is g,is g,is gp,is (.pointer (some ⟨w.heap.size,1,none⟩)),is (p:Int),is (.pointer (some ⟨w.heap.size,3,none⟩)),is (.slice AD nd cd),cR] _ _ rfl kR kR (F.pl) (fun w1 w2 h _ hg=>Bk.below h hg h.lt) (wP _ _ _ _) tA0 ?_ ?_
     · refine aM ?_;refine pH3 0 (.pointer (some ⟨g,0,none⟩)) ?_;refine pV3 0 43 ?_;refine pV3 1 44 ?_;refine sC3 (fun _ w5 hS _ _ _ _ hval _ _ _ hK=>?_) ?_
       · replace hS:Keep (fun b=>b=gp) W3 w5:=kD hS;have e45:_=_:=hval 2 45 kR rfl;have c46:w5.cell? ⟨g,0,none⟩=some (.pointer (some ⟨gp,0,none⟩)):=((hS.bk F.mod (fun h=>F.gne h)).cell 0).trans rfl;go_simp;exact kq hK rfl
       refine pH3 3 (.pointer (some ⟨w.heap.size,0,none⟩)) ?_;refine sC3 (fun _ w5 hS _ _ _ _ hval _ _ _ hK=>?_) ?_
       · replace hS:Keep (fun b=>b=gp) W3 w5:=kD hS;have e47:_=_:=hval 4 47 kR rfl;have c48:w5.cell? ⟨w.heap.size,1,none⟩=some (.int .i64 (p:Int)):=((hS.bk F.step (fun h=>absurd (show w.heap.size=gp from h) (by have:=F.gpl;omega))).cell 1).trans rfl;go_simp;exact kq hK rfl
       refine pH3 3 (.pointer (some ⟨w.heap.size,0,none⟩)) ?_;refine sC3 (fun _ w5 hS _ _ _ _ hval _ _ _ hK=>?_) ?_
       · replace hS:Keep (fun b=>b=gp) W3 w5:=kD hS;have e49:_=_:=hval 6 49 kR rfl;have c50:w5.cell? ⟨w.heap.size,3,none⟩=some (.slice AD nd cd):=((hS.bk F.step (fun h=>absurd (show w.heap.size=gp from h) (by have:=F.gpl;omega))).cell 3).trans rfl;go_simp;exact kq hK rfl
       refine sC3 (fun _ w5 hS hU _ _ _ hval _ _ _ hK=>?_) ?_
       · replace hS:Keep (fun b=>b=gp) W3 w5:=kD hS;have hpre:=hU rfl;have e46:_=_:=hval 3 46 kR rfl;have e48:_=_:=hval 5 48 kR rfl;have e50:_=_:=hval 7 50 kR rfl;go_simp;have hr5:=Rd.keepF F.rT hS F.low.size Hne.out;have hd5:=Rd.keepF F.rD hS F.low.size Hdne.out;refine (pY gp A AD n c nd cd p 0 N w5.heap.size T D T2 w5 hpre hr5 Hne.out hnc hd5 nL Hdne.out q hq hqn HT2.out HN.out oM hN2).mono ?_;rintro e w8 ⟨rfl,hk8,A9,c9,hb9,hm9⟩;exact hK _ _ (aW hk8) ⟨rfl,A9,c9,hb9,hm9.mono (by have:=hS.size;have:=F.res.lt;omega)⟩
       exact aC
     · intro ev w6 hS hval hall;replace hS:Keep (fun b=>b=gp) W3 w6:=kD hS;obtain ⟨vJ,pJ⟩:∃v,(aD2 gp (w.heap.size+2) N T2) v w6:=hall 8 dC;simp only [aI,zq1,zq2,Act.put,zq3,zq4,zq5];clear hval hall;obtain ⟨rfl,A9,c9,hb9,hm9⟩:=pJ;have hgs:=F.gpl;have hres:=hS.bk F.res (fun h=>absurd (show w.heap.size+1=gp from h) oM);have r0:w6.cell? ⟨w.heap.size+1,0,none⟩=some (.int .i64 0):=(hres.cell 0).trans rfl;have f0:=hres.frozen 0;have r1:w6.cell? ⟨w.heap.size+1,1,none⟩=some (.int .i64 0):=(hres.cell 1).trans rfl;have f1:=hres.frozen 1;have r2:w6.cell? ⟨w.heap.size+1,2,none⟩=some (.slice none 0 0):=(hres.cell 2).trans rfl;have f2:=hres.frozen 2;have r3:w6.cell? ⟨w.heap.size+1,3,none⟩=some (.slice none 0 0):=(hres.cell 3).trans rfl;have f3:=hres.frozen 3;go_wp2;have hbl:=xO (v0:=.int .i64 0) (v1:=.int .i64 0) (v2:=.slice none 0 0) (v3:=.slice none 0 0) (Nat.le_succ w.heap.size) ((Keep.of_below F.low).trans hS);have hset:=qM (W:=w6) (s:=w.heap.size+1) (v0:=.int .i64 0) (v1:=.int .i64 0) (v2:=.slice none 0 0) (v3:=.slice none 0 0);exact iD (s:=w.heap.size+1) (A1:=none) (c1:=0) (A2:=none) (c2:=0) (.inl rfl) rfl (gZ hres) hbl (bB _ _ _) (bB _ _ _) (xD (hset.bk hb9 (fun h=>absurd (show gp=w.heap.size+1 from h) oM)) (hm9.keepF hset (fun b hb=>by subst hb;omega)) HN.out oM)
theorem aHp (g gp:Nat) (AD:Option Addr) (nd cd B:Nat) (p k:Nat) (most:Int) (T D:List UInt8) (w:World) (hg:Bk w g 185 #[gp,.int .i64 most]) (hp:PlS w gp T)
 (hd:Rd w B 1 AD nd (D.map bv)) (hB:B<=w.heap.size) (hdne:0 < nd->∀a,AD=some a->a.block≠gp) (hgne:g≠gp) (hT:T.length<=549755813888) (hD:nd<=549755813888) (hpb:-9223372036854775808<=(p:Int)/\(p:Int)<=9223372036854775807) (hkb:-9223372036854775808<=(k:Int)/\(k:Int)<=9223372036854775807) (hmb:0<=most/\most<=2147483648)
 (hhas:eD T.length p k=true):
 Calls Tryz.prog 139 #[g,bT 2 p k AD nd cd] w fun e w'=>fY gp (T.take p++([]++T.drop (p+k))) ⟨0,0, [], []⟩ w w' e:=by
 have Hp:=lhd hp;obtain ⟨A,c,hb,hr,hnc,hne⟩:=hp;obtain ⟨n,hn⟩:=eqx T.length;rw [hn] at hb hr hnc hT hne;rw [hn] at hhas;have hDl:D.length=nd:=by simpa using hd.1
 have F:=fR (kind:=2) (p:=p) (k:=k) (cd:=cd) hg hb hr hd hB hgne;obtain ⟨HF,Hn,Hne,Hdne⟩:=hqq4 F hn hne hdne;clear hb hr hd hg F hn hne hdne;obtain ⟨q,hq⟩:=eqx (p+k);rw [hq];obtain ⟨T2,hT2⟩:=eqx (T.take p++([]++T.drop q));rw [hT2];obtain ⟨N,hN⟩:=eqx T2.length;have hqn:q<=n:=by unfold eD at hhas;have:=of_decide_eq_true hhas;omega
 have hN2:N<=1099511627776:=by rw [<-hN,<-hT2];have:=Hn.out;simp only [zAi,zAj,zAw,List.length_nil];omega
 obtain ⟨HT2,HN⟩:=hqq2 hT2 hN;clear hT2 hN;unfold bT;go_enter Tryz.func139,Tryz.ntmps139;go_wp2;obtain ⟨W,hW⟩:=eqx ((w.alloc (.cells #[.int .i64 2,.int .i64 p,.int .i64 k,.slice AD nd cd] 46)).alloc (.cells #[.int .i64 0,.int .i64 0,.slice none 0 0,.slice none 0 0] 50));rw [hW] at HF⊢;have F:=HF.out;clear hW HF;refine wp_region_any kR ?_;refine aO [55,56,57,58,59,60,61,62,63,64] Grow (Vs [is g,is g,is g,is gp,is (.pointer (some ⟨w.heap.size,1,none⟩)),is (.int .i64 p),is (.pointer (some ⟨w.heap.size,2,none⟩)),is (.int .i64 k),is (.bool true),is (.bool false)]) _ _ rfl kR bR (fun _ _=>Grow.trans) (eU tA2) ?_ ?_
 · refine aM ?_;refine sC (fun ev _ _ _ _ hold _ _ _ _ hK=>?_) ?_
   · have e0:ev (.tmp 0)=.pointer (some ⟨g,0,none⟩):=hold 0 kR;go_simp;exact hK _ _ bR rfl
   refine sC (fun _ _ _ _ _ _ hval _ _ _ hK=>?_) ?_
   · have e55:_=_:=hval 0 55 kR rfl;go_simp;exact hK _ _ bR rfl
   refine sC (fun _ _ _ _ _ _ hval _ _ _ hK=>?_) ?_
   · have e56:_=_:=hval 1 56 kR rfl;go_simp;exact hK _ _ bR rfl
   refine sC (fun _ w5 hS _ _ _ hval _ _ _ hK=>?_) ?_
   · have e57:_=_:=hval 2 57 kR rfl;replace hS:Grow W w5:=⟨hS.os,hS.tape,hS.output,hS.size,hS.block⟩;have c58:w5.cell? ⟨g,0,none⟩=some (.pointer (some ⟨gp,0,none⟩)):=((F.mod.below hS F.mod.lt).cell 0).trans rfl;go_simp;exact hK _ _ bR rfl
   refine sC (fun ev _ _ _ _ hold _ _ _ _ hK=>?_) ?_
   · have e3:ev (.tmp 3)=.pointer (some ⟨w.heap.size,0,none⟩):=hold 3 kR;go_simp;exact hK _ _ bR rfl
   refine sC (fun _ w5 hS _ _ _ hval _ _ _ hK=>?_) ?_
   · have e59:_=_:=hval 4 59 kR rfl;replace hS:Grow W w5:=⟨hS.os,hS.tape,hS.output,hS.size,hS.block⟩;have c60:w5.cell? ⟨w.heap.size,1,none⟩=some (.int .i64 p):=((F.step.below hS F.step.lt).cell 1).trans rfl;go_simp;exact hK _ _ bR rfl
   refine sC (fun ev _ _ _ _ hold _ _ _ _ hK=>?_) ?_
   · have e3:ev (.tmp 3)=.pointer (some ⟨w.heap.size,0,none⟩):=hold 3 kR;go_simp;exact hK _ _ bR rfl
   refine sC (fun _ w5 hS _ _ _ hval _ _ _ hK=>?_) ?_
   · have e61:_=_:=hval 6 61 kR rfl;replace hS:Grow W w5:=⟨hS.os,hS.tape,hS.output,hS.size,hS.block⟩;have c62:w5.cell? ⟨w.heap.size,2,none⟩=some (.int .i64 k):=((F.step.below hS F.step.lt).cell 2).trans rfl;go_simp;exact hK _ _ bR rfl
   refine sC (fun _ w5 hS _ _ _ hval _ _ _ hK=>?_) ?_
   · have e58:_=_:=hval 3 58 kR rfl;have e60:_=_:=hval 5 60 kR rfl;have e62:_=_:=hval 7 62 kR rfl;replace hS:Grow W w5:=⟨hS.os,hS.tape,hS.output,hS.size,hS.block⟩;go_simp;refine (jR gp A n c p (k) w5 (((F.pl.below hS F.pl.lt).cell 0).trans rfl) oM hpb hkb).mono ?_;rintro e w8 ⟨rfl,rfl⟩;exact hK _ _ bR (iF hhas)
   refine sC (fun _ _ _ _ _ _ hval _ _ _ hK=>?_) ?_
   · have e63:_=_:=hval 8 63 kR rfl;go_simp;exact hK _ _ bR rfl
   exact aC
 · intro ev w6 hS hval;replace hS:Grow W w6:=⟨hS.os,hS.tape,hS.output,hS.size,hS.block⟩;have e64:ev (.tmp 64)=.bool false:=hval 9 64 rfl;simp only [aI,zq1,zq2,Act.put,zq3,zq4,zq5];rw [e64];clear hval;have F6:=F.grow hS;clear F hS;revert F6;generalize w6=W2;intro F;have c66:W2.cell? ⟨w.heap.size,0,none⟩=some (.int .i64 2):=(F.step.cell 0).trans rfl;go_wp2;refine wp_region_any kR ?_;refine bH [86,87,88,89,90,91,92,93,94] (fun b=>b=gp) 8 [8] (fun w1=>Bk w1 gp 183 #[.slice A n c]) (aD2 gp (w.heap.size+2) N T2) [is g,is g,is g,is gp,is (.pointer (some ⟨w.heap.size,1,none⟩)),is (p:Int),is (.pointer (some ⟨w.heap.size,2,none⟩)),is (k:Int),cR] _ _ rfl kR kR (F.pl) (fun w1 w2 h _ hg=>Bk.below h hg h.lt) (wP _ _ _ _) tA0 ?_ ?_
   · refine aM ?_;refine pH3 0 (.pointer (some ⟨g,0,none⟩)) ?_;refine pV3 0 86 ?_;refine pV3 1 87 ?_;refine sC3 (fun _ w5 hS _ _ _ _ hval _ _ _ hK=>?_) ?_
     · replace hS:Keep (fun b=>b=gp) W2 w5:=kD hS;have e88:_=_:=hval 2 88 kR rfl;have c89:w5.cell? ⟨g,0,none⟩=some (.pointer (some ⟨gp,0,none⟩)):=((hS.bk F.mod (fun h=>F.gne h)).cell 0).trans rfl;go_simp;exact kq hK rfl
     refine pH3 3 (.pointer (some ⟨w.heap.size,0,none⟩)) ?_;refine sC3 (fun _ w5 hS _ _ _ _ hval _ _ _ hK=>?_) ?_
     · replace hS:Keep (fun b=>b=gp) W2 w5:=kD hS;have e90:_=_:=hval 4 90 kR rfl;have c91:w5.cell? ⟨w.heap.size,1,none⟩=some (.int .i64 (p:Int)):=((hS.bk F.step (fun h=>absurd (show w.heap.size=gp from h) (by have:=F.gpl;omega))).cell 1).trans rfl;go_simp;exact kq hK rfl
     refine pH3 3 (.pointer (some ⟨w.heap.size,0,none⟩)) ?_;refine sC3 (fun _ w5 hS _ _ _ _ hval _ _ _ hK=>?_) ?_
     · replace hS:Keep (fun b=>b=gp) W2 w5:=kD hS;have e92:_=_:=hval 6 92 kR rfl;have c93:w5.cell? ⟨w.heap.size,2,none⟩=some (.int .i64 (k:Int)):=((hS.bk F.step (fun h=>absurd (show w.heap.size=gp from h) (by have:=F.gpl;omega))).cell 2).trans rfl;go_simp;exact kq hK rfl
     refine sC3 (fun _ w5 hS hU _ _ _ hval a _ ha hK=>?_) ?_
     · replace hS:Keep (fun b=>b=gp) W2 w5:=kD hS;have hpre:=hU rfl;have e89:_=_:=hval 3 89 kR rfl;have e91:_=_:=hval 5 91 kR rfl;have e93:_=_:=hval 7 93 kR rfl;go_simp;have hr5:=Rd.keepF F.rT hS F.low.size Hne.out;have hd5:=Rd.keepF F.rD hS F.low.size Hdne.out;refine (pY gp A none n c 0 0 p k N w5.heap.size T [] T2 w5 hpre hr5 Hne.out hnc (Rd.nil _ _ _ _) nL (fun _ a ha=>by cases ha) q hq hqn HT2.out HN.out oM hN2).mono ?_;rintro e w8 ⟨rfl,hk8,A9,c9,hb9,hm9⟩;exact hK _ _ (aW hk8) ⟨rfl,A9,c9,hb9,hm9.mono (by have:=hS.size;have:=F.res.lt;omega)⟩
     exact aC
   · intro ev w6 hS hval hall;replace hS:Keep (fun b=>b=gp) W2 w6:=kD hS;obtain ⟨vJ,pJ⟩:∃v,(aD2 gp (w.heap.size+2) N T2) v w6:=hall 8 dC;simp only [aI,zq1,zq2,Act.put,zq3,zq4,zq5];clear hval hall;obtain ⟨rfl,A9,c9,hb9,hm9⟩:=pJ;have hgs:=F.gpl;have hres:=hS.bk F.res (fun h=>absurd (show w.heap.size+1=gp from h) oM);have r0:w6.cell? ⟨w.heap.size+1,0,none⟩=some (.int .i64 0):=(hres.cell 0).trans rfl;have f0:=hres.frozen 0;have r1:w6.cell? ⟨w.heap.size+1,1,none⟩=some (.int .i64 0):=(hres.cell 1).trans rfl;have f1:=hres.frozen 1;have r2:w6.cell? ⟨w.heap.size+1,2,none⟩=some (.slice none 0 0):=(hres.cell 2).trans rfl;have f2:=hres.frozen 2;have r3:w6.cell? ⟨w.heap.size+1,3,none⟩=some (.slice none 0 0):=(hres.cell 3).trans rfl;have f3:=hres.frozen 3;go_wp2;have hbl:=xO (v0:=.int .i64 0) (v1:=.int .i64 0) (v2:=.slice none 0 0) (v3:=.slice none 0 0) (Nat.le_succ w.heap.size) ((Keep.of_below F.low).trans hS);have hset:=qM (W:=w6) (s:=w.heap.size+1) (v0:=.int .i64 0) (v1:=.int .i64 0) (v2:=.slice none 0 0) (v3:=.slice none 0 0);exact iD (s:=w.heap.size+1) (A1:=none) (c1:=0) (A2:=none) (c2:=0) (.inl rfl) rfl (gZ hres) hbl (bB _ _ _) (bB _ _ _) (xD (hset.bk hb9 (fun h=>absurd (show gp=w.heap.size+1 from h) oM)) (hm9.keepF hset (fun b hb=>by subst hb;omega)) HN.out oM)
theorem aHl (g gp:Nat) (AD:Option Addr) (nd cd B:Nat) (p:Nat) (k:Int) (most:Int) (T D:List UInt8) (w:World) (hg:Bk w g 185 #[gp,.int .i64 most]) (hp:PlS w gp T)
 (hd:Rd w B 1 AD nd (D.map bv)) (hB:B<=w.heap.size) (hdne:0 < nd->∀a,AD=some a->a.block≠gp) (hgne:g≠gp) (hT:T.length<=549755813888) (hD:nd<=549755813888) (hpb:-9223372036854775808<=(p:Int)/\(p:Int)<=9223372036854775807) (hkb:-9223372036854775808<=(k:Int)/\(k:Int)<=9223372036854775807) (hmb:0<=most/\most<=2147483648)
 (hhas:eD T.length p nd=true):
 Calls Tryz.prog 139 #[g,bT 3 p k AD nd cd] w fun e w'=>fY gp (T.take p++(D++T.drop (p+nd))) ⟨0,0, [], []⟩ w w' e:=by
 have Hp:=lhd hp;obtain ⟨A,c,hb,hr,hnc,hne⟩:=hp;obtain ⟨n,hn⟩:=eqx T.length;rw [hn] at hb hr hnc hT hne;rw [hn] at hhas;have hDl:D.length=nd:=by simpa using hd.1
 have F:=fR (kind:=3) (p:=p) (k:=k) (cd:=cd) hg hb hr hd hB hgne;obtain ⟨HF,Hn,Hne,Hdne⟩:=hqq4 F hn hne hdne;clear hb hr hd hg F hn hne hdne;obtain ⟨q,hq⟩:=eqx (p+nd);rw [hq];obtain ⟨T2,hT2⟩:=eqx (T.take p++(D++T.drop q));rw [hT2];obtain ⟨N,hN⟩:=eqx T2.length;have hqn:q<=n:=by unfold eD at hhas;have:=of_decide_eq_true hhas;omega
 have hN2:N<=1099511627776:=by rw [<-hN,<-hT2];have:=Hn.out;simp only [zAi,zAj,zAw,List.length_nil];omega
 obtain ⟨HT2,HN⟩:=hqq2 hT2 hN;clear hT2 hN;unfold bT;go_enter Tryz.func139,Tryz.ntmps139;go_wp2;obtain ⟨W,hW⟩:=eqx ((w.alloc (.cells #[.int .i64 3,.int .i64 p,.int .i64 k,.slice AD nd cd] 46)).alloc (.cells #[.int .i64 0,.int .i64 0,.slice none 0 0,.slice none 0 0] 50));rw [hW] at HF⊢;have F:=HF.out;clear hW HF;refine wp_region_any kR ?_;refine aO [97,98,99,100,101,102,103,104,105,106,107] Grow (Vs [is g,is g,is g,is gp,is (.pointer (some ⟨w.heap.size,1,none⟩)),is (.int .i64 p),is (.pointer (some ⟨w.heap.size,3,none⟩)),is (.slice AD nd cd),is (nd:Int),is (.bool true),is (.bool false)]) _ _ rfl kR bR (fun _ _=>Grow.trans) (eU tA2) ?_ ?_
 · refine aM ?_;refine sC (fun ev _ _ _ _ hold _ _ _ _ hK=>?_) ?_
   · have e0:ev (.tmp 0)=.pointer (some ⟨g,0,none⟩):=hold 0 kR;go_simp;exact hK _ _ bR rfl
   refine sC (fun _ _ _ _ _ _ hval _ _ _ hK=>?_) ?_
   · have e97:_=_:=hval 0 97 kR rfl;go_simp;exact hK _ _ bR rfl
   refine sC (fun _ _ _ _ _ _ hval _ _ _ hK=>?_) ?_
   · have e98:_=_:=hval 1 98 kR rfl;go_simp;exact hK _ _ bR rfl
   refine sC (fun _ w5 hS _ _ _ hval _ _ _ hK=>?_) ?_
   · have e99:_=_:=hval 2 99 kR rfl;replace hS:Grow W w5:=⟨hS.os,hS.tape,hS.output,hS.size,hS.block⟩;have c100:w5.cell? ⟨g,0,none⟩=some (.pointer (some ⟨gp,0,none⟩)):=((F.mod.below hS F.mod.lt).cell 0).trans rfl;go_simp;exact hK _ _ bR rfl
   refine sC (fun ev _ _ _ _ hold _ _ _ _ hK=>?_) ?_
   · have e3:ev (.tmp 3)=.pointer (some ⟨w.heap.size,0,none⟩):=hold 3 kR;go_simp;exact hK _ _ bR rfl
   refine sC (fun _ w5 hS _ _ _ hval _ _ _ hK=>?_) ?_
   · have e101:_=_:=hval 4 101 kR rfl;replace hS:Grow W w5:=⟨hS.os,hS.tape,hS.output,hS.size,hS.block⟩;have c102:w5.cell? ⟨w.heap.size,1,none⟩=some (.int .i64 p):=((F.step.below hS F.step.lt).cell 1).trans rfl;go_simp;exact hK _ _ bR rfl
   refine sC (fun ev _ _ _ _ hold _ _ _ _ hK=>?_) ?_
   · have e3:ev (.tmp 3)=.pointer (some ⟨w.heap.size,0,none⟩):=hold 3 kR;go_simp;exact hK _ _ bR rfl
   refine sC (fun _ w5 hS _ _ _ hval _ _ _ hK=>?_) ?_
   · have e103:_=_:=hval 6 103 kR rfl;replace hS:Grow W w5:=⟨hS.os,hS.tape,hS.output,hS.size,hS.block⟩;have c104:w5.cell? ⟨w.heap.size,3,none⟩=some (.slice AD nd cd):=((F.step.below hS F.step.lt).cell 3).trans rfl;go_simp;exact hK _ _ bR rfl
   refine sC (fun _ _ _ _ _ _ hval _ _ _ hK=>?_) ?_
   · have e104:_=_:=hval 7 104 kR rfl;go_simp;exact hK _ _ bR rfl
   refine sC (fun _ w5 hS _ _ _ hval _ _ _ hK=>?_) ?_
   · have e100:_=_:=hval 3 100 kR rfl;have e102:_=_:=hval 5 102 kR rfl;have e105:_=_:=hval 8 105 kR rfl;replace hS:Grow W w5:=⟨hS.os,hS.tape,hS.output,hS.size,hS.block⟩;go_simp;refine (jR gp A n c p (nd) w5 (((F.pl.below hS F.pl.lt).cell 0).trans rfl) oM hpb oM).mono ?_;rintro e w8 ⟨rfl,rfl⟩;exact hK _ _ bR (iF hhas)
   refine sC (fun _ _ _ _ _ _ hval _ _ _ hK=>?_) ?_
   · have e106:_=_:=hval 9 106 kR rfl;go_simp;exact hK _ _ bR rfl
   exact aC
 · intro ev w6 hS hval;replace hS:Grow W w6:=⟨hS.os,hS.tape,hS.output,hS.size,hS.block⟩;have e107:ev (.tmp 107)=.bool false:=hval 10 107 rfl;simp only [aI,zq1,zq2,Act.put,zq3,zq4,zq5];rw [e107];clear hval;have F6:=F.grow hS;clear F hS;revert F6;generalize w6=W2;intro F;go_wp2;refine wp_region_any kR ?_;refine bH [109,110,111,112,113,114,115,116,117,118,119,120] (fun b=>b=gp) 11 [11] (fun w1=>Bk w1 gp 183 #[.slice A n c]) (aD2 gp (w.heap.size+2) N T2) [is g,is g,is g,is gp,is (.pointer (some ⟨w.heap.size,1,none⟩)),is (p:Int),is (.pointer (some ⟨w.heap.size,3,none⟩)),is (.slice AD nd cd),is (nd:Int),is (.pointer (some ⟨w.heap.size,3,none⟩)),is (.slice AD nd cd),cR] _ _ rfl kR kR (F.pl) (fun w1 w2 h _ hg=>Bk.below h hg h.lt) (wP _ _ _ _) tA0 ?_ ?_
   · refine aM ?_;refine pH3 0 (.pointer (some ⟨g,0,none⟩)) ?_;refine pV3 0 109 ?_;refine pV3 1 110 ?_;refine sC3 (fun _ w5 hS _ _ _ _ hval _ _ _ hK=>?_) ?_
     · replace hS:Keep (fun b=>b=gp) W2 w5:=kD hS;have e111:_=_:=hval 2 111 kR rfl;have c112:w5.cell? ⟨g,0,none⟩=some (.pointer (some ⟨gp,0,none⟩)):=((hS.bk F.mod (fun h=>F.gne h)).cell 0).trans rfl;go_simp;exact kq hK rfl
     refine pH3 3 (.pointer (some ⟨w.heap.size,0,none⟩)) ?_;refine sC3 (fun _ w5 hS _ _ _ _ hval _ _ _ hK=>?_) ?_
     · replace hS:Keep (fun b=>b=gp) W2 w5:=kD hS;have e113:_=_:=hval 4 113 kR rfl;have c114:w5.cell? ⟨w.heap.size,1,none⟩=some (.int .i64 (p:Int)):=((hS.bk F.step (fun h=>absurd (show w.heap.size=gp from h) (by have:=F.gpl;omega))).cell 1).trans rfl;go_simp;exact kq hK rfl
     refine pH3 3 (.pointer (some ⟨w.heap.size,0,none⟩)) ?_;refine sC3 (fun _ w5 hS _ _ _ _ hval _ _ _ hK=>?_) ?_
     · replace hS:Keep (fun b=>b=gp) W2 w5:=kD hS;have e115:_=_:=hval 6 115 kR rfl;have c116:w5.cell? ⟨w.heap.size,3,none⟩=some (.slice AD nd cd):=((hS.bk F.step (fun h=>absurd (show w.heap.size=gp from h) (by have:=F.gpl;omega))).cell 3).trans rfl;go_simp;exact kq hK rfl
     refine pV3 7 116 ?_;refine pH3 3 (.pointer (some ⟨w.heap.size,0,none⟩)) ?_;refine sC3 (fun _ w5 hS _ _ _ _ hval _ _ _ hK=>?_) ?_
     · replace hS:Keep (fun b=>b=gp) W2 w5:=kD hS;have e118:_=_:=hval 9 118 kR rfl;have c119:w5.cell? ⟨w.heap.size,3,none⟩=some (.slice AD nd cd):=((hS.bk F.step (fun h=>absurd (show w.heap.size=gp from h) (by have:=F.gpl;omega))).cell 3).trans rfl;go_simp;exact kq hK rfl
     refine sC3 (fun _ w5 hS hU _ _ _ hval _ _ _ hK=>?_) ?_
     · replace hS:Keep (fun b=>b=gp) W2 w5:=kD hS;have hpre:=hU rfl;have e112:_=_:=hval 3 112 kR rfl;have e114:_=_:=hval 5 114 kR rfl;have e117:_=_:=hval 8 117 kR rfl;have e119:_=_:=hval 10 119 kR rfl;go_simp;have hr5:=Rd.keepF F.rT hS F.low.size Hne.out;have hd5:=Rd.keepF F.rD hS F.low.size Hdne.out;refine (pY gp A AD n c nd cd p nd N w5.heap.size T D T2 w5 hpre hr5 Hne.out hnc hd5 nL Hdne.out q hq hqn HT2.out HN.out oM hN2).mono ?_;rintro e w8 ⟨rfl,hk8,A9,c9,hb9,hm9⟩;exact hK _ _ (aW hk8) ⟨rfl,A9,c9,hb9,hm9.mono (by have:=hS.size;have:=F.res.lt;omega)⟩
     exact aC
   · intro ev w6 hS hval hall;replace hS:Keep (fun b=>b=gp) W2 w6:=kD hS;obtain ⟨vJ,pJ⟩:∃v,(aD2 gp (w.heap.size+2) N T2) v w6:=hall 11 dC;simp only [aI,zq1,zq2,Act.put,zq3,zq4,zq5];clear hval hall;obtain ⟨rfl,A9,c9,hb9,hm9⟩:=pJ;have hgs:=F.gpl;have hres:=hS.bk F.res (fun h=>absurd (show w.heap.size+1=gp from h) oM);have r0:w6.cell? ⟨w.heap.size+1,0,none⟩=some (.int .i64 0):=(hres.cell 0).trans rfl;have f0:=hres.frozen 0;have r1:w6.cell? ⟨w.heap.size+1,1,none⟩=some (.int .i64 0):=(hres.cell 1).trans rfl;have f1:=hres.frozen 1;have r2:w6.cell? ⟨w.heap.size+1,2,none⟩=some (.slice none 0 0):=(hres.cell 2).trans rfl;have f2:=hres.frozen 2;have r3:w6.cell? ⟨w.heap.size+1,3,none⟩=some (.slice none 0 0):=(hres.cell 3).trans rfl;have f3:=hres.frozen 3;go_wp2;have hbl:=xO (v0:=.int .i64 0) (v1:=.int .i64 0) (v2:=.slice none 0 0) (v3:=.slice none 0 0) (Nat.le_succ w.heap.size) ((Keep.of_below F.low).trans hS);have hset:=qM (W:=w6) (s:=w.heap.size+1) (v0:=.int .i64 0) (v1:=.int .i64 0) (v2:=.slice none 0 0) (v3:=.slice none 0 0);exact iD (s:=w.heap.size+1) (A1:=none) (c1:=0) (A2:=none) (c2:=0) (.inl rfl) rfl (gZ hres) hbl (bB _ _ _) (bB _ _ _) (xD (hset.bk hb9 (fun h=>absurd (show gp=w.heap.size+1 from h) oM)) (hm9.keepF hset (fun b hb=>by subst hb;omega)) HN.out oM)
structure MS (w0 w:World) (g gp:Nat) (T:List UInt8) (most:Int):Prop where
 low:Below w0.heap.size w0 w
 g0:w0.heap.size<=g
 gp0:w0.heap.size<=gp
 ne:g≠gp
 mod:Bk w g 185 #[gp,.int .i64 most]
 pl:PlS w gp T
section
variable {w0 w w' : World} {g gp : Nat} {T : List UInt8} {most : Int}
theorem MS.grow (M:MS w0 w g gp T most) (h:Below w.heap.size w w'):MS w0 w' g gp T most:=⟨M.low.trans (Below.mono h M.low.size),M.g0,M.gp0,M.ne,M.mod.below h M.mod.lt,M.pl.keep h⟩
theorem MS.alloc (M:MS w0 w g gp T most) (o:Obj):MS w0 (w.alloc o) g gp T most:=M.grow (bR.alloc nL o)
theorem MS.size (M:MS w0 w g gp T most):w0.heap.size<=w.heap.size:=M.low.size
theorem MS.pls (M:MS w0 w g gp T most):∃A c,Bk w gp 183 #[.slice A T.length c]/\Rd w w.heap.size 1 A T.length (T.map bv):=by
 obtain ⟨A,c,h1,h2,_⟩:=M.pl;exact ⟨A,c,h1,h2⟩
theorem PlS.lt (h:PlS w gp T):gp < w.heap.size:=by
 obtain ⟨A,c,h1,_⟩:=h;exact h1.lt
structure Ans (w0 w w':World) (g gp:Nat) (T2:List UInt8) (most:Int) (X:List UInt8) (L:List Nat) (A1:Option Addr) (c1:Nat) (A2:Option Addr) (c2:Nat):Prop where
 ms:MS w0 w' g gp T2 most
 keep:Keep (fun b=>b=gp) w w'
 data:Made w' w.heap.size 5 1 A1 X.length c1 (X.map bv)
 places:Made w' w.heap.size 3 1 A2 L.length c2 (L.map nv)
end
theorem Ans.bk {w0 w w':World} {g gp:Nat} {T2:List UInt8} {most:Int} {X:List UInt8} {L:List Nat} {A1:Option Addr} {c1:Nat} {A2:Option Addr} {c2:Nat} (h:Ans w0 w w' g gp T2 most X L A1 c1 A2 c2) {s:Nat} {t:TypeId} {cs:Array Value} (hb:Bk w s t cs) (hs:gp < s):Bk w' s t cs:=
 h.keep.bk hb fun e=>absurd (show s=gp from e) oM
theorem aHd (k:Nat) (hk:k<=3) (w:World):Calls Tryz.prog 230 #[.int .u64 1,.int .u64 (k:Int)] w fun e w'=>e=.returned (.tuple #[.int .u64 0,.int .u64 (k:Int)])/\w=w':=by
 obtain rfl | rfl | rfl | rfl:k=0∨k=1∨k=2∨k=3:=oM
 all_goals
  go_enter Tryz.func230,Tryz.ntmps230;go_wp2_with fail;go_ret2;exact ⟨rfl,rfl⟩
theorem aKk (k:Nat) (hk:k<=3) (w:World):Calls Tryz.prog 190 #[.int .u64 1,.int .u64 (k:Int)] w fun e w'=>e=.returned (.tuple #[.int .u64 0,.int .u64 (k:Int)])/\w=w':=by
 go_enter Tryz.func190,Tryz.ntmps190;go_wp2_with fail;refine (aHd k hk _).mono ?_;rintro e w1 ⟨rfl,rfl⟩;go_wp2_with fail;go_ret2;exact ⟨rfl,rfl⟩
def DataAt (w:World) (B:Nat) (A:Option Addr) (n c:Nat) (D:List UInt8):Prop:=
 D.length=n/\n<=c/\c<=maxLen/\((A=none/\n=0/\c=0)∨∃g cs,A=some ⟨g,0,none⟩/\B<=g/\Bk w g 5 cs/\n<=cs.size/\cs.toList.take n=D.map bv)
theorem DataAt.rd {w:World} {B:Nat} {A:Option Addr} {n c:Nat} {D:List UInt8} (h:DataAt w B A n c D):Rd w w.heap.size 1 A n (D.map bv):=by
 obtain ⟨h1,h2,h3,⟨rfl,rfl,rfl⟩|⟨g,cs,rfl,hg,hb,hn,ht⟩⟩:=h;obtain rfl:D= []:=zBk h1;exact Rd.nil _ _ _ _
 · refine ⟨by simp [h1],fun _=>⟨g,0,rfl,hb.lt,fun j u hu=>?_⟩⟩;rw [zBi,hb.cell];rw [<-ht,zBs] at hu;split at hu;simpa using hu
   · cases hu
theorem DataAt.of_own {w:World} {B:Nat} {A:Option Addr} {n c:Nat} {D:List UInt8} (h:w.ownsRow B 5 1 (.slice A n c) n (D.map bv)):DataAt w B A n c D:=by
 have hl:D.length=n:=by simpa using h.1
 rcases h.2 with ⟨h1,h2⟩|⟨g,cap,cur,h1,h2,h3,h4,h5,h6,h7⟩;cases h1;exact ⟨hl,zAs _,zAp _,.inl ⟨rfl,rfl,rfl⟩⟩;cases h1;exact ⟨hl,h4,h5,.inr ⟨g,cur,rfl,h2,h3,by omega,by simpa using h7⟩⟩
theorem DataAt.keep {w w':World} {B:Nat} {A:Option Addr} {n c:Nat} {D:List UInt8} (h:DataAt w B A n c D) (k:∀g cs,B<=g->Bk w g 5 cs->Bk w' g 5 cs):DataAt w' B A n c D:=by
 obtain ⟨h1,h2,h3,h4 |⟨g,cs,rfl,hg,hb,hn,ht⟩⟩:=h;exact ⟨h1,h2,h3,.inl h4⟩;exact ⟨h1,h2,h3,.inr ⟨g,cs,rfl,hg,k g cs hg hb,hn,ht⟩⟩
theorem DataAt.below {w w':World} {B:Nat} {A:Option Addr} {n c:Nat} {D:List UInt8} (h:DataAt w B A n c D) (k:Below w.heap.size w w'):DataAt w' B A n c D:=h.keep fun g cs _ hb=>hb.below k hb.lt
theorem DataAt.mono {w:World} {B B':Nat} {A:Option Addr} {n c:Nat} {D:List UInt8} (h:DataAt w B A n c D) (k:B'<=B):DataAt w B' A n c D:=by
 obtain ⟨h1,h2,h3,h4 |⟨g,cs,rfl,hg,hb,hn,ht⟩⟩:=h;exact ⟨h1,h2,h3,.inl h4⟩;exact ⟨h1,h2,h3,.inr ⟨g,cs,rfl,by omega,hb,hn,ht⟩⟩
theorem aKr {w:World} {g i m1 c1 m2 c2 b o:Nat} {cs:Array Value} {u:Value} (ty:TypeId) (hb:Bk w g 5 cs) (hi:i < cs.size) (hu:w.cell? ⟨b,o,none⟩=some u) (h1:u.oneCell'=true) (hm:Nat.min m2 m1=1):
 ∃w' cs',(Builtin.copy_ #[26,26] ty #[.slice (some ⟨g,i,none⟩) m1 c1,.slice (some ⟨b,o,none⟩) m2 c2]).run Tryz.prog w=.ok (.int .i64 1) w'/\Bk w' g 5 cs'/\cs'.size=cs.size/\cs'.toList.take (i+1)=cs.toList.take i++ [u]/\Keep (fun b=>b=g) w w':=by
 have hr:=run_copy_row (P:=Tryz.prog) w 26 26 ty 5 g i m1 c1 ⟨b,o,none⟩ m2 c2 cs 5 [u] Tryz.underlying26 kR hb hm.symm (fun j v hj=>by
  rcases j with _ | j;cases hj;rw [iS,zBq];exact hu
  · cases hj) (by show i+1<=cs.size;omega) (fun v hv=>by rw [List.mem_singleton.1 hv];exact h1)
 refine ⟨_,_,hr,setRow_heap _ _ _ _ _ _ hb,?_,?_,⟨rfl,rfl,rfl,by simp,fun j _ hj=>setRow_other _ _ _ _ hj⟩⟩;simp;omega;simp only [zCo,List.cons_append,List.nil_append,List.singleton_append];have hl:(cs.toList.take i).length=i:=(by simp;omega);rw [List.take_append,hl,zAg oM,show i+1 - i=1 by omega];rfl
def aJG (g k j:Nat) (x:UInt8):Value->World->Prop:=fun v w=>v=.int .i64 1/\∃cs,Bk w g 5 cs/\k<=cs.size/\cs.toList.take j=List.replicate j (bv x)
theorem aH7 (g k j:Nat) (x:UInt8):Stb (aJG g k j x):=fun _ _ _ ⟨h1,cs,h2,h3⟩ hg=>⟨h1,cs,h2.below hg h2.lt,h3⟩
def sO (w:World) (k:Nat) (x:UInt8) (e:Ending) (w':World):Prop:=∃g cs,e=.returned (.slice (some ⟨g,0,none⟩) k k)/\w.heap.size<=g/\Bk w' g 5 cs/\k<=cs.size/\cs.toList.take k=(List.replicate k x).map bv/\Below w.heap.size w w'
theorem aJb (A:Option Addr) (m c:Nat) (x:UInt8) (w:World):Calls Tryz.prog 140 #[.slice A m c,.int .i64 0] w (sO w 0 x):=by
 unfold sO;go_enter Tryz.func140,Tryz.ntmps140;go_wp2_with fail;go_ret;exact ⟨_,#[],rfl,zAs _,Bk.new _ _ _,zAp _,rfl,bR.alloc nL _⟩
theorem aKd (g0 o0 c:Nat) (x:UInt8) (k:Nat) (hk0:0 < k) (hk:k<=3) (w:World) (hc:w.cell? ⟨g0,o0,none⟩=some (bv x)):Calls Tryz.prog 140 #[.slice (some ⟨g0,o0,none⟩) 1 c,(k:Int)] w (sO w k x):=by
 have hmul:=aKk k hk;obtain ⟨cs,hrunM,hle,_⟩:=Lib.run_makeNoZero (P:=Tryz.prog) w #[3] 26 5 Tryz.underlying26 k oM;have hcall:(callFunc 191 #[(k:Int)]).run Tryz.prog w=.ok (.value (.slice (some ⟨w.heap.size,0,none⟩) k cs.size)) ((w.alloc (.cells cs 5)).drewN 2):=by rw [run_callFunc_extern Tryz.func191 kR kR kR (e:=Extern.BytealgMakeNoZero.makeNoZero #[3] #[26]) kR,hrunM];rfl
 clear hrunM;have hlt0:g0 < w.heap.size:=World.block_lt_of_cell? w _ hc;have hb1:Bk ((w.alloc (.cells cs 5)).drewN 2) w.heap.size 5 cs:=(Bk.new w _ _).drewN 2;have hk1:Below w.heap.size w ((w.alloc (.cells cs 5)).drewN 2):=by have h:=(Below.refl w.heap.size w).alloc nL (.cells cs 5);exact ⟨h.os,h.tape,h.output,h.size,h.block⟩
 have hc1:=(hk1.cell hlt0).trans hc;obtain ⟨w2,cs2,hr2,hb2,hs2,ht2,hk2⟩:=aKr (m1:=k) (c1:=k) (m2:=1) (c2:=c) 3 hb1 (show 0 < cs.size by omega) hc1 rfl (by show min 1 k=1;omega);have hbel2:Below w.heap.size w w2:=hk1.trans (hk2.to_below (B:=w.heap.size) (by simp) (fun b hb h=>by omega));obtain ⟨Hb2,Ht2,Hbel2⟩:=hqq3 hb2 ht2 hbel2;have i0:(0:Int)<=(k:Int):=oM;have i1:(k:Int)<=(cs.size:Int):=oM;have i2:¬((k:Int) > 8192):=oM;clear hb1 hk1 hc1 hb2 ht2 hk2 hbel2;unfold sO;go_enter Tryz.func140,Tryz.ntmps140;go_wp2_with fail;refine (hmul _).mono ?_;rintro e w1 ⟨rfl,rfl⟩;go_wp2_with (at_builtin;refine Lib.wpList_copy_run _ rfl _ _ 26 26 rfl _ _ rfl rfl hr2 ?_);go_loopw [10,11] (fun i ch wr=>∃(j:Nat) (cs3:Array Value),1<=j/\j<=k/\i=.int .i64 (j:Int)/\Bk wr w.heap.size 5 cs3/\k<=cs3.size/\cs3.toList.take j=List.replicate j (bv x)/\Below w.heap.size w wr) (fun i _ _=>k -(intOf i).toNat)
 case atStart=>exact ⟨1,cs2,zAs _,hk0,rfl,Hb2.out,by omega,by rw [Ht2.out];rfl,Hbel2.out⟩
 case round=>
  obtain ⟨j,cs3,hj1,hjk,rfl,hb3,hs3,ht3,hbel3⟩:=hrel;obtain ⟨Hb3,Ht3,Hbel3⟩:=hqq3 hb3 ht3 hbel3;clear hb3 ht3 hbel3 Hb2 Ht2 Hbel2;by_cases hlt:j < k
  · go_wp2_with fail;have hmin:min (j:Int) (k:Int)=(j:Int):=oM
    have hsrc:∀W,Bk W w.heap.size 5 cs3->W.cell? ⟨w.heap.size,0,none⟩=some (bv x):=fun W hb=>by
        have h2:(cs3.toList.take j)[0]?=some (bv x):=by
         rw [Ht3.out];cases j with
         | zero=>omega
         | succ j=>rfl
        rw [zBs,zBx oM] at h2;rw [hb.cell];simpa using h2
    rw [hmin];refine wp_region_any kR ?_;refine bH [67,68,69,70,71,72,73,74,75,10] (fun b=>b=w.heap.size) 7 [7] (fun w1=>Bk w1 w.heap.size 5 cs3) (aJG w.heap.size k (j+1) x) [is (j:Int),is (.slice (some ⟨w.heap.size,0,none⟩) k k),is (j:Int),is (.slice (some ⟨w.heap.size,j,none⟩) (k - j) (k - j)),is (.slice (some ⟨w.heap.size,0,none⟩) k k),is (j:Int),is (.slice (some ⟨w.heap.size,0,none⟩) j k),cR,is (.int .i64 ((j+1:Nat):Int)),is (.int .i64 ((j+1:Nat):Int))] _ _ rfl kR kR (Hb3.out) (fun w1 w2 h _ hg=>Bk.below h hg h.lt) (aH7 _ _ _ _) tA0 ?_ ?_
    · refine aM ?_;refine pH3 10 (.int .i64 (j:Int)) ?_;refine pH3 9 (.slice (some ⟨w.heap.size,0,none⟩) k k) ?_;refine pH3 10 (.int .i64 (j:Int)) ?_;refine sC3 (fun _ _ _ _ _ _ _ hval _ _ _ hK=>?_) ?_
      · have e68:_=_:=hval 1 68 kR rfl;have e69:_=_:=hval 2 69 kR rfl;go_simp;exact hK _ _ (aJ bR) (by show _=_;rw [zBw oM])
      refine pH3 9 (.slice (some ⟨w.heap.size,0,none⟩) k k) ?_;refine pH3 11 (.int .i64 (j:Int)) ?_;refine pW3 4 71 5 72 ?_;refine sC3 (fun _ w5 _ hU _ _ _ hval _ _ ha hK=>?_) ?_
      · have hpre:=hU rfl;have e70:_=_:=hval 3 70 kR rfl;have e73:_=_:=hval 6 73 kR rfl;subst ha;obtain ⟨w9,cs9,hr9,hb9,hs9,ht9,hk9⟩:=aKr (m1:=k - j) (c1:=k - j) (m2:=j) (c2:=k) 3 hpre (show j < cs3.size by omega) (hsrc _ hpre) rfl (by show min j (k - j)=1;omega);refine Lib.wp_copy_run w5 (.tmp 70) (.tmp 73) _ _ rfl _ _ e70 e73 hr9 ?_;refine hK _ _ (aW hk9) ⟨rfl,cs9,hb9,by omega,?_⟩;rw [ht9,Ht3.out,List.replicate_succ']
      refine sC3 (fun ev w5 _ _ _ _ _ hval _ _ _ hK=>?_) ?_
      · have e67:_=_:=hval 0 67 kR rfl;have p74:(aJG w.heap.size k (j+1) x) (ev (.tmp 74)) w5:=hval 7 74 kR rfl;have e74:ev (.tmp 74)=.int .i64 1:=p74.1;go_simp;exact hK _ _ (aJ bR) (dD (by rw [IntKind.wrap_i64] <;> omega))
      refine pV3 8 75 ?_;exact aC
    · intro ev w6 hS hval hall;replace hS:Keep (fun b=>b=w.heap.size) wr w6:=kD hS;have e10:ev (.tmp 10)=.int .i64 ((j+1:Nat):Int):=hval 9 10 rfl;obtain ⟨vJ,pJ⟩:∃vJ0,(aJG w.heap.size k (j+1) x) vJ0 w6:=hall 7 dC;simp only [aI,zq1,zq2,Act.put,zq3,zq4,zq5];rw [e10];clear hval hall;obtain ⟨_,cs9,hb9,hs9,ht9⟩:=pJ;have hbel9:Below w.heap.size w w6:=Hbel3.out.trans (hS.to_below Hbel3.out.size (fun b hb h=>by omega));go_wp2;go_roundw
      case rel=>exact ⟨j+1,cs9,by omega,by omega,rfl,hb9,hs9,ht9,hbel9⟩
      case measure=>simp [intOf];omega
  · obtain rfl:j=k:=oM;go_wp2_with fail;go_ret;exact ⟨_,cs3,rfl,zAs _,Hb3.out,hs3,by rw [Ht3.out,List.map_replicate],Hbel3.out⟩
theorem gK (g0 o0 c:Nat) (x:UInt8) (k:Nat) (hk:k<=3) (w:World) (hc:w.cell? ⟨g0,o0,none⟩=some (bv x)):Calls Tryz.prog 140 #[.slice (some ⟨g0,o0,none⟩) 1 c,(k:Int)] w (sO w k x):=by
 rcases zBa k with h | h;subst h;exact aJb _ _ _ _ _;exact aKd g0 o0 c x k h hk w hc
end Go.Proofs.YthldmddkfbijhaaGreatDoor
