/- Lemmas of the walk. Conditions: each its own. -/
import Derived.Test.YthldmddkfbijhaaGreatDoorPsr27
import Derived.Test.YthldmddkfbijhaaGreatDoorPsr30
import Derived.Test.YthldmddkfbijhaaGreatDoorProg
import Derived.Test.YthldmddkfbijhaaGreatDoorSht
import Derived.Test.YthldmddkfbijhaaGreatDoorShl
import Derived.Test.YthldmddkfbijhaaGreatDoorShi
set_option linter.all false
set_option maxRecDepth 100000
set_option maxHeartbeats 1000000
namespace Go.Proofs.YthldmddkfbijhaaGreatDoor
open Go.RowKit
section
variable {w w' : World} {B gs gl most rate : Nat} {own own' : Nat -> Nat} {t : List UInt8}
end
section
variable {B gs : Nat} {w w1 w' : World} {own own1 own' : Nat -> Nat}
theorem LFS.of_lf (gs:Nat) (k:LF B w w' own own'):LFS B gs w w' own own':=⟨fun b hb f=>by rw [<-k.old b hb];exact f,k.vis.mono fun b _ f=>.inl f,k.keep⟩
end
def aFf (w:World) (B:Nat) (own:Nat->Nat) (gs gl most rate:Nat) (T:List UInt8) (e:Ending) (w':World):Prop:=
 e=.returned (.int .i64 0)/\∃own',StAt w' B own' gs gl most rate T/\LFS B gs w w' own own'
theorem StAt.edited {w w':World} {B gs gl most rate:Nat} {own own':Nat->Nat} {t t':List UInt8} (h:StAt w B own gs gl most rate t) (h2:LiveE w' B own' gl t' rate) (k:LF B w w' own own') (h127:t'.length<=127) (hm:t'.length<=most):StAt w' B own' gs gl most rate t'/\LFS B gs w w' own own':=
 ⟨⟨k.vis.bk h.blk dC dC (fun f=>f h.col),h.low,(k.old _ h.blk.lt).trans h.col,h2,h127,hm,h.max,h.r1,h.r2⟩,LFS.of_lf gs k⟩
theorem aAa (B:Nat) (own:Nat->Nat) (gs gl most rate N:Nat) (t D:List UInt8) (p:Nat) (n:Int) (A:Option Addr) (m c:Nat) (w:World) (h:StAt w B own gs gl most rate t) (hN:t.length=N) (hD:ArgZ w B own gs A m D) (hp:p<=N) (hroom:N+m<=most) (h127:N+m<=127):
 Calls Tryz.prog 74 #[gs,.agg #[.int .i64 1,(p:Int),.int .i64 n,.slice A m c]] w (aFf w B own gs gl most rate (vA t p D)):=by
 have hDl:D.length=m:=by simpa using hD.1.1
 have hdw:=EdW.mk' 1 (p:Int) n A m c h;have hD1:=hD.vis hdw.low;have hl1:=LFS.of_below B gs own hdw.low;have hh:=mB B own gs gl most rate N t p 0 _ hdw.st hN;have hhas:eD N (p:Int) 0=true:=zBz oM;rw [hhas] at hh;have c0:=hdw.box.cell 0;have c1:=hdw.box.cell 1;have c2:=hdw.box.cell 2;have c3:=hdw.box.cell 3;have Hnm:=lhd hroom;have hmx:=h.max;have g1:IntKind.i64.wrap ((most:Int) -(N:Int))=(most:Int) -(N:Int):=by rw [IntKind.wrap_i64];omega
 have g2:decide ((m:Int) > (most:Int) -(N:Int))=false:=zBy oM;obtain ⟨Hst,HD,Hl1,Hap,HH,Hbk,HN,HDl,G1⟩:=hqq9 hdw.st hD1 hl1 hdw.ap hh hdw.box hN hDl g1;have G2:=lhd g2;clear h hD hdw hD1 hl1 hh hhas hN hDl hmx g1 g2;go_enter Tryz.func74,Tryz.ntmps74;go_wp2_with fail;refine HH.out.mono ?_;rintro e w1 ⟨rfl,rfl⟩;clear HH;go_wp2_with fail;generalize w.alloc (.cells #[.int .i64 1,(p:Int),.int .i64 n,.slice A m c] 46)=w1 at*
 clear c0 c1 c2 c3;have Hlen:=lhd (fun w5 (k:VB B w1 w5)=>(Hst.out.vb k.1).llen HN.out);refine wp_region_any kR ?_;refine aO [27,28,29,30,31,32,33,34,35,36,37,38,39,40,41,42,43,44,45,26] (VB B) (Vs [is w.heap.size,is (.int .i64 1),is (.bool true),is (.bool true),is (.pointer (some ⟨w.heap.size,3,none⟩)),is (.slice A m c),is (m:Int),is gs,is gs,is (.pointer (some ⟨gs,1,none⟩)),is (most:Int),is gs,is gs,is gs,is gl,is (N:Int),is (.int .i64 ((most:Int) -(N:Int))),is (.bool false),is (.bool false),is (.bool false)]) _ _ rfl kR vR (fun _ _=>VisK.trans) (cL tA1) ?_ ?_
 · refine aM ?_;refine pH 3 (.pointer (some ⟨w.heap.size,0,none⟩)) ?_;refine sC (fun _ w5 hS _ _ _ hval _ _ _ hK=>?_) ?_
   · have e27:_=_:=hval 0 27 kR rfl;replace hS:(VB B) w1 w5:=bD hS;have hbx5:=hS.1.bk Hbk.out dC dC;have c9:=hbx5.cell 0;go_simp;exact hK _ _ vR rfl
   refine pV 1 28 ?_;refine pV 2 29 ?_;refine sG 30 true (fun ev _ _ _ _ hold _ _ _ _ hK=>?_) ?_
   · have e3:ev (.tmp 3)=.pointer (some ⟨w.heap.size,0,none⟩):=hold 3 kR;go_simp;exact hK _ _ vR rfl
   refine sG 30 true (fun _ w5 hS _ _ _ hval _ _ _ hK=>?_) ?_
   · have e31:_=_:=hval 4 31 kR rfl;replace hS:(VB B) w1 w5:=bD hS;have hbx5:=hS.1.bk Hbk.out dC dC;have c9:=hbx5.cell 3;go_simp;exact hK _ _ vR rfl
   refine sG 30 true (fun _ _ _ _ _ _ hval _ _ _ hK=>?_) ?_
   · have e32:_=_:=hval 5 32 kR rfl;go_simp;exact hK _ _ vR rfl
   refine sG 30 true (fun ev _ _ _ _ hold _ _ _ _ hK=>?_) ?_
   · have e0:ev (.tmp 0)=.pointer (some ⟨gs,0,none⟩):=hold 0 kR;go_simp;exact hK _ _ vR rfl
   refine sG 30 true (fun _ _ _ _ _ _ hval _ _ _ hK=>?_) ?_
   · have e34:_=_:=hval 7 34 kR rfl;go_simp;exact hK _ _ vR rfl
   refine sG 30 true (fun _ _ _ _ _ _ hval _ _ _ hK=>?_) ?_
   · have e35:_=_:=hval 8 35 kR rfl;go_simp;exact hK _ _ vR rfl
   refine sG 30 true (fun _ w5 hS _ _ _ hval _ _ _ hK=>?_) ?_
   · have e36:_=_:=hval 9 36 kR rfl;replace hS:(VB B) w1 w5:=bD hS;have hbs5:=hS.1.bk Hst.out.blk dC dC;have c9:=hbs5.cell 1;go_simp;exact hK _ _ vR rfl
   refine sG 30 true (fun ev _ _ _ _ hold _ _ _ _ hK=>?_) ?_
   · have e0:ev (.tmp 0)=.pointer (some ⟨gs,0,none⟩):=hold 0 kR;go_simp;exact hK _ _ vR rfl
   refine sG 30 true (fun _ _ _ _ _ _ hval _ _ _ hK=>?_) ?_
   · have e38:_=_:=hval 11 38 kR rfl;go_simp;exact hK _ _ vR rfl
   refine sG 30 true (fun _ _ _ _ _ _ hval _ _ _ hK=>?_) ?_
   · have e39:_=_:=hval 12 39 kR rfl;go_simp;exact hK _ _ vR rfl
   refine sG 30 true (fun _ w5 hS _ _ _ hval _ _ _ hK=>?_) ?_
   · have e40:_=_:=hval 13 40 kR rfl;replace hS:(VB B) w1 w5:=bD hS;have hbs5:=hS.1.bk Hst.out.blk dC dC;have c9:=hbs5.cell 0;go_simp;exact hK _ _ vR rfl
   refine sG 30 true (fun _ w5 hS _ _ _ hval _ _ _ hK=>?_) ?_
   · have e41:_=_:=hval 14 41 kR rfl;replace hS:(VB B) w1 w5:=bD hS;go_simp;refine (Hlen.out w5 hS).mono ?_;rintro e w8 ⟨rfl,rfl⟩;exact hK _ _ vR rfl
   refine sG 30 true (fun _ _ _ _ _ _ hval _ _ _ hK=>?_) ?_
   · have e37:_=_:=hval 10 37 kR rfl;have e42:_=_:=hval 15 42 kR rfl;go_simp;exact hK _ _ vR (by first | rfl | exact congrArg (Value.int .i64) G1.out)
   refine sG 30 true (fun _ _ _ _ _ _ hval _ _ _ hK=>?_) ?_
   · have e33:_=_:=hval 6 33 kR rfl;have e43:_=_:=hval 16 43 kR rfl;go_simp;exact hK _ _ vR (by first | rfl | exact congrArg Value.bool G2.out)
   refine pW 3 30 17 44 ?_;refine pV 18 45 ?_;exact aC
 · intro ev w6 hS hval;replace hS:(VB B) w1 w6:=bD hS;have e26:ev (.tmp 26)=.bool false:=hval 19 26 rfl;simp only [aI,zq1,zq2,Act.put,zq3,zq4,zq5];rw [e26];clear hval;have hst6:=Hst.out.vb hS.1;have hlf6:=LFS.of_vb gs own hS;have hbk6:=hS.1.bk Hbk.out dC dC;have c0:=hbk6.cell 0;have c3:=hbk6.cell 3;obtain ⟨Hst6,Hlf6,HD6,Hbk6⟩:=hqq4 hst6 (Hl1.out.trans hlf6) (HD.out.step hlf6) hbk6;clear hst6 hlf6 hbk6 hS Hlen e26;go_wp2_with fail;clear c0 c3;go_loopw [6,7,65] (fun _ _ i wr=>∃(j:Nat) (own':Nat->Nat),j<=m/\i=.int .i64 (j:Int)/\StAt wr B own' gs gl most rate (vA t p (D.take j))/\LFS B gs w6 wr own own') (fun _ _ i _=>m -(intOf i).toNat)
   case atStart=>exact ⟨0,own,by omega,rfl,by rw [List.take_zero,aIx];exact Hst6.out,LFS.refl _ _ _ _⟩
   case round=>
    obtain ⟨j,own',hj,rfl,hst,hlf⟩:=hrel;have hpt:p<=t.length:=(by rw [HN.out];exact hp);by_cases hlt:j < m
    · obtain ⟨b,hbj⟩:∃b,D[j]?=some b:=⟨_,zAa (by rw [HDl.out];exact hlt)⟩;have hjD:j < D.length:=(by rw [HDl.out];exact hlt);have htk:(D.take j).length=j:=(by rw [zAj];omega);have hlen:(vA t p (D.take j)).length=N+j:=(by rw [xJ t _ hpt,htk,HN.out]);have hins:=fun w5 (k:VB B wr w5)=>aDC w5 B own' gl (vA t p (D.take j)) rate (p+j) b (hst.vb k.1).live (by rw [hlen];omega) (by rw [hlen];omega) hst.r1 hst.r2;have hmi:=aIy t (D.take j) b hpt;rw [htk] at hmi;have htk1:D.take (j+1)=D.take j++ [b]:=(by rw [zAv,hbj];rfl);unfold aB2 at hins;rw [hmi,<-htk1] at hins;obtain ⟨bA,off,rfl,hbA,hcell⟩:=((HD6.out.step hlf).1).2 oM;have d1:wr.cell? ⟨bA,off+j,none⟩=some (.int .u8 (b.toNat:Int)):=hcell j _ (by rw [zAf,hbj];rfl);have hbk2:=hlf.bk Hbk6.out Hap.out.col Hap.out.ne dC dC;have Hbk2:=lhd hbk2;have c0:=hbk2.cell 0;have e1:IntKind.i64.wrap ((p:Int)+(j:Int))=((p+j:Nat):Int):=(by rw [IntKind.wrap_i64];omega);have hl2:(vA t p (D.take (j+1))).length=N+(j+1):=(by rw [xJ t _ hpt,zAj,HN.out];omega);obtain ⟨Hst,Hlf,Hins,Hl2,E1⟩:=hqq5 hst hlf hins hl2 e1;clear e1 hst hlf hins hmi htk1 hlen htk hbj hjD hcell hbk2 hl2 hpt;go_wp2_with fail;refine wp_region_any kR ?_;refine bZ B 9 [83,84,85,86,87,88,89,90,91] (fun _=>False) 3 [] (fun _=>True) (fun v _=>v=.pointer (some ⟨gl,0,none⟩)) [is gs,is gs,is gs,cR,is (.pointer (some ⟨w.heap.size,1,none⟩)),is (p:Int),is (j:Int),is (.int .i64 ((p+j:Nat):Int)),is (.int .u8 (b.toNat:Int))] _ _ rfl dC kR kR kR (trivial) (fun _ _ _ _ _=>trivial) (fun _ _ _ h _=>h) tA1 ?_ ?_
      · refine bM ?_;refine pH3 0 (.pointer (some ⟨gs,0,none⟩)) ?_;refine pV3 0 83 ?_;refine pV3 1 84 ?_;refine sC3 (fun _ w5 hS _ _ _ _ hval _ _ _ hK=>?_) ?_
        · replace hS:VFB B (fun _=>False) wr w5:=fD hS;have e85:_=_:=hval 2 85 kR rfl;have hv5:=hS.to_vb (fun _ _ f=>f);have hbs5:=hv5.1.bk Hst.out.blk dC dC;have c9:=hbs5.cell 0;go_simp;exact hK _ _ (kB (VFB.of_vb vR)) rfl
        refine pH3 3 (.pointer (some ⟨w.heap.size,0,none⟩)) ?_;refine sC3 (fun _ w5 hS _ _ _ _ hval _ _ _ hK=>?_) ?_
        · replace hS:VFB B (fun _=>False) wr w5:=fD hS;have e87:_=_:=hval 4 87 kR rfl;have hv5:=hS.to_vb (fun _ _ f=>f);have hbx5:=hv5.1.bk Hbk2.out dC dC;have c9:=hbx5.cell 1;go_simp;exact hK _ _ (aK vR) rfl
        refine pH3 6 (.int .i64 (j:Int)) ?_;refine sC3 (fun _ _ _ _ _ _ _ hval _ _ _ hK=>?_) ?_
        · have e88:_=_:=hval 5 88 kR rfl;have e89:_=_:=hval 6 89 kR rfl;go_simp;exact hK _ _ (aK vR) (by first | rfl | exact congrArg (Value.int .i64) E1.out)
        refine pH3 7 (.int .u8 (b.toNat:Int)) ?_;exact aC
      · intro ev w6 f hS hval hall;replace hS:VFB B (fun _=>False) wr w6:=fD hS;have p86:(fun v _=>v=.pointer (some ⟨gl,0,none⟩)) (ev (.tmp 86)) w6:=hval 3 86 dC rfl;have e90:ev (.tmp 90)=.int .i64 ((p+j:Nat):Int):=hval 7 90 dC rfl;have e91:ev (.tmp 91)=.int .u8 (b.toNat:Int):=hval 8 91 dC rfl;obtain ⟨vJ,pJ0⟩:=hall 3 dC;have pJ:(fun v _=>v=.pointer (some ⟨gl,0,none⟩)) vJ w6:=pJ0;clear pJ0 hall;simp only [aI,zq1,zq2,Act.put,zq3,zq4,zq5];rw [e90];rw [e91];clear hval;have hv6:=hS.to_vb (fun _ _ f=>f);rw [show ev (.tmp 86)=_ from p86];clear pJ hS p86;change wpAny Tryz.prog Region.Mode.any _ _ (1+f) (bV 9 10) _ w6;rw [zCs 1 f];refine aQ (f:=f) (i:=9) kR ?_;refine bW rfl rfl ?_;generalize hK:wpAny Tryz.prog _ _ _ f _=K5;go_simp;refine (Hins.out w6 hv6).mono ?_;rintro e w7 ⟨rfl,own5,hle5,hlf5⟩;subst hK;refine bK kR ?_;have hed:=(Hst.out.vb hv6.1).edited hle5 hlf5 (by rw [Hl2.out];omega) (by rw [Hl2.out];have:=Hnm.out;omega);obtain ⟨Hst5,Hlf5⟩:=hqq2 hed.1 (Hlf.out.trans ((LFS.of_vb gs own' hv6).trans hed.2));clear hed hle5 hlf5 hv6 Hst Hlf Hins;go_wp2_with fail;go_roundw
        case rel=>exact ⟨j+1,own5,by omega,by go_num,Hst5.out,Hlf5.out⟩
        case measure=>simp [intOf];omega
    · obtain rfl:j=m:=oM;rw [zAg (by rw [HDl.out];exact zAs _)] at hst;obtain ⟨Hst5,Hlf5⟩:=hqq2 hst (Hlf6.out.trans hlf);clear hst hlf;go_wp2_with fail;go_ret;exact ⟨rfl,own',Hst5.out,Hlf5.out⟩
theorem yW (B:Nat) (own:Nat->Nat) (gs gl most rate N:Nat) (t:List UInt8) (p:Nat) (n:Int) (A:Option Addr) (m c:Nat) (w:World) (h:StAt w B own gs gl most rate t) (hN:t.length=N) (hp:p<=N) (hroom:most < N+m):
 Calls Tryz.prog 74 #[gs,.agg #[.int .i64 1,(p:Int),.int .i64 n,.slice A m c]] w fun e w'=>e=.returned (.int .i64 3)/\VB B w w':=by
 have hdw:=EdW.mk' 1 (p:Int) n A m c h;have hh:=mB B own gs gl most rate N t p 0 _ hdw.st hN;have hhas:eD N (p:Int) 0=true:=zBz oM;rw [hhas] at hh;have c0:=hdw.box.cell 0;have c1:=hdw.box.cell 1;have c2:=hdw.box.cell 2;have c3:=hdw.box.cell 3;have hmx:=h.max;have hnm:N<=most:=by have:=h.len;omega
 have g1:IntKind.i64.wrap ((most:Int) -(N:Int))=(most:Int) -(N:Int):=by rw [IntKind.wrap_i64];omega
 have g2:decide ((m:Int) > (most:Int) -(N:Int))=true:=zBz oM;obtain ⟨Hst,Hlow,HH,Hbk,HN,G1,G2⟩:=hqq7 hdw.st hdw.low hh hdw.box hN g1 g2;clear h hdw hh hhas hN hmx g1 g2 hnm hroom;go_enter Tryz.func74,Tryz.ntmps74;go_wp2_with fail;refine HH.out.mono ?_;rintro e w1 ⟨rfl,rfl⟩;clear HH;go_wp2_with fail;generalize w.alloc (.cells #[.int .i64 1,(p:Int),.int .i64 n,.slice A m c] 46)=w1 at*
 clear c0 c1 c2 c3;have Hlen:=lhd (fun w5 (k:VB B w1 w5)=>(Hst.out.vb k.1).llen HN.out);refine wp_region_any kR ?_;refine aO [27,28,29,30,31,32,33,34,35,36,37,38,39,40,41,42,43,44,45,26] (VB B) (Vs [is w.heap.size,is (.int .i64 1),is (.bool true),is (.bool true),is (.pointer (some ⟨w.heap.size,3,none⟩)),is (.slice A m c),is (m:Int),is gs,is gs,is (.pointer (some ⟨gs,1,none⟩)),is (most:Int),is gs,is gs,is gs,is gl,is (N:Int),is (.int .i64 ((most:Int) -(N:Int))),is (.bool true),is (.bool true),is (.bool true)]) _ _ rfl kR vR (fun _ _=>VisK.trans) (cL tA1) ?_ ?_
 · refine aM ?_;refine pH 3 (.pointer (some ⟨w.heap.size,0,none⟩)) ?_;refine sC (fun _ w5 hS _ _ _ hval _ _ _ hK=>?_) ?_
   · have e27:_=_:=hval 0 27 kR rfl;replace hS:(VB B) w1 w5:=bD hS;have hbx5:=hS.1.bk Hbk.out dC dC;have c9:=hbx5.cell 0;go_simp;exact hK _ _ vR rfl
   refine pV 1 28 ?_;refine pV 2 29 ?_;refine sG 30 true (fun ev _ _ _ _ hold _ _ _ _ hK=>?_) ?_
   · have e3:ev (.tmp 3)=.pointer (some ⟨w.heap.size,0,none⟩):=hold 3 kR;go_simp;exact hK _ _ vR rfl
   refine sG 30 true (fun _ w5 hS _ _ _ hval _ _ _ hK=>?_) ?_
   · have e31:_=_:=hval 4 31 kR rfl;replace hS:(VB B) w1 w5:=bD hS;have hbx5:=hS.1.bk Hbk.out dC dC;have c9:=hbx5.cell 3;go_simp;exact hK _ _ vR rfl
   refine sG 30 true (fun _ _ _ _ _ _ hval _ _ _ hK=>?_) ?_
   · have e32:_=_:=hval 5 32 kR rfl;go_simp;exact hK _ _ vR rfl
   refine sG 30 true (fun ev _ _ _ _ hold _ _ _ _ hK=>?_) ?_
   · have e0:ev (.tmp 0)=.pointer (some ⟨gs,0,none⟩):=hold 0 kR;go_simp;exact hK _ _ vR rfl
   refine sG 30 true (fun _ _ _ _ _ _ hval _ _ _ hK=>?_) ?_
   · have e34:_=_:=hval 7 34 kR rfl;go_simp;exact hK _ _ vR rfl
   refine sG 30 true (fun _ _ _ _ _ _ hval _ _ _ hK=>?_) ?_
   · have e35:_=_:=hval 8 35 kR rfl;go_simp;exact hK _ _ vR rfl
   refine sG 30 true (fun _ w5 hS _ _ _ hval _ _ _ hK=>?_) ?_
   · have e36:_=_:=hval 9 36 kR rfl;replace hS:(VB B) w1 w5:=bD hS;have hbs5:=hS.1.bk Hst.out.blk dC dC;have c9:=hbs5.cell 1;go_simp;exact hK _ _ vR rfl
   refine sG 30 true (fun ev _ _ _ _ hold _ _ _ _ hK=>?_) ?_
   · have e0:ev (.tmp 0)=.pointer (some ⟨gs,0,none⟩):=hold 0 kR;go_simp;exact hK _ _ vR rfl
   refine sG 30 true (fun _ _ _ _ _ _ hval _ _ _ hK=>?_) ?_
   · have e38:_=_:=hval 11 38 kR rfl;go_simp;exact hK _ _ vR rfl
   refine sG 30 true (fun _ _ _ _ _ _ hval _ _ _ hK=>?_) ?_
   · have e39:_=_:=hval 12 39 kR rfl;go_simp;exact hK _ _ vR rfl
   refine sG 30 true (fun _ w5 hS _ _ _ hval _ _ _ hK=>?_) ?_
   · have e40:_=_:=hval 13 40 kR rfl;replace hS:(VB B) w1 w5:=bD hS;have hbs5:=hS.1.bk Hst.out.blk dC dC;have c9:=hbs5.cell 0;go_simp;exact hK _ _ vR rfl
   refine sG 30 true (fun _ w5 hS _ _ _ hval _ _ _ hK=>?_) ?_
   · have e41:_=_:=hval 14 41 kR rfl;replace hS:(VB B) w1 w5:=bD hS;go_simp;refine (Hlen.out w5 hS).mono ?_;rintro e w8 ⟨rfl,rfl⟩;exact hK _ _ vR rfl
   refine sG 30 true (fun _ _ _ _ _ _ hval _ _ _ hK=>?_) ?_
   · have e37:_=_:=hval 10 37 kR rfl;have e42:_=_:=hval 15 42 kR rfl;go_simp;exact hK _ _ vR (by first | rfl | exact congrArg (Value.int .i64) G1.out)
   refine sG 30 true (fun _ _ _ _ _ _ hval _ _ _ hK=>?_) ?_
   · have e33:_=_:=hval 6 33 kR rfl;have e43:_=_:=hval 16 43 kR rfl;go_simp;exact hK _ _ vR (by first | rfl | exact congrArg Value.bool G2.out)
   refine pW 3 30 17 44 ?_;refine pV 18 45 ?_;exact aC
 · intro ev w6 hS hval;replace hS:(VB B) w1 w6:=bD hS;have e26:ev (.tmp 26)=.bool true:=hval 19 26 rfl;simp only [aI,zq1,zq2,Act.put,zq3,zq4,zq5];rw [e26];clear hval;clear e26;have Hb6:=lhd (VisK.trans (VisK.of_below Hlow.out) hS);clear hS;go_wp2_with fail;go_ret;exact ⟨rfl,Hb6.out⟩
theorem aAb (B:Nat) (own:Nat->Nat) (gs gl most rate N:Nat) (t:List UInt8) (p k:Nat) (A:Option Addr) (m c:Nat) (w:World) (h:StAt w B own gs gl most rate t) (hT:TabW w) (hB0:1 < B) (hN:t.length=N) (hpk:p+k<=N):
 Calls Tryz.prog 74 #[gs,.agg #[.int .i64 2,(p:Int),(k:Int),.slice A m c]] w (aFf w B own gs gl most rate (t.take p++t.drop (p+k))):=by
 have hdw:=EdW.mk' 2 (p:Int) (k:Int) A m c h;have hl1:=LFS.of_below B gs own hdw.low;have hh:=mB B own gs gl most rate N t p k _ hdw.st hN;have hhas:eD N (p:Int) (k:Int)=true:=zBz oM;rw [hhas] at hh;have c0:=hdw.box.cell 0;have c1:=hdw.box.cell 1;have c2:=hdw.box.cell 2;have c3:=hdw.box.cell 3;have hn127:=h.n127;have hnm:=h.len;rw [hN] at hn127 hnm;have hT1:=hT.below hdw.low hT.pos;obtain ⟨Hst,Hl1,Hap,HH,Hbk,HN,HT,Hnm⟩:=hqq8 hdw.st hl1 hdw.ap hh hdw.box hN hT1 hnm;clear h hdw hl1 hh hhas hN hT hT1 hnm;go_enter Tryz.func74,Tryz.ntmps74;go_wp2_with fail;refine HH.out.mono ?_;rintro e w1 ⟨rfl,rfl⟩;clear HH;go_wp2_with fail;generalize w.alloc (.cells #[.int .i64 2,(p:Int),(k:Int),.slice A m c] 46)=w1 at*
 clear c0 c1 c2 c3;refine wp_region_any kR ?_;refine aO [27,28,29,30,31,32,33,34,35,36,37,38,39,40,41,42,43,44,45,26] (VB B) (Vs [is w.heap.size,is (.int .i64 2),is (.bool false),is (.bool false),is undef,is undef,is undef,is undef,is undef,is undef,is undef,is undef,is undef,is undef,is undef,is undef,is undef,is undef,is (.bool false),is (.bool false)]) _ _ rfl kR vR (fun _ _=>VisK.trans) (cL tA1) ?_ ?_
 · refine aM ?_;refine pH 3 (.pointer (some ⟨w.heap.size,0,none⟩)) ?_;refine sC (fun _ w5 hS _ _ _ hval _ _ _ hK=>?_) ?_
   · have e27:_=_:=hval 0 27 kR rfl;replace hS:(VB B) w1 w5:=bD hS;have hbx5:=hS.1.bk Hbk.out dC dC;have c9:=hbx5.cell 0;go_simp;exact hK _ _ vR rfl
   refine pV 1 28 ?_;refine pV 2 29 ?_;refine aD ?_ ?_;exact sK 30 false fun _=>vR;refine aD ?_ ?_;exact sK 30 false fun _=>vR;refine aD ?_ ?_;exact sK 30 false fun _=>vR;refine aD ?_ ?_;exact sK 30 false fun _=>vR;refine aD ?_ ?_;exact sK 30 false fun _=>vR;refine aD ?_ ?_;exact sK 30 false fun _=>vR;refine aD ?_ ?_;exact sK 30 false fun _=>vR;refine aD ?_ ?_;exact sK 30 false fun _=>vR;refine aD ?_ ?_;exact sK 30 false fun _=>vR;refine aD ?_ ?_;exact sK 30 false fun _=>vR;refine aD ?_ ?_;exact sK 30 false fun _=>vR;refine aD ?_ ?_;exact sK 30 false fun _=>vR;refine aD ?_ ?_;exact sK 30 false fun _=>vR;refine aD ?_ ?_;exact sK 30 false fun _=>vR;refine pW 3 30 17 44 ?_;refine pV 18 45 ?_;exact aC
 · intro ev w6 hS hval;replace hS:(VB B) w1 w6:=bD hS;have e26:ev (.tmp 26)=.bool false:=hval 19 26 rfl;simp only [aI,zq1,zq2,Act.put,zq3,zq4,zq5];rw [e26];clear hval;have hst6:=Hst.out.vb hS.1;have hlf6:=LFS.of_vb gs own hS;have hbk6:=hS.1.bk Hbk.out dC dC;have c0:=hbk6.cell 0;have c2:=hbk6.cell 2;obtain ⟨Hst6,Hlf6,HT6,Hbk6⟩:=hqq4 hst6 (Hl1.out.trans hlf6) (HT.out.vb hS hB0 HT.out.pos) hbk6;clear hst6 hlf6 hbk6 hS e26;go_wp2_with fail;clear c0 c2;go_loopw [52] (fun i wr=>∃(j:Nat) (own':Nat->Nat),j<=k/\i=.int .i64 (j:Int)/\StAt wr B own' gs gl most rate (t.take p++t.drop (p+j))/\LFS B gs w6 wr own own') (fun i _=>k -(intOf i).toNat)
   case atStart=>exact ⟨0,own,by omega,rfl,by rw [zBq,zAu];exact Hst6.out,LFS.refl _ _ _ _⟩
   case round=>
    obtain ⟨j,own',hj,rfl,hst,hlf⟩:=hrel;by_cases hlt:j < k
    · have hpj:p+j < t.length:=(by rw [HN.out];omega);have hlen:=aFI t (p:=p) (j:=j) oM;have hlen2:=aFI t (p:=p) (j:=j+1) oM;rw [HN.out] at hlen hlen2;have hdel:=fun w5 (k:VB B wr w5)=>aDD w5 B own' gl (t.take p++t.drop (p+j)) rate p (hst.vb k.1).live ((HT6.out.below (hlf.below Hst6.out.size) hB0).vb k hB0 (by have:=hst.size;omega)) hB0 (by rw [hlen];omega) (by rw [hlen];omega) hst.r1 hst.r2;unfold aB2 at hdel;rw [aIQ t hpj] at hdel;have hbk2:=hlf.bk Hbk6.out Hap.out.col Hap.out.ne dC dC;obtain ⟨Hbk2,Hst,Hlf,Hdel,Hl2⟩:=hqq5 hbk2 hst hlf hdel hlen2;clear hst hlf hdel hlen hlen2 hbk2 hpj;go_wp2_with fail;refine wp_region_any kR ?_;refine bZ B 6 [54,55,56,57,58,59] (fun _=>False) 3 [] (fun _=>True) (fun v _=>v=.pointer (some ⟨gl,0,none⟩)) [is gs,is gs,is gs,cR,is (.pointer (some ⟨w.heap.size,1,none⟩)),is (p:Int)] _ _ rfl dC kR kR kR (trivial) (fun _ _ _ _ _=>trivial) (fun _ _ _ h _=>h) tA1 ?_ ?_
      · refine bM ?_;refine pH3 0 (.pointer (some ⟨gs,0,none⟩)) ?_;refine pV3 0 54 ?_;refine pV3 1 55 ?_;refine sC3 (fun _ w5 hS _ _ _ _ hval _ _ _ hK=>?_) ?_
        · replace hS:VFB B (fun _=>False) wr w5:=fD hS;have e56:_=_:=hval 2 56 kR rfl;have hv5:=hS.to_vb (fun _ _ f=>f);have hbs5:=hv5.1.bk Hst.out.blk dC dC;have c9:=hbs5.cell 0;go_simp;exact hK _ _ (kB (VFB.of_vb vR)) rfl
        refine pH3 3 (.pointer (some ⟨w.heap.size,0,none⟩)) ?_;refine sC3 (fun _ w5 hS _ _ _ _ hval _ _ _ hK=>?_) ?_
        · replace hS:VFB B (fun _=>False) wr w5:=fD hS;have e58:_=_:=hval 4 58 kR rfl;have hv5:=hS.to_vb (fun _ _ f=>f);have hbx5:=hv5.1.bk Hbk2.out dC dC;have c9:=hbx5.cell 1;go_simp;exact hK _ _ (aK vR) rfl
        exact aC
      · intro ev w6 f hS hval hall;replace hS:VFB B (fun _=>False) wr w6:=fD hS;have p57:(fun v _=>v=.pointer (some ⟨gl,0,none⟩)) (ev (.tmp 57)) w6:=hval 3 57 dC rfl;have e59:ev (.tmp 59)=.int .i64 (p:Int):=hval 5 59 dC rfl;obtain ⟨vJ,pJ0⟩:=hall 3 dC;have pJ:(fun v _=>v=.pointer (some ⟨gl,0,none⟩)) vJ w6:=pJ0;clear pJ0 hall;simp only [aI,zq1,zq2,Act.put,zq3,zq4,zq5];rw [e59];clear hval;have hv6:=hS.to_vb (fun _ _ f=>f);rw [show ev (.tmp 57)=_ from p57];clear pJ hS p57;change wpAny Tryz.prog Region.Mode.any _ _ (1+f) (bV 6 7) _ w6;rw [zCs 1 f];refine aQ (f:=f) (i:=6) kR ?_;refine bW rfl rfl ?_;generalize hK:wpAny Tryz.prog _ _ _ f _=K5;go_simp;refine (Hdel.out w6 hv6).mono ?_;rintro e w7 ⟨rfl,own5,hle5,hlf5⟩;subst hK;refine bK kR ?_;have hed:=(Hst.out.vb hv6.1).edited hle5 hlf5 (by rw [Hl2.out];omega) (by rw [Hl2.out];have:=Hnm.out;omega);obtain ⟨Hst5,Hlf5⟩:=hqq2 hed.1 (Hlf.out.trans ((LFS.of_vb gs own' hv6).trans hed.2));clear hed hle5 hlf5 hv6 Hst Hlf Hdel;go_wp2_with fail;go_roundw
        case rel=>exact ⟨j+1,own5,by omega,by go_num,Hst5.out,Hlf5.out⟩
        case measure=>simp [intOf];omega
    · obtain rfl:j=k:=oM;obtain ⟨Hst5,Hlf5⟩:=hqq2 hst (Hlf6.out.trans hlf);clear hst hlf;go_wp2_with fail;go_ret;exact ⟨rfl,own',Hst5.out,Hlf5.out⟩
theorem zZ (B:Nat) (own:Nat->Nat) (gs gl most rate N:Nat) (t D:List UInt8) (p:Nat) (n:Int) (A:Option Addr) (m c:Nat) (w:World) (h:StAt w B own gs gl most rate t) (hT:TabW w) (hB0:1 < B) (hN:t.length=N) (hD:ArgZ w B own gs A m D) (hpm:p+m<=N):
 Calls Tryz.prog 74 #[gs,.agg #[.int .i64 3,(p:Int),.int .i64 n,.slice A m c]] w (aFf w B own gs gl most rate (t.take p++(D++t.drop (p+D.length)))):=by
 have hDl:D.length=m:=by simpa using hD.1.1
 rw [hDl];have hdw:=EdW.mk' 3 (p:Int) n A m c h;have hD1:=hD.vis hdw.low;have hl1:=LFS.of_below B gs own hdw.low;have hh:=mB B own gs gl most rate N t p m _ hdw.st hN;have hhas:eD N (p:Int) (m:Int)=true:=zBz oM;rw [hhas] at hh;have c0:=hdw.box.cell 0;have c1:=hdw.box.cell 1;have c2:=hdw.box.cell 2;have c3:=hdw.box.cell 3;have hn127:=h.n127;have hnm:=h.len;rw [hN] at hn127 hnm;have hT1:=hT.below hdw.low hT.pos;obtain ⟨Hst,HD,Hl1,Hap,HH,Hbk,HN,HDl,HT⟩:=hqq9 hdw.st hD1 hl1 hdw.ap hh hdw.box hN hDl hT1;have Hnm:=lhd hnm;clear h hD hdw hD1 hl1 hh hhas hN hDl hT hT1 hnm;go_enter Tryz.func74,Tryz.ntmps74;go_wp2_with fail;refine HH.out.mono ?_;rintro e w1 ⟨rfl,rfl⟩;clear HH;go_wp2_with fail;generalize w.alloc (.cells #[.int .i64 3,(p:Int),.int .i64 n,.slice A m c] 46)=w1 at*
 clear c0 c1 c2 c3;refine wp_region_any kR ?_;refine aO [27,28,29,30,31,32,33,34,35,36,37,38,39,40,41,42,43,44,45,26] (VB B) (Vs [is w.heap.size,is (.int .i64 3),is (.bool false),is (.bool false),is undef,is undef,is undef,is undef,is undef,is undef,is undef,is undef,is undef,is undef,is undef,is undef,is undef,is undef,is (.bool false),is (.bool false)]) _ _ rfl kR vR (fun _ _=>VisK.trans) (cL tA1) ?_ ?_
 · refine aM ?_;refine pH 3 (.pointer (some ⟨w.heap.size,0,none⟩)) ?_;refine sC (fun _ w5 hS _ _ _ hval _ _ _ hK=>?_) ?_
   · have e27:_=_:=hval 0 27 kR rfl;replace hS:(VB B) w1 w5:=bD hS;have hbx5:=hS.1.bk Hbk.out dC dC;have c9:=hbx5.cell 0;go_simp;exact hK _ _ vR rfl
   refine pV 1 28 ?_;refine pV 2 29 ?_;refine aD ?_ ?_;exact sK 30 false fun _=>vR;refine aD ?_ ?_;exact sK 30 false fun _=>vR;refine aD ?_ ?_;exact sK 30 false fun _=>vR;refine aD ?_ ?_;exact sK 30 false fun _=>vR;refine aD ?_ ?_;exact sK 30 false fun _=>vR;refine aD ?_ ?_;exact sK 30 false fun _=>vR;refine aD ?_ ?_;exact sK 30 false fun _=>vR;refine aD ?_ ?_;exact sK 30 false fun _=>vR;refine aD ?_ ?_;exact sK 30 false fun _=>vR;refine aD ?_ ?_;exact sK 30 false fun _=>vR;refine aD ?_ ?_;exact sK 30 false fun _=>vR;refine aD ?_ ?_;exact sK 30 false fun _=>vR;refine aD ?_ ?_;exact sK 30 false fun _=>vR;refine aD ?_ ?_;exact sK 30 false fun _=>vR;refine pW 3 30 17 44 ?_;refine pV 18 45 ?_;exact aC
 · intro ev w6 hS hval;replace hS:(VB B) w1 w6:=bD hS;have e26:ev (.tmp 26)=.bool false:=hval 19 26 rfl;simp only [aI,zq1,zq2,Act.put,zq3,zq4,zq5];rw [e26];clear hval;have hst6:=Hst.out.vb hS.1;have hlf6:=LFS.of_vb gs own hS;have hbk6:=hS.1.bk Hbk.out dC dC;have c0:=hbk6.cell 0;have c3:=hbk6.cell 3;obtain ⟨Hst6,Hlf6,HD6,HT6,Hbk6⟩:=hqq5 hst6 (Hl1.out.trans hlf6) (HD.out.step hlf6) (HT.out.vb hS hB0 HT.out.pos) hbk6;clear hst6 hlf6 hbk6 hS e26;go_wp2_with fail;clear c0 c3;go_loopw [6,7,65] (fun _ _ i wr=>∃(j:Nat) (own':Nat->Nat),j<=m/\i=.int .i64 (j:Int)/\StAt wr B own' gs gl most rate (t.take p++(D.take j++t.drop (p+j)))/\LFS B gs w6 wr own own') (fun _ _ i _=>m -(intOf i).toNat)
   case atStart=>exact ⟨0,own,by omega,rfl,by rw [List.take_zero,List.nil_append,zBq,zAu];exact Hst6.out,LFS.refl _ _ _ _⟩
   case round=>
    obtain ⟨j,own',hj,rfl,hst,hlf⟩:=hrel;by_cases hlt:j < m
    · obtain ⟨b,hbj⟩:∃b,D[j]?=some b:=⟨_,zAa (by rw [HDl.out];exact hlt)⟩;have hpj:p+j < t.length:=(by rw [HN.out];omega);have hlen:=aFo t D (p:=p) (j:=j) (by rw [HDl.out];omega) oM;have hlen2:=aFo t D (p:=p) (j:=j+1) (by rw [HDl.out];omega) oM;rw [HN.out] at hlen hlen2;have hset:=fun w5 (k:VB B wr w5)=>aJf w5 B own' gl (t.take p++(D.take j++t.drop (p+j))) rate (p+j) b (hst.vb k.1).live ((HT6.out.below (hlf.below Hst6.out.size) hB0).vb k hB0 (by have:=hst.size;omega)) hB0 (by rw [hlen];omega) (by rw [hlen];omega) hst.r1 hst.r2;unfold aB2 at hset;rw [aHT t D hbj hpj] at hset;obtain ⟨bA,off,rfl,hbA,hcell⟩:=((HD6.out.step hlf).1).2 oM;have d1:wr.cell? ⟨bA,off+j,none⟩=some (.int .u8 (b.toNat:Int)):=hcell j _ (by rw [zAf,hbj];rfl);have hbk2:=hlf.bk Hbk6.out Hap.out.col Hap.out.ne dC dC;have Hbk2:=lhd hbk2;have c0:=hbk2.cell 0;have e1:IntKind.i64.wrap ((p:Int)+(j:Int))=((p+j:Nat):Int):=(by rw [IntKind.wrap_i64];omega);obtain ⟨Hst,Hlf,Hset,Hl2,E1⟩:=hqq5 hst hlf hset hlen2 e1;clear e1 hst hlf hset hlen hlen2 hbj hcell hbk2 hpj;go_wp2_with fail;refine wp_region_any kR ?_;refine bZ B 9 [73,74,75,76,77,78,79,80,81] (fun _=>False) 3 [] (fun _=>True) (fun v _=>v=.pointer (some ⟨gl,0,none⟩)) [is gs,is gs,is gs,cR,is (.pointer (some ⟨w.heap.size,1,none⟩)),is (p:Int),is (j:Int),is (.int .i64 ((p+j:Nat):Int)),is (.int .u8 (b.toNat:Int))] _ _ rfl dC kR kR kR (trivial) (fun _ _ _ _ _=>trivial) (fun _ _ _ h _=>h) tA1 ?_ ?_
      · refine bM ?_;refine pH3 0 (.pointer (some ⟨gs,0,none⟩)) ?_;refine pV3 0 73 ?_;refine pV3 1 74 ?_;refine sC3 (fun _ w5 hS _ _ _ _ hval _ _ _ hK=>?_) ?_
        · replace hS:VFB B (fun _=>False) wr w5:=fD hS;have e75:_=_:=hval 2 75 kR rfl;have hv5:=hS.to_vb (fun _ _ f=>f);have hbs5:=hv5.1.bk Hst.out.blk dC dC;have c9:=hbs5.cell 0;go_simp;exact hK _ _ (kB (VFB.of_vb vR)) rfl
        refine pH3 3 (.pointer (some ⟨w.heap.size,0,none⟩)) ?_;refine sC3 (fun _ w5 hS _ _ _ _ hval _ _ _ hK=>?_) ?_
        · replace hS:VFB B (fun _=>False) wr w5:=fD hS;have e77:_=_:=hval 4 77 kR rfl;have hv5:=hS.to_vb (fun _ _ f=>f);have hbx5:=hv5.1.bk Hbk2.out dC dC;have c9:=hbx5.cell 1;go_simp;exact hK _ _ (aK vR) rfl
        refine pH3 6 (.int .i64 (j:Int)) ?_;refine sC3 (fun _ _ _ _ _ _ _ hval _ _ _ hK=>?_) ?_
        · have e78:_=_:=hval 5 78 kR rfl;have e79:_=_:=hval 6 79 kR rfl;go_simp;exact hK _ _ (aK vR) (by first | rfl | exact congrArg (Value.int .i64) E1.out)
        refine pH3 7 (.int .u8 (b.toNat:Int)) ?_;exact aC
      · intro ev w6 f hS hval hall;replace hS:VFB B (fun _=>False) wr w6:=fD hS;have p76:(fun v _=>v=.pointer (some ⟨gl,0,none⟩)) (ev (.tmp 76)) w6:=hval 3 76 dC rfl;have e80:ev (.tmp 80)=.int .i64 ((p+j:Nat):Int):=hval 7 80 dC rfl;have e81:ev (.tmp 81)=.int .u8 (b.toNat:Int):=hval 8 81 dC rfl;obtain ⟨vJ,pJ0⟩:=hall 3 dC;have pJ:(fun v _=>v=.pointer (some ⟨gl,0,none⟩)) vJ w6:=pJ0;clear pJ0 hall;simp only [aI,zq1,zq2,Act.put,zq3,zq4,zq5];rw [e80];rw [e81];clear hval;have hv6:=hS.to_vb (fun _ _ f=>f);rw [show ev (.tmp 76)=_ from p76];clear pJ hS p76;change wpAny Tryz.prog Region.Mode.any _ _ (1+f) (bV 9 10) _ w6;rw [zCs 1 f];refine aQ (f:=f) (i:=9) kR ?_;refine bW rfl rfl ?_;generalize hK:wpAny Tryz.prog _ _ _ f _=K5;go_simp;refine (Hset.out w6 hv6).mono ?_;rintro e w7 ⟨rfl,own5,hle5,hlf5⟩;subst hK;refine bK kR ?_;have hed:=(Hst.out.vb hv6.1).edited hle5 hlf5 (by rw [Hl2.out];omega) (by rw [Hl2.out];have:=Hnm.out;omega);obtain ⟨Hst5,Hlf5⟩:=hqq2 hed.1 (Hlf.out.trans ((LFS.of_vb gs own' hv6).trans hed.2));clear hed hle5 hlf5 hv6 Hst Hlf Hset;go_wp2_with fail;go_roundw
        case rel=>exact ⟨j+1,own5,by omega,by go_num,Hst5.out,Hlf5.out⟩
        case measure=>simp [intOf];omega
    · obtain rfl:j=m:=oM;have htk:D.take j=D:=zAg (by rw [HDl.out];exact zAs _);rw [htk] at hst;clear htk;obtain ⟨Hst5,Hlf5⟩:=hqq2 hst (Hlf6.out.trans hlf);clear hst hlf;go_wp2_with fail;go_ret;exact ⟨rfl,own',Hst5.out,Hlf5.out⟩
end Go.Proofs.YthldmddkfbijhaaGreatDoor
