/- Parts of the walk, joined from several texts. Conditions: what each lemma says. -/
import Derived.Test.YtnhmjomhloainaaGreatDoorPq8
import Derived.BigQuiet
set_option linter.all false
set_option maxRecDepth 100000
set_option maxHeartbeats 4000000
namespace Go.Proofs.YtnhmjomhloainaaGreatDoor
open Go.RowKit
def aDm (gb:Nat) (cs:Array Value):Value->World->Prop:=fun _ w=>Bk w gb 254 cs
theorem vK (gb:Nat) (cs:Array Value):Stb (aDm gb cs):=fun _ _ _ h hg=>Bk.below h hg (Bk.lt h)
def mI (n:Int) (u0 u1:Nat):Array Value:=#[.int .i64 n,.int .u64 (u0:Int),.int .u64 (u1:Int)]
theorem vM (n:Int) (u0 u1 i:Nat) (hi:i < 2):(mI n u0 u1)[1+i]?=some (.int .u64 (((if i=0 then u0 else u1):Nat):Int)):=by
 obtain rfl | rfl:i=0∨i=1:=oM;rfl;rfl
theorem vL (n:Int) (u0 u1 y i:Nat) (hi:i < 2):(mI n u0 u1).setIfInBounds (1+i) (.int .u64 (y:Int))=mI n (if i=0 then y else u0) (if i=0 then u1 else y):=by
 obtain rfl | rfl:i=0∨i=1:=oM;rfl;rfl
theorem zA {w:World} {gb:Nat} {n:Int} {u0 u1:Nat} (h:Bk w gb 254 (mI n u0 u1)) (m:Int):Bk (w.setCell ⟨gb,0,none⟩ (.int .i64 m)) gb 254 (mI m u0 u1):=h.set 0 _
structure InsI (l l':List Bool) (k:Nat) (b:Bool) (i a:Nat) (bb:Bool) (u0 u1:Nat):Prop where
 at0:i=0->k < 64/\a=k/\bb=b/\u0=w0 l/\u1=w1 l
 at1:i=1->a < 64/\u0=w0 l'/\pL u1 a bb=w1 l'/\u1 < 18446744073709551616
 at2:i=2->u0=w0 l'/\u1=w1 l'
 le:i<=2
theorem tE (gb:Nat) (l:List Bool) (k:Nat) (b:Bool) (w:World) (hb:Bk w gb 254 (gK l)) (hl:l.length<=127) (hk:k<=l.length):
 Calls Tryz.prog 273 #[.pointer (some ⟨gb,0,none⟩),.int .i64 (k:Int),.bool b] w fun e w'=>e=.returned (.int .i64 0)/\Bk w' gb 254 (gK (aQ l k b))/\Keep (fun b=>b=gb) w w':=by
 obtain ⟨n,hn⟩:=eqx l.length;have hl':(aQ l k b).length=n+1:=by rw [eQ _ _ hk,hn]
 have hb3:Bk w gb 254 (mI (n:Int) (w0 l) (w1 l)):=by rw [<-hn];exact hb
 have hfin:∀W,Bk W gb 254 (mI ((n+1:Nat):Int) (w0 (aQ l k b)) (w1 (aQ l k b)))->Bk W gb 254 (gK (aQ l k b)):=fun W h=>by unfold gK;rw [hl'];exact h
 have h0l:=lS l;have h1l:=lO l oM;have hstart:∃i0 a0:Nat,(k:Int)/ 64=(i0:Int)/\(k:Int)% 64=(a0:Int)/\InsI l (aQ l k b) k b i0 a0 b (w0 l) (w1 l):=by by_cases c:k < 64;exact ⟨0,k,by omega,by omega,fun _=>⟨c,rfl,rfl,rfl,rfl⟩,fun e=>by omega,fun e=>by omega,by omega⟩;obtain ⟨e0,e1⟩:=aIl l k b hk oM oM;exact ⟨1,k - 64,by omega,by omega,fun e=>by omega,fun _=>⟨by omega,e0.symm,e1.symm,h1l⟩,fun e=>by omega,by omega⟩
 have hstep:∀i a bb u0 u1,i < 2->InsI l (aQ l k b) k b i a bb u0 u1->a < 64/\(if i=0 then u0 else u1) < 18446744073709551616/\InsI l (aQ l k b) k b (i+1) 0 ((if i=0 then u0 else u1).testBit 63) (if i=0 then pL u0 a bb else u0) (if i=0 then u1 else pL u1 a bb):=by intro i a bb u0 u1 hi h;obtain rfl | rfl:i=0∨i=1:=oM;obtain ⟨c1,rfl,rfl,rfl,rfl⟩:=h.at0 rfl;obtain ⟨e0,e1⟩:=aIk l a bb hk oM c1;have hb63:(w0 l).testBit 63=l.getD 63 false:=(by rw [iM];simp);simp only [if_true,hb63];exact ⟨c1,h0l,fun e=>by omega,fun _=>⟨by omega,e0.symm,e1.symm,h1l⟩,fun e=>by omega,by omega⟩;obtain ⟨c1,c2,c3,c4⟩:=h.at1 rfl;simp only [show ¬((1:Nat)=0) by omega,if_false];exact ⟨c1,c4,fun e=>by omega,fun e=>by omega,fun _=>⟨c2,c3⟩,by omega⟩
 obtain ⟨i0,a0,hi0,ha0,hI0⟩:=hstart;have hkn:¬((k:Int) > (n:Int)):=oM;have hk0:decide ((k:Int) < 0)=false:=by simp
 have hn0:((n:Int)==128)=false:=by rw [zCb];omega
 have c0:w.cell? ⟨gb,0,none⟩=some (.int .i64 (n:Int)):=(hb3.cell 0).trans rfl;have hgb:=hb3.lt;have hn127:n<=127:=oM;obtain ⟨Hb3,Hfin,Hstep,HI0⟩:=hqq4 hb3 hfin hstep hI0;clear hb hb3 hfin h0l h1l hstep hI0 hl' hn hl hk;go_enter Tryz.func273,Tryz.ntmps273;go_wp2_with fail;clear c0 hk0 hkn;go_loopw [2,7,8] (fun x y z wr=>∃(i a:Nat) (bb:Bool) (u0 u1:Nat),x=.bool bb/\y=.int .i64 (a:Int)/\z=.int .i64 (i:Int)/\InsI l (aQ l k b) k b i a bb u0 u1/\Bk wr gb 254 (mI (n:Int) u0 u1)/\Keep (fun b=>b=gb) w wr) (fun _ _ z _=>2 -(intOf z).toNat)
 case atStart=>exact ⟨i0,a0,b,_,_,rfl,rfl,rfl,HI0.out,Hb3.out,Keep.refl _ _⟩
 case round=>
  obtain ⟨i,pa,bb,u0,u1,rfl,rfl,rfl,hI,hbk,hkp⟩:=hrel;by_cases hi2:i < 2
  · obtain ⟨hp64,hx64,hI'⟩:=Hstep.out i pa bb u0 u1 hi2 hI;have hci:=vM (n:Int) u0 u1 i hi2;have hset:=fun y=>vL (n:Int) u0 u1 y i hi2;obtain ⟨x,hx⟩:∃x,(if i=0 then u0 else u1)=x:=⟨_,rfl⟩;obtain ⟨y,hy⟩:=eqx (pL x pa bb);obtain ⟨cs,hcs⟩:=eqx (mI (n:Int) u0 u1)
    have hI2:InsI l (aQ l k b) k b (i+1) 0 (x.testBit 63) (if i=0 then y else u0) (if i=0 then u1 else y):=by
        have h1:(if i=0 then pL u0 pa bb else u0)=if i=0 then y else u0:=by
         split
         · rw [<-hy,<-hx,zBx (by assumption)]
         rfl
        have h2:(if i=0 then u1 else pL u1 pa bb)=if i=0 then u1 else y:=by
         split;rfl
         · rw [<-hy,<-hx,zBw (by assumption)]
        rw [hx,h1,h2] at hI';exact hI'
    rw [hx] at hci hx64;rw [hcs] at hci hset hbk;have hiI:(i:Int) < 2:=oM;obtain ⟨Hci,Hset,Hcs,Hy,HI2,Hkp⟩:=hqq6 hci hset hbk hy hI2 hkp;clear hI hI' hbk hkp hci hset hx hy hcs hI2;go_wp2_with fail;refine wp_region_any kR ?_;refine cB [38,39,40,41,42,43,44,45,46,47,48,37,49,50,51,52,53,2] (fun b=>b=gb) 17 [7,17] (fun w1=>Bk w1 gb 254 cs) (aDm gb (cs.setIfInBounds (1+i) (.int .u64 (y:Int)))) [is (.pointer (some ⟨gb,0,none⟩)),is (.int .i64 (i:Int)),is (.pointer (some ⟨gb,0,none⟩)),is (.int .i64 (i:Int)),is (.pointer (some ⟨gb,0,none⟩)),is (.pointer (some ⟨gb,1,none⟩)),is (.pointer (some ⟨gb,1+i,none⟩)),is (.int .u64 (x:Int)),is (.int .i64 (pa:Int)),is (.bool bb),is (.tuple #[.int .u64 (y:Int),.bool (x.testBit 63)]),is (.tuple #[.int .u64 (y:Int),.bool (x.testBit 63)]),is (.int .u64 (y:Int)),is (.bool (x.testBit 63)),is (.pointer (some ⟨gb,0,none⟩)),is (.pointer (some ⟨gb,1,none⟩)),is (.pointer (some ⟨gb,1+i,none⟩)),dJ,is (.bool (x.testBit 63))] _ _ rfl kR kR (Hcs.out) (fun w1 w2 h _ hg=>Bk.below h hg h.lt) (vK _ _) (by repeat' (first | exact cL _ _ | exact bV _ |(refine zAe.2 ⟨?_,?_⟩)|(intro p hp;cases hp))) ?_ ?_
    · refine aT ?_;refine pH3 0 (.pointer (some ⟨gb,0,none⟩)) ?_;refine pH3 8 (.int .i64 (i:Int)) ?_;refine pH3 0 (.pointer (some ⟨gb,0,none⟩)) ?_;refine pH3 8 (.int .i64 (i:Int)) ?_;refine pV3 2 40 ?_;refine pV3 4 42 ?_;refine pW3 5 43 3 41 ?_;refine sC3 (fun _ w5 _ hU _ _ _ hval _ _ _ hK=>?_) ?_
      · have hpre:=hU rfl;have e44:_=_:=hval 6 44 kR rfl;have c0:w5.cell? ⟨gb,1+i,none⟩=some (.int .u64 (x:Int)):=(hpre.cell (1+i)).trans Hci.out;go_simp;exact kq hK rfl
      refine pH3 7 (.int .i64 (pa:Int)) ?_;refine pH3 2 (.bool bb) ?_;refine sC3 (fun _ w5 _ _ _ _ _ hval _ _ _ hK=>?_) ?_
      · have e45:_=_:=hval 7 45 kR rfl;have e46:_=_:=hval 8 46 kR rfl;have e47:_=_:=hval 9 47 kR rfl;go_simp;refine (aG7 x pa bb hx64 hp64 w5).mono ?_;rintro e w8 ⟨rfl,rfl⟩;rw [Hy.out];exact kq hK rfl
      refine pV3 10 48 ?_;refine pV3 11 37 ?_;refine pV3 11 37 ?_;refine pV3 0 38 ?_;refine pV3 14 51 ?_;refine pW3 15 52 1 39 ?_;refine sC3 (fun _ w5 _ hU _ _ _ hval _ _ _ hK=>?_) ?_
      · have hpre:=hU rfl;have e53:_=_:=hval 16 53 kR rfl;have e49:_=_:=hval 12 49 kR rfl;have c0:w5.cell? ⟨gb,1+i,none⟩=some (.int .u64 (x:Int)):=(hpre.cell (1+i)).trans Hci.out;have f0:=hpre.frozen (1+i);go_simp;exact hK (.bool true) _ (bG (Keep.setCell (F:=fun b=>b=gb) (Keep.refl _ _) (p:=⟨gb,1+i,none⟩) (.inl rfl) _)) (hpre.set (1+i) _)
      refine pV3 13 50 ?_;exact aG
    · intro ev w6 hS hval hall;replace hS:Keep (fun b=>b=gb) wr w6:=kD hS;have e2:ev (.tmp 2)=.bool (x.testBit 63):=hval 18 2 rfl;obtain ⟨vJ,pJ⟩:∃vJ0,(aDm gb (cs.setIfInBounds (1+i) (.int .u64 (y:Int)))) vJ0 w6:=hall 17 dC;simp only [aO,zq1,zq2,Act.put,zq3,zq4,zq5];rw [e2];clear hval hall;have hbk2:Bk w6 gb 254 _:=pJ;rw [Hset.out] at hbk2;have hkp2:=Hkp.out.trans hS;obtain ⟨Hbk2,Hkp2⟩:=hqq2 hbk2 hkp2;clear hbk2 hkp2 pJ hS;go_wp2_with fail;go_roundw
      case rel=>exact ⟨i+1,0,_,_,_,rfl,rfl,by go_num,HI2.out,Hbk2.out,Hkp2.out⟩
      case measure=>simp [intOf];omega
  · obtain rfl:i=2:=(by have:=hI.le;omega);obtain ⟨rfl,rfl⟩:=hI.at2 rfl;have c0:wr.cell? ⟨gb,0,none⟩=some (.int .i64 (n:Int)):=(hbk.cell 0).trans rfl;have f0:=hbk.frozen 0;have hgw:=hbk.lt;obtain ⟨Hbk,Hkp⟩:=hqq2 hbk hkp;clear hbk hkp hI;have e1:IntKind.i64.wrap ((n:Int)+1)=((n+1:Nat):Int):=(by rw [IntKind.wrap_i64];omega);go_wp2_with fail;go_ret;exact ⟨rfl,Hfin.out _ (zA Hbk.out _),Keep.setCell (F:=fun b=>b=gb) Hkp.out (p:=⟨gb,0,none⟩) (.inl rfl) _⟩
theorem tF (gb:Nat) (l:List Bool) (k:Nat) (w:World) (hb:Bk w gb 254 (gK l)) (hl:l.length<=128) (hk:k < l.length):
 Calls Tryz.prog 286 #[.pointer (some ⟨gb,0,none⟩),.int .i64 (k:Int)] w fun e w'=>e=.returned (.tuple #[.bool (l.getD k false),.int .i64 0])/\Bk w' gb 254 (gK (aI l k))/\Keep (fun b=>b=gb) w w':=by
 have hhas:=qV gb l k w hb hk;obtain ⟨n,hn⟩:=eqx l.length;have hl':(aI l k).length+1=n:=by rw [dA _ hk,hn]
 have hb3:Bk w gb 254 (mI (n:Int) (w0 l) (w1 l)):=by rw [<-hn];exact hb
 have hfin:∀W,Bk W gb 254 (mI ((n:Int) - 1) (w0 (aI l k)) (w1 (aI l k)))->Bk W gb 254 (gK (aI l k)):=fun W h=>by unfold gK;rw [show (((aI l k).length:Nat):Int)=(n:Int) - 1 by omega];exact h
 have h0l:=lS l;have h1l:=lO l hl;obtain ⟨i0,a0,hi0,ha0,hi2,ha64,hke⟩:∃i0 a0:Nat,(k:Int)/ 64=(i0:Int)/\(k:Int)% 64=(a0:Int)/\i0 < 2/\a0 < 64/\k=64*i0+a0:=⟨k / 64,k % 64,by omega,by omega,by omega,by omega,by omega⟩;have hlo:i0=0->w0 (aI l k)=mG (w0 l) a0 ((w1 l).testBit 0)/\w1 (aI l k)=mG (w1 l) 0 false/\(w0 l).testBit a0=l.getD k false:=fun e=>by have e2:k=a0:=oM;have h1:=aIx l k hk hl oM;rw [gC,zBq,<-e2];refine ⟨h1.1,h1.2,?_⟩;rw [iM,zBz oM,Bool.true_and]
 have hhi:i0=1->w0 (aI l k)=w0 l/\w1 (aI l k)=mG (w1 l) a0 false/\(w1 l).testBit a0=l.getD k false:=fun e=>by have e2:k - 64=a0:=oM;have h1:=cut_hi l k hk hl oM;rw [e2] at h1;refine ⟨h1.1,h1.2,?_⟩;rw [gC];congr 1;omega
 have hgb:=hb3.lt;have hn128:n<=128:=oM;have hc1:0 < mG 0 0 true:=dC;obtain ⟨Hb3,Hfin,Hlo,Hhi,H0l,H1l⟩:=hqq6 hb3 hfin hlo hhi h0l h1l;clear hb hb3 hfin h0l h1l hlo hhi hl' hn hl hk hc1 hke;go_enter Tryz.func286,Tryz.ntmps286;go_wp2_with fail;refine hhas.mono ?_;rintro e wz ⟨rfl,hbw⟩;have hb1:=Hb3.out.below hbw hgb;have hkp1:Keep (fun b=>b=gb) w wz:=Keep.of_below hbw;obtain ⟨Hb1,Hkp1⟩:=hqq2 hb1 hkp1;clear hhas hbw hb1 hkp1 Hb3;go_wp2_with fail;go_loopw [7,8] (fun x z wr=>∃(i u1:Nat) (bb:Bool),x=.bool bb/\z=.int .i64 (i:Int)/\i0<=i/\i < 2/\(i=1->bb=false/\u1=w1 l)/\(i=0->bb=(w1 l).testBit 0/\u1=mG (w1 l) 0 false)/\Bk wr gb 254 (mI (n:Int) (w0 l) u1)/\Keep (fun b=>b=gb) w wr) (fun _ z _=>(intOf z).toNat)
 case atStart=>exact ⟨1,w1 l,false,rfl,rfl,by omega,by omega,fun _=>⟨rfl,rfl⟩,fun e=>by omega,Hb1.out,Hkp1.out⟩
 case round=>
  obtain ⟨i,u1,bb,rfl,rfl,hi0i,hi2',h1,h0,hbk,hkp⟩:=hrel;by_cases hgt:i0 < i
  · obtain rfl:i=1:=oM;obtain ⟨rfl,rfl⟩:=h1 rfl;obtain rfl:i0=0:=oM;obtain ⟨i,hi1⟩:∃i,i=1:=⟨1,rfl⟩;have hci:=vM (n:Int) (w0 l) (w1 l) i oM;have hset:=fun y=>vL (n:Int) (w0 l) (w1 l) y i oM;rw [zBw oM] at hci;obtain ⟨x,hx⟩:=eqx (w1 l);obtain ⟨y,hy⟩:=eqx (mG x 0 false);obtain ⟨cs,hcs⟩:=eqx (mI (n:Int) (w0 l) (w1 l));have hx64:=H1l.out;rw [hcs] at hci hset hbk;rw [hx] at hci hx64;have hyy:mG (w1 l) 0 false=y:=(by rw [hx];exact hy);obtain ⟨tb,htb⟩:=eqx (x.testBit 0);have hbit:(w1 l).testBit 0=tb:=(by rw [hx];exact htb);have Htb:=lhd htb;have hiI3:(i:Int) < 2:=oM;obtain ⟨Hci,Hset,Hcs,Hy,Hyy,Hbit,Hkp⟩:=hqq7 hci hset hbk hy hyy hbit hkp;have hi2n:i < 2:=oM;have hiN:¬i=0:=oM;have hiI2:¬(i:Int)<=0:=oM;rw [show ((1:Nat):Int)=(i:Int) by omega];have Hi1:=lhd hi1;have hgi:¬(i:Int)<=0:=hiI2;have hgi2:(i:Int) > 0:=oM;clear hbk hkp hci hset hx hy hyy hcs h1 h0 hbit hi1 hgt htb;go_wp2_with fail;refine wp_region_any kR ?_;refine cB [22,23,24,25,26,27,28,29,30,31,21,32,33,34,35,36,7] (fun b=>b=gb) 16 [7,16] (fun w1=>Bk w1 gb 254 cs) (aDm gb (cs.setIfInBounds (1+i) (.int .u64 (y:Int)))) [is (.pointer (some ⟨gb,0,none⟩)),is (.int .i64 (i:Int)),is (.pointer (some ⟨gb,0,none⟩)),is (.int .i64 (i:Int)),is (.pointer (some ⟨gb,0,none⟩)),is (.pointer (some ⟨gb,1,none⟩)),is (.pointer (some ⟨gb,1+i,none⟩)),is (.int .u64 (x:Int)),is (.bool false),is (.tuple #[.int .u64 (y:Int),.bool tb]),is (.tuple #[.int .u64 (y:Int),.bool tb]),is (.int .u64 (y:Int)),is (.bool tb),is (.pointer (some ⟨gb,0,none⟩)),is (.pointer (some ⟨gb,1,none⟩)),is (.pointer (some ⟨gb,1+i,none⟩)),dJ,is (.bool tb)] _ _ rfl kR kR (Hcs.out) (fun w1 w2 h _ hg=>Bk.below h hg h.lt) (vK _ _) (by repeat' (first | exact cL _ _ | exact bV _ |(refine zAe.2 ⟨?_,?_⟩)|(intro p hp;cases hp))) ?_ ?_
    · refine aT ?_;refine pH3 0 (.pointer (some ⟨gb,0,none⟩)) ?_;refine pH3 8 (.int .i64 (i:Int)) ?_;refine pH3 0 (.pointer (some ⟨gb,0,none⟩)) ?_;refine pH3 8 (.int .i64 (i:Int)) ?_;refine pV3 2 24 ?_;refine pV3 4 26 ?_;refine pW3 5 27 3 25 ?_;refine sC3 (fun _ w5 _ hU _ _ _ hval _ _ _ hK=>?_) ?_
      · have hpre:=hU rfl;have e28:_=_:=hval 6 28 kR rfl;have c0:w5.cell? ⟨gb,1+i,none⟩=some (.int .u64 (x:Int)):=(hpre.cell (1+i)).trans Hci.out;go_simp;exact kq hK rfl
      refine pH3 7 (.bool false) ?_;refine sC3 (fun _ w5 _ _ _ _ _ hval _ _ _ hK=>?_) ?_
      · have e29:_=_:=hval 7 29 kR rfl;have e30:_=_:=hval 8 30 kR rfl;go_simp;refine (aCk x 0 false hx64 oM w5).mono ?_;rintro e w8 ⟨rfl,rfl⟩;rw [Hy.out,Htb.out];exact kq hK rfl
      refine pV3 9 31 ?_;refine pV3 10 21 ?_;refine pV3 10 21 ?_;refine pV3 0 22 ?_;refine pV3 13 34 ?_;refine pW3 14 35 1 23 ?_;refine sC3 (fun _ w5 _ hU _ _ _ hval _ _ _ hK=>?_) ?_
      · have hpre:=hU rfl;have e36:_=_:=hval 15 36 kR rfl;have e32:_=_:=hval 11 32 kR rfl;have c0:w5.cell? ⟨gb,1+i,none⟩=some (.int .u64 (x:Int)):=(hpre.cell (1+i)).trans Hci.out;have f0:=hpre.frozen (1+i);go_simp;exact hK (.bool true) _ (bG (Keep.setCell (F:=fun b=>b=gb) (Keep.refl _ _) (p:=⟨gb,1+i,none⟩) (.inl rfl) _)) (hpre.set (1+i) _)
      refine pV3 12 33 ?_;exact aG
    · intro ev w6 hS hval hall;replace hS:Keep (fun b=>b=gb) wr w6:=kD hS;have e7:ev (.tmp 7)=.bool tb:=hval 17 7 rfl;obtain ⟨vJ,pJ⟩:∃vJ0,(aDm gb (cs.setIfInBounds (1+i) (.int .u64 (y:Int)))) vJ0 w6:=hall 16 dC;simp only [aO,zq1,zq2,Act.put,zq3,zq4,zq5];rw [e7];clear hval hall;have hbk2:Bk w6 gb 254 _:=pJ;rw [Hset.out,zBw hiN,zBw hiN] at hbk2;have hkp2:=Hkp.out.trans hS;obtain ⟨Hbk2,Hkp2⟩:=hqq2 hbk2 hkp2;have e1:IntKind.i64.wrap ((i:Int) - 1)=((0:Nat):Int):=(by have:=Hi1.out;rw [IntKind.wrap_i64];omega);clear hbk2 hkp2 pJ hS;go_wp2_with fail;go_roundw
      case rel=>exact ⟨0,_,_,rfl,rfl,by omega,by omega,fun e=>by omega,fun _=>⟨Hbit.out.symm,Hyy.out.symm⟩,Hbk2.out,Hkp2.out⟩
      case measure=>have:=Hi1.out;simp [intOf];omega
  · obtain rfl:i=i0:=oM
    have hfin2:∃x:Nat,(mI (n:Int) (w0 l) u1)[1+i]?=some (.int .u64 (x:Int))/\x < 18446744073709551616/\(mI (n:Int) (w0 l) u1).setIfInBounds (1+i) (.int .u64 ((mG x a0 bb:Nat):Int))=mI (n:Int) (w0 (aI l k)) (w1 (aI l k))/\x.testBit a0=l.getD k false:=by
        have hci:=vM (n:Int) (w0 l) u1 i hi2';have hset:=fun y=>vL (n:Int) (w0 l) u1 y i hi2';obtain hz | hz:i=0∨i=1:=oM
        · obtain ⟨e1,e2⟩:=h0 hz;obtain ⟨e3,e4,e5⟩:=Hlo.out hz;rw [zBx hz] at hci;refine ⟨w0 l,hci,H0l.out,?_,e5⟩;rw [hset,zBx hz,zBx hz,e3,e4,e1,e2]
        · obtain ⟨e1,e2⟩:=h1 hz;obtain ⟨e3,e4,e5⟩:=Hhi.out hz;have hz0:¬i=0:=oM;rw [zBw hz0] at hci;refine ⟨u1,hci,by rw [e2];exact H1l.out,?_,by rw [e2];exact e5⟩;rw [hset,zBw hz0,zBw hz0,e3,e4,e1,e2]
    obtain ⟨x,hci,hx64,hset,hbit⟩:=hfin2;obtain ⟨pa,hpa⟩:=eqx a0;subst hpa;have hp64:=ha64;obtain ⟨y,hy⟩:=eqx (mG x a0 bb);obtain ⟨cs,hcs⟩:=eqx (mI (n:Int) (w0 l) u1);rw [hy] at hset;rw [hcs] at hci hset hbk;obtain ⟨Hci,Hset,Hcs,Hy,Hbit,Hkp⟩:=hqq6 hci hset hbk hy hbit hkp;have hgtI:¬(i:Int) > (i:Int):=oM;have hiI3:(i:Int) < 2:=oM;have hwi:IntKind.i64.wrap (i:Int)=(i:Int):=(by rw [IntKind.wrap_i64];omega);have htm:((k:Int)).tmod 64=(a0:Int):=(by rw [Int.tmod_eq_emod_of_nonneg oM];exact ha0);clear hbk hkp hci hset hy hcs h1 h0 hbit hgt;go_wp2_with fail;refine wp_region_any kR ?_;refine cB [38,39,40,41,42,43,44,45,46,47,48,49,50,51,37,52,53,54,55,56,7] (fun b=>b=gb) 20 [9,20] (fun w1=>Bk w1 gb 254 cs) (aDm gb (cs.setIfInBounds (1+i) (.int .u64 (y:Int)))) [is (.pointer (some ⟨gb,0,none⟩)),is (.int .i64 (k:Int)),is (.int .i64 (i:Int)),is (.pointer (some ⟨gb,0,none⟩)),is (.int .i64 (k:Int)),is (.int .i64 (i:Int)),is (.pointer (some ⟨gb,0,none⟩)),is (.pointer (some ⟨gb,1,none⟩)),is (.pointer (some ⟨gb,1+i,none⟩)),is (.int .u64 (x:Int)),is (.int .i64 (k:Int)),is (.int .i64 (a0:Int)),is (.bool bb),is (.tuple #[.int .u64 (y:Int),.bool (x.testBit a0)]),is (.tuple #[.int .u64 (y:Int),.bool (x.testBit a0)]),is (.int .u64 (y:Int)),is (.bool (x.testBit a0)),is (.pointer (some ⟨gb,0,none⟩)),is (.pointer (some ⟨gb,1,none⟩)),is (.pointer (some ⟨gb,1+i,none⟩)),dJ,is (.bool (x.testBit a0))] _ _ rfl kR kR (Hcs.out) (fun w1 w2 h _ hg=>Bk.below h hg h.lt) (vK _ _) (by repeat' (first | exact cL _ _ | exact bV _ |(refine zAe.2 ⟨?_,?_⟩)|(intro p hp;cases hp))) ?_ ?_
    · refine aT ?_;refine pH3 0 (.pointer (some ⟨gb,0,none⟩)) ?_;refine pH3 1 (.int .i64 (k:Int)) ?_;refine pV3 1 39 ?_;refine pH3 0 (.pointer (some ⟨gb,0,none⟩)) ?_;refine pH3 1 (.int .i64 (k:Int)) ?_;refine pV3 4 42 ?_;refine pV3 3 41 ?_;refine pV3 6 44 ?_;refine pW3 7 45 5 43 ?_;refine sC3 (fun _ w5 _ hU _ _ _ hval _ _ _ hK=>?_) ?_
      · have hpre:=hU rfl;have e46:_=_:=hval 8 46 kR rfl;have c0:w5.cell? ⟨gb,1+i,none⟩=some (.int .u64 (x:Int)):=(hpre.cell (1+i)).trans Hci.out;go_simp;exact kq hK rfl
      refine pH3 1 (.int .i64 (k:Int)) ?_;refine pV3 10 48 ?_;refine pH3 7 (.bool bb) ?_;refine sC3 (fun _ w5 _ _ _ _ _ hval _ _ _ hK=>?_) ?_
      · have e47:_=_:=hval 9 47 kR rfl;have e49:_=_:=hval 11 49 kR rfl;have e50:_=_:=hval 12 50 kR rfl;go_simp;refine (aCk x a0 bb hx64 hp64 w5).mono ?_;rintro e w8 ⟨rfl,rfl⟩;rw [Hy.out];exact kq hK rfl
      refine pV3 13 51 ?_;refine pV3 14 37 ?_;refine pV3 14 37 ?_;refine pV3 0 38 ?_;refine pV3 17 54 ?_;refine pW3 18 55 2 40 ?_;refine sC3 (fun _ w5 _ hU _ _ _ hval _ _ _ hK=>?_) ?_
      · have hpre:=hU rfl;have e56:_=_:=hval 19 56 kR rfl;have e52:_=_:=hval 15 52 kR rfl;have c0:w5.cell? ⟨gb,1+i,none⟩=some (.int .u64 (x:Int)):=(hpre.cell (1+i)).trans Hci.out;have f0:=hpre.frozen (1+i);go_simp;exact hK (.bool true) _ (bG (Keep.setCell (F:=fun b=>b=gb) (Keep.refl _ _) (p:=⟨gb,1+i,none⟩) (.inl rfl) _)) (hpre.set (1+i) _)
      refine pV3 16 53 ?_;exact aG
    · intro ev w6 hS hval hall;replace hS:Keep (fun b=>b=gb) wr w6:=kD hS;have e7:ev (.tmp 7)=.bool (x.testBit a0):=hval 21 7 rfl;obtain ⟨vJ,pJ⟩:∃vJ0,(aDm gb (cs.setIfInBounds (1+i) (.int .u64 (y:Int)))) vJ0 w6:=hall 20 dC;simp only [aO,zq1,zq2,Act.put,zq3,zq4,zq5];rw [e7];clear hval hall;have hbk2:Bk w6 gb 254 _:=pJ;rw [Hset.out] at hbk2;have hkp2:=Hkp.out.trans hS;have c0:w6.cell? ⟨gb,0,none⟩=some (.int .i64 (n:Int)):=(hbk2.cell 0).trans rfl;have f0:=hbk2.frozen 0;have hgw:=hbk2.lt;obtain ⟨Hbk2,Hkp2⟩:=hqq2 hbk2 hkp2;have e1:IntKind.i64.wrap ((n:Int) - 1)=(n:Int) - 1:=(by rw [IntKind.wrap_i64];omega);rw [Hbit.out];clear hbk2 hkp2 pJ hS;go_wp2_with fail;go_ret2;exact ⟨rfl,Hfin.out _ (zA Hbk2.out _),Keep.setCell (F:=fun b=>b=gb) Hkp2.out (p:=⟨gb,0,none⟩) (.inl rfl) _⟩
theorem aAt (gt:Nat) (bs:List Bool) (w:World) (h:TreeAt w gt bs):
 Calls Tryz.prog 277 #[.pointer (some ⟨gt,0,none⟩)] w fun e w'=>e=.returned (.int .i64 ((bs.count true:Nat):Int))/\Below w.heap.size w w':=by
 obtain ⟨ga,v,⟨rfl,vl,h2⟩|⟨h1,h2,gl,cl,gb,h3⟩⟩:=h
 · have c2:w.cell? ⟨gt,2,none⟩=some (.int .i64 (-1)):=(h2.cell 2).trans rfl;clear h2;go_enter Tryz.func277,Tryz.ntmps277;go_wp2;go_ret;exact ⟨rfl,Below.refl _ _⟩
 · obtain ⟨c0,c1,c2,c3,d0,d1,d2,d3,d4,d5,d6,d7⟩:=h3.cells;clear h3;go_enter Tryz.func277,Tryz.ntmps277;go_wp2;go_quiet (fail);go_wp2;go_ret;exact ⟨rfl,⟨rfl,rfl,rfl,zAs _,fun _ _=>rfl⟩⟩
theorem TabW.visk {g:Nat} {w w':World} (h:TabW w) (k:VisK (fun b=>b=g) w w') (hg:1 < g) (hw:1 < w.heap.size):TabW w':=
 fun j hj=>(k.2.cell (p:=⟨1,j,none⟩) hw (by show ¬(1=g);omega)).trans (h j hj)
theorem aGL {l:List Bool} {b:Bool} {p:Nat} (hp:l[p]?=some b):(l.take p).count b < l.count b:=by
 have hpl:=(zAc.1 hp).1;have e:l=l.take (p+1)++l.drop (p+1):=(zAu _ _).symm;have h1:l.count b=(l.take (p+1)).count b+(l.drop (p+1)).count b:=by rw [<-zCc,zAu]
 have h2:(l.take (p+1)).count b=(l.take p).count b+1:=by rw [zAv,hp,zCc];simp
 omega
theorem vX (gt:Nat) (bs:List Bool) (p j:Nat) (b:Bool) (w:World) (h:TreeAt w gt bs) (hp:bs[p]?=some b) (hj:(bs.take p).count b=j) (hT:TabW w) (hg0:1 < gt):
 Calls Tryz.prog 245 #[.pointer (some ⟨gt,0,none⟩),.int .i64 (j:Int),.bool b] w fun e w'=>e=.returned (.int .i64 (p:Int))/\VisK (fun b=>b=gt) w w':=by
 have hbl:bs.length<=128:=by
  obtain ⟨ga,v,⟨rfl,vl,h2⟩|⟨h1,h2,h3⟩⟩:=h
  · simp
  exact h2
 have hpl:=(zAc.1 hp).1;have hclt:=aGL hp;rw [hj] at hclt;have hcb:=oU bs;have hv0:∃cs,Bk w gt 223 cs/\3 < cs.size:=by obtain ⟨ga,v,⟨rfl,vl,h2⟩|⟨h1,h2,gl,cl,gb,h3⟩⟩:=h;exact ⟨_,h2,by simp⟩;exact ⟨_,h3.tree,by simp⟩
 obtain ⟨cs,hcs,hc3⟩:=hv0;have hw0:1 < w.heap.size:=hT.pos;have hv1:=VisK.set_tree hcs 0;have ht1:=h.vis hv1.1;have hgl:=hcs.lt;have c3:w.cell? ⟨gt,3,none⟩=some cs[3]:=by rw [hcs.cell 3];simp [hc3]
 have f3:=hcs.frozen 3;obtain ⟨N,hN⟩:=eqx bs.length;obtain ⟨o,ho⟩:=eqx (bs.count true);rw [hN,ho] at hcb;have hlike:j < (if b then o else N - o):=by cases b;simp;omega;simp;omega
 have hN128:N<=128:=oM;have hoN:o<=N:=oM;have hj128:j<=128:=by rw [<-hj];exact zAk zBv (by rw [zAj];omega)
 have hp128:p<=128:=oM;obtain ⟨r,hr⟩:=eqx ((if b then o else N - o));rw [hr] at hlike;obtain ⟨HV,Hh,Hbl,Ht,HN,Hp,Hj,Ho,Hr⟩:=hqq9 hv1 h hbl ht1 hN hp hj ho hr;obtain ⟨HT,Hlike⟩:=hqq2 hT hlike;clear h hbl hv1 ht1 hcs hN hpl hclt hcb hp hj ho hr hT;go_enter Tryz.func245,Tryz.ntmps245;go_wp2_with fail;clear c3 f3;refine (fW gt bs _ Ht.out).mono ?_;rintro e w2 ⟨rfl,hb2⟩;rw [HN.out];have hv2:=HV.out.below hb2;have ht2:=Hh.out.vis hv2.1;obtain ⟨HV2,Ht2⟩:=hqq2 hv2 ht2;clear hv2 ht2 HV Ht hb2;go_wp2_with fail;refine (aAt gt bs _ Ht2.out).mono ?_;rintro e w3 ⟨rfl,hb3⟩;rw [Ho.out];have hv3:=HV2.out.below hb3;have ht3:=Hh.out.vis hv3.1;obtain ⟨HV3,Ht3⟩:=hqq2 hv3 ht3;clear hv3 ht3 HV2 Ht2 hb3;go_wp2_with fail;refine (uT N o b _ hN128 hoN).mono ?_;rintro e w4 ⟨rfl,hb4⟩;rw [Hr.out];have hv4:=HV3.out.below hb4;have ht4:=Hh.out.vis hv4.1;have hn1:¬r<=j:=oM;have hn2:decide (r<=j)=false:=zBy hn1;obtain ⟨ga,v,⟨hbe,_,_⟩|⟨hbe,hb2,gl,cl,gb,hl⟩⟩:=ht4
 · have h1:=Hp.out;rw [hbe] at h1;simp at h1
 obtain ⟨c0,c1,c2,c3,d0,d1,d2,d3,d4,d5,d6,d7⟩:=hl.cells;have hl2:=hl.row.lt;have hgl2:=hl.tree.lt;have hgt_gl:gt≠gl:=hl.row.bk_ne hl.tree dC;have f3:=hl.tree.frozen 3;obtain ⟨Hl,H2,HV4⟩:=hqq3 hl hb2 hv4;clear hl hb2 hbe hv4 hb4 HV3 Ht3;go_wp2_with fail;go_loopw [1,7,8] (fun x y z wr=>x=.int .i64 (j:Int)/\y=.int .i64 0/\z=.int .i64 0/\wr=w4) (fun _ _ _ _=>0)
 case atStart=>exact ⟨rfl,rfl,rfl,rfl⟩
 case round=>
  obtain ⟨rfl,rfl,rfl,rfl⟩:=hrel;go_wp2_with fail;refine (uT 0 0 b _ oM nL).mono ?_;rintro e w5 ⟨rfl,hb5⟩;have e0:(if b=true then 0 else 0 - 0:Nat)=0:=by cases b <;> rfl
  rw [e0];have hgb:=Bk.ne Hl.out.blk Hl.out.tree dC;have hv5:=(VisK.set_tree Hl.out.tree (wrap64 (v+1))).alloc (.cells #[.int .i64 (-1),.int .i64 (-1),.int .i64 0,.int .i64 (bs.length:Int),.int .i64 ((bs.count true:Nat):Int),.int .i64 0,.int .i64 0,.pointer (some ⟨gb,0,none⟩)] 226);have hw5:=hv5.below hb5;have hblk:=(Hl.out.blk.far (p:=⟨gt,3,none⟩) hgb (.int .i64 (wrap64 (v+1)))).alloc (.cells #[.int .i64 (-1),.int .i64 (-1),.int .i64 0,.int .i64 (bs.length:Int),.int .i64 ((bs.count true:Nat):Int),.int .i64 0,.int .i64 0,.pointer (some ⟨gb,0,none⟩)] 226);have hblk5:=hblk.below hb5 hblk.lt;have hx7:=hb5.cell (p:=⟨wr.heap.size,7,none⟩) (by simp [World.setCell]);have hTw:=((HV4.out.trans hv5).below hb5);obtain ⟨HT5,HV5,Hblk5⟩:=hqq3 (HT.out.visk hTw hg0 hw0) hTw hblk5;clear hw5 hblk hblk5 hv5 hTw hb5;go_wp2_with fail;refine (tD gb bs b p j _ Hblk5.out H2.out Hp.out Hj.out HT5.out).mono ?_;rintro e w6 ⟨rfl,hb6⟩;have hv6:=HV5.out.below hb6;have e5:IntKind.i64.wrap (p:Int)=(p:Int):=by rw [IntKind.wrap_i64];omega
  go_wp2_with fail;go_ret;exact ⟨fC oM,hv6⟩
theorem aGd {a b:Nat} (h:a≠b):((a:Int)==(b:Int))=false:=by rw [zCb];omega
theorem aFu {L1 L2:List Nat} {k n:Nat} (h1:L1.length=n) (h2:L2.length=n) (h:L1.take k=L2.take k) (hk:n<=k):L1=L2:=by
 rw [zAg oM,zAg oM] at h;exact h
theorem aBi (A1 A2:Option Addr) (n1 c1 n2 c2 B1 B2:Nat) (L1 L2:List Nat) (w:World) (h1:Rd w B1 1 A1 n1 (L1.map sv)) (h2:Rd w B2 1 A2 n2 (L2.map sv)) (hn:n1<=1099511627776) (hn2:n2<=1099511627776):
 Calls Tryz.prog 24 #[.slice A1 n1 c1,.slice A2 n2 c2] w fun e w'=>e=.returned (.bool (decide (L1=L2)))/\Below w.heap.size w w':=by
 have l1:L1.length=n1:=by simpa using h1.1
 have l2:L2.length=n2:=by simpa using h2.1
 obtain ⟨H1,H2,HL1,HL2⟩:=hqq4 h1 h2 l1 l2;clear h1 h2 l1 l2;by_cases hne:n1=n2
 · subst hne;go_enter Tryz.func24,Tryz.ntmps24;go_wp2;go_loopw [5] (fun i wr=>∃k:Nat,k<=n1/\i=.int .i64 k/\L1.take k=L2.take k/\∃m,wr=w.drewN m) (fun i _=>n1 -(intOf i).toNat)
   case atStart=>exact ⟨0,zAp _,rfl,rfl,0,rfl⟩
   case round=>
    obtain ⟨k,hk,rfl,hpre,mm,rfl⟩:=hrel;by_cases hlt:k < n1
    · obtain ⟨x,hx⟩:∃x,L1[k]?=some x:=⟨L1[k]'(by have:=HL1.out;omega),zAa (by have:=HL1.out;omega)⟩;obtain ⟨y,hy⟩:∃y,L2[k]?=some y:=⟨L2[k]'(by have:=HL2.out;omega),zAa (by have:=HL2.out;omega)⟩;obtain ⟨b1,o1,u1,rfl,hb1,hu1,d1⟩:=H1.out.get hlt;obtain ⟨b2,o2,u2,rfl,hb2,hu2,d2⟩:=H2.out.get hlt;rw [zAf,hx] at hu1;rw [zAf,hy] at hu2;simp only [Option.map_some,Option.some.injEq] at hu1 hu2;subst hu1;subst hu2;unfold sv at d1 d2;obtain ⟨Hpre,Hx,Hy⟩:=hqq3 hpre hx hy;clear hpre hx hy;by_cases hxy:x=y
      · subst hxy;go_wp2;go_quiet (fail);go_wp2;go_roundw
        case rel=>refine ⟨k+1,by omega,by go_num,?_,_,rfl⟩;rw [zAv,zAv,Hpre.out,Hx.out,Hy.out]
        case measure=>simp [intOf];omega
      · have t:=aGd hxy
        have hfin:L1≠L2:=fun h=>hxy (by
         have a:=Hx.out;rw [h,Hy.out] at a;injection a with a;exact a.symm)
        have Hfin:=lhd hfin;clear hfin;go_wp2;go_quiet (fail);go_wp2;go_ret;exact ⟨eP (by rw [zBy Hfin.out]),below_drewN (below_drewN bR _) _⟩
    · have hge:n1<=k:=oM;have hfin:=lhd (aFu HL1.out HL2.out hpre hge);clear hpre;go_wp2;go_ret;exact ⟨eP (by rw [zBz hfin.out]),below_drewN bR _⟩
 · have hfin:L1≠L2:=fun h=>hne (by rw [<-HL1.out,<-HL2.out,h]);have Hfin:=lhd hfin;have t:=aGd hne;clear hfin;go_enter Tryz.func24,Tryz.ntmps24;go_wp2;go_ret;exact ⟨eP (by rw [zBy Hfin.out]),Below.refl _ _⟩
end Go.Proofs.YtnhmjomhloainaaGreatDoor
