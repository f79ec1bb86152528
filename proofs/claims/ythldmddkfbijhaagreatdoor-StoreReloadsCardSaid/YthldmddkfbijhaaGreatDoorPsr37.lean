/- Lemmas of the walk. Conditions: each its own. -/
import Derived.Test.YthldmddkfbijhaaGreatDoorPsr32
import Derived.Test.YthldmddkfbijhaaGreatDoorPsr35
import Derived.Test.YthldmddkfbijhaaGreatDoorProg
import Derived.Test.YthldmddkfbijhaaGreatDoorSht
import Derived.Test.YthldmddkfbijhaaGreatDoorShl
import Derived.Test.YthldmddkfbijhaaGreatDoorShi
import Derived.Test.YthldmddkfbijhaaGreatDoorShs
set_option linter.all false
set_option maxRecDepth 100000
set_option maxHeartbeats 2000000
namespace Go.Proofs.YthldmddkfbijhaaGreatDoor
open Go.RowKit
section
variable {w w1 w' : World} {B gs gl most rate : Nat} {own own' : Nat -> Nat} {T : List UInt8}
end
theorem aAA {w:World} {B:Nat} {own:Nat->Nat} {gs gl most rate:Nat} {t:List UInt8} {tmps:Array Value} (cs:Array Value) (code num:Int) {ex:Exit} (h:StAt w B own gs gl most rate t) (hex:ex=.ret∨ex=.normal) (hp:tmps.getD 4 undef=.pointer (some ⟨w.heap.size+1,0,none⟩)):
 bodyPost Tryz.prog Tryz.f22 (StDone w B own gs most rate t ⟨code,num, [], []⟩) ex ⟨tmps, []⟩ ((w.alloc (.cells cs 46)).alloc (.cells #[.int .i64 code,.int .i64 num,.slice none 0 0,.slice none 0 0] 50)):=by
 have hb:Below w.heap.size w ((w.alloc (.cells cs 46)).alloc (.cells #[.int .i64 code,.int .i64 num,.slice none 0 0,.slice none 0 0] 50)):=(bR.alloc nL _).alloc (by simp) _;have hbr:=Bk.new (w.alloc (.cells cs 46)) 50 #[.int .i64 code,.int .i64 num,.slice none 0 0,.slice none 0 0];rw [World.size_alloc] at hbr;have hr:=results_cell_row (P:=Tryz.prog) (fn:=Tryz.f22) (p:=4) (ty:=50) rfl tmps _ (w.heap.size+1) 50 (lF ⟨code,num, [], []⟩ none 0 none 0) (0,0) _ hp hbr Tryz.underlying50 rfl kR;have q:StDone w B own gs most rate t ⟨code,num, [], []⟩ (.returned (.agg (lF ⟨code,num, [], []⟩ none 0 none 0))) ((w.alloc (.cells cs 46)).alloc (.cells #[.int .i64 code,.int .i64 num,.slice none 0 0,.slice none 0 0] 50)):=
  ⟨none,0,none,0,own,gl,rfl,h.vb (Vis.of_below hb),LFS.of_below B gs own hb,bB _ _ _,bB _ _ _,(fun a ha=>by cases ha),(fun a ha=>by cases ha)⟩
 rcases hex with rfl | rfl;exact bodyPost_ret hr rfl q;exact bodyPost_end hr rfl q
theorem jH (B:Nat) (own:Nat->Nat) (gs gl most rate N:Nat) (t:List UInt8) (p n:Int) (A:Option Addr) (m c:Nat) (w:World) (h:StAt w B own gs gl most rate t) (hN:t.length=N):
 Calls Tryz.prog 22 #[gs,bT 4 p n A m c] w (StDone w B own gs most rate t ⟨0,(N:Int), [], []⟩):=by
 have hdw:=DoW.mk' 4 p n A m c h;have hll:=hdw.st.llen hN;have c0:=hdw.box.cell 0;have s0:=hdw.st.blk.cell 0;have j0:=hdw.res.cell 0;have j1:=hdw.res.cell 1;have j2:=hdw.res.cell 2;have j3:=hdw.res.cell 3;have f0:=hdw.res.frozen 0;have f1:=hdw.res.frozen 1;have f2:=hdw.res.frozen 2;have f3:=hdw.res.frozen 3;obtain ⟨H0,Hll⟩:=hqq2 h hll;clear hdw hll h;unfold bT;go_enter Tryz.func22,Tryz.ntmps22;go_wp2_with fail;refine Hll.out.mono ?_;rintro e w1 ⟨rfl,rfl⟩;go_wp2_with fail;exact aAA _ _ _ H0.out (.inl rfl) rfl
theorem aDj (B:Nat) (own:Nat->Nat) (gs gl most rate:Nat) (t:List UInt8) (kind p n:Int) (A:Option Addr) (m c:Nat) (w:World) (h:StAt w B own gs gl most rate t) (hk:∀k:Int,1<=k->k<=8->kind≠k):
 Calls Tryz.prog 22 #[gs,bT kind p n A m c] w (StDone w B own gs most rate t ⟨1,0, [], []⟩):=by
 have hdw:=DoW.mk' kind p n A m c h;have c0:=hdw.box.cell 0;have j0:=hdw.res.cell 0;have j1:=hdw.res.cell 1;have j2:=hdw.res.cell 2;have j3:=hdw.res.cell 3;have f0:=hdw.res.frozen 0;have f1:=hdw.res.frozen 1;have f2:=hdw.res.frozen 2;have f3:=hdw.res.frozen 3;have k1:(kind==1)=false:=zCb.2 (hk 1 dC dC);have k2:(kind==2)=false:=zCb.2 (hk 2 dC dC);have k3:(kind==3)=false:=zCb.2 (hk 3 dC dC);have k4:(kind==4)=false:=zCb.2 (hk 4 dC dC);have k5:(kind==5)=false:=zCb.2 (hk 5 dC dC);have k6:(kind==6)=false:=zCb.2 (hk 6 dC dC);have k7:(kind==7)=false:=zCb.2 (hk 7 dC dC);have k8:(kind==8)=false:=zCb.2 (hk 8 dC dC);have H0:=lhd h;clear hdw h hk;unfold bT;go_enter Tryz.func22,Tryz.ntmps22;go_wp2_with fail;exact aAA _ _ _ H0.out (.inl rfl) rfl
theorem aBR (B gl rate N:Nat) (t:List UInt8) (p n:Int) (w:World) (h:TpAt w B gl t rate) (hN:t.length=N) (hno:eD N p n=false):
 Calls Tryz.prog 75 #[gl,.int .i64 p,.int .i64 n] w fun e w'=>e=.returned (.tuple #[.slice none 0 0,.int .i64 2])/\w=w':=by
 have hll:Calls Tryz.prog 37 #[gl] w fun e w'=>e=.returned (.int .i64 (N:Int))/\w=w':=by obtain ⟨rs,gk,gp,pr,hs,hl,hrt,hz0,hn127⟩:=h;exact cB B gl _ N w hl.lvw (by rw [bU,hs.len,aT,hN]) oM
 have hn127:N<=127:=by obtain ⟨rs,gk,gp,pr,hs,hl,hrt,hz0,hn127⟩:=h;omega
 unfold eD at hno;have hno':=of_decide_eq_false hno;have HL:=lhd hll;clear h hll hno;by_cases h1:p < 0
 · have d1:decide (p < 0)=true:=zBz h1;go_enter Tryz.func75,Tryz.ntmps75;go_wp2_with fail;go_ret2;exact ⟨rfl,rfl⟩
 · have d1:decide (p < 0)=false:=zBy h1;by_cases h2:n < 0
   · have d2:decide (n < 0)=true:=zBz h2;go_enter Tryz.func75,Tryz.ntmps75;go_wp2_with fail;go_ret2;exact ⟨rfl,rfl⟩
   · have d2:decide (n < 0)=false:=zBy h2;by_cases h3:p > (N:Int)
     · have d3:decide (p > (N:Int))=true:=zBz h3;go_enter Tryz.func75,Tryz.ntmps75;go_wp2_with fail;refine HL.out.mono ?_;rintro e w1 ⟨rfl,rfl⟩;go_wp2_with fail;go_ret2;exact ⟨rfl,rfl⟩
     · have d3:decide (p > (N:Int))=false:=zBy h3;have g1:IntKind.i64.wrap ((N:Int) - p)=(N:Int) - p:=(by rw [IntKind.wrap_i64];omega);have d4:decide (n > (N:Int) - p)=true:=zBz oM;clear hno';go_enter Tryz.func75,Tryz.ntmps75;go_wp2_with fail;refine HL.out.mono ?_;rintro e w1 ⟨rfl,rfl⟩;go_wp2_with fail;refine HL.out.mono ?_;rintro e w1 ⟨rfl,rfl⟩;go_wp2_with fail;go_ret2;exact ⟨rfl,rfl⟩
theorem sL (B:Nat) (own:Nat->Nat) (gs gl most rate:Nat) (t:List UInt8) (p n:Int) (A:Option Addr) (m c:Nat) (w:World) (h:StAt w B own gs gl most rate t) (data:List UInt8) (code:Int) (nd:Nat) (hnd:data.length=nd)
 (hpc:∀W,StAt W B own gs gl most rate t->LFS B gs w W own own->Calls Tryz.prog 75 #[gl,.int .i64 p,.int .i64 n] W fun e w'=>∃A' c',e=.returned (.tuple #[.slice A' nd c',.int .i64 code])/\Made w' W.heap.size 5 1 A' nd c' (data.map bv)/\VB B W w'):
 Calls Tryz.prog 22 #[gs,bT 5 p n A m c] w (StDone w B own gs most rate t ⟨code,0,data, []⟩):=by
 have hdw:=DoW.mk' 5 p n A m c h;have hp:=fun w5 (k:VB B _ w5)=>hpc w5 (hdw.st.vb k.1) ((LFS.of_below B gs own hdw.low).trans (LFS.of_vb gs own k));have hgs:=h.blk.lt;have c0:=hdw.box.cell 0;have c1:=hdw.box.cell 1;have c2:=hdw.box.cell 2;have s0:=hdw.st.blk.cell 0;obtain ⟨Hdw,Hp⟩:=hqq2 hdw hp;clear hdw hp h hpc;unfold bT;go_enter Tryz.func22,Tryz.ntmps22;go_wp2_with fail;generalize (w.alloc (.cells #[.int .i64 5,.int .i64 p,.int .i64 n,.slice A m c] 46)).alloc (.cells #[.int .i64 0,.int .i64 0,.slice none 0 0,.slice none 0 0] 50)=W at*
 clear c0 c1 c2 s0;refine wp_region_any kR ?_;refine aO [34,35,36,37,38,39,40,41,42,33,43,44,5,6] (VB B) (Vs [is gs,is gs,is gs,is gl,is (.pointer (some ⟨w.heap.size,1,none⟩)),is (.int .i64 p),is (.pointer (some ⟨w.heap.size,2,none⟩)),is (.int .i64 n),fun v w2=>∃A' c',v=.tuple #[.slice A' nd c',.int .i64 code]/\Made w2 w.heap.size 5 1 A' nd c' (data.map bv),fun v w2=>∃A' c',v=.tuple #[.slice A' nd c',.int .i64 code]/\Made w2 w.heap.size 5 1 A' nd c' (data.map bv),fun v w2=>∃A' c',v=.slice A' nd c'/\Made w2 w.heap.size 5 1 A' nd c' (data.map bv),is (.int .i64 code),fun v w2=>∃A' c',v=.slice A' nd c'/\Made w2 w.heap.size 5 1 A' nd c' (data.map bv),is (.int .i64 code)]) _ _ rfl kR vR (fun _ _=>VisK.trans) (cL (by repeat' (first | exact gV _ _ | exact iX _ | exact fun _ _ _ ⟨A',c',h1,h2⟩ k=>⟨A',c',h1,k.1.made h2 dC dC⟩|(refine zAe.2 ⟨?_,?_⟩)|(intro p hp;cases hp)))) ?_ ?_
 · refine aM ?_;refine pH 0 (.pointer (some ⟨gs,0,none⟩)) ?_;refine pV 0 34 ?_;refine pV 1 35 ?_;refine sC (fun _ w5 hS _ _ _ hval _ _ _ hK=>?_) ?_
   · have e36:_=_:=hval 2 36 kR rfl;replace hS:(VB B) W w5:=bD hS;have hbk5:=hS.1.bk Hdw.out.st.blk dC dC;have c9:=hbk5.cell 0;go_simp;exact hK _ _ vR rfl
   refine pH 3 (.pointer (some ⟨w.heap.size,0,none⟩)) ?_;refine sC (fun _ w5 hS _ _ _ hval _ _ _ hK=>?_) ?_
   · have e38:_=_:=hval 4 38 kR rfl;replace hS:(VB B) W w5:=bD hS;have hbx5:=hS.1.bk Hdw.out.box dC dC;have c9:=hbx5.cell 1;go_simp;exact hK _ _ vR rfl
   refine pH 3 (.pointer (some ⟨w.heap.size,0,none⟩)) ?_;refine sC (fun _ w5 hS _ _ _ hval _ _ _ hK=>?_) ?_
   · have e40:_=_:=hval 6 40 kR rfl;replace hS:(VB B) W w5:=bD hS;have hbx5:=hS.1.bk Hdw.out.box dC dC;have c9:=hbx5.cell 2;go_simp;exact hK _ _ vR rfl
   refine sC (fun _ w5 hS _ _ _ hval _ _ _ hK=>?_) ?_
   · have e37:_=_:=hval 3 37 kR rfl;have e39:_=_:=hval 5 39 kR rfl;have e41:_=_:=hval 7 41 kR rfl;replace hS:(VB B) W w5:=bD hS;have hws:=hS.1.size;go_simp;refine (Hp.out w5 hS).mono ?_;rintro e w8 ⟨A',c',rfl,hm8,hv8⟩;exact hK _ _ hv8 ⟨A',c',rfl,⟨bF hm8.own (zAk Hdw.out.low.size hws),hm8.rd,hm8.cap,hm8.max⟩⟩
   refine sC (fun ev w5 _ _ _ _ hval _ _ _ hK=>?_) ?_
   · have p42:(fun v w2=>∃A' c',v=.tuple #[.slice A' nd c',.int .i64 code]/\Made w2 w.heap.size 5 1 A' nd c' (data.map bv)) (ev (.tmp 42)) w5:=hval 8 42 kR rfl;obtain ⟨A',c',e42,hm9⟩:=p42;go_simp;exact hK _ _ vR ⟨A',c',rfl,hm9⟩
   refine sC (fun ev w5 _ _ _ _ hval _ _ _ hK=>?_) ?_
   · have p33:(fun v w2=>∃A' c',v=.tuple #[.slice A' nd c',.int .i64 code]/\Made w2 w.heap.size 5 1 A' nd c' (data.map bv)) (ev (.tmp 33)) w5:=hval 9 33 kR rfl;obtain ⟨A',c',e33,hm9⟩:=p33;go_simp;exact hK _ _ vR ⟨A',c',rfl,hm9⟩
   refine sC (fun ev w5 _ _ _ _ hval _ _ _ hK=>?_) ?_
   · have p33:(fun v w2=>∃A' c',v=.tuple #[.slice A' nd c',.int .i64 code]/\Made w2 w.heap.size 5 1 A' nd c' (data.map bv)) (ev (.tmp 33)) w5:=hval 9 33 kR rfl;obtain ⟨A',c',e33,hm9⟩:=p33;go_simp;exact hK _ _ vR rfl
   refine sC (fun ev w5 _ _ _ _ hval _ _ _ hK=>?_) ?_
   · have p43:(fun v w2=>∃A' c',v=.slice A' nd c'/\Made w2 w.heap.size 5 1 A' nd c' (data.map bv)) (ev (.tmp 43)) w5:=hval 10 43 kR rfl;obtain ⟨A',c',e43,hm9⟩:=p43;go_simp;exact hK _ _ vR ⟨A',c',rfl,hm9⟩
   refine pV 11 44 ?_;exact aC
 · intro ev w6 hS hval;replace hS:(VB B) W w6:=bD hS;have p5:(fun v w2=>∃A' c',v=.slice A' nd c'/\Made w2 w.heap.size 5 1 A' nd c' (data.map bv)) (ev (.tmp 5)) w6:=hval 12 5 rfl;have e6:ev (.tmp 6)=.int .i64 code:=hval 13 6 rfl;simp only [aI,zq1,zq2,Act.put,zq3,zq4,zq5];rw [e6];clear hval;obtain ⟨A',c',e5,hm9⟩:=p5;rw [e5];clear e5 e6;have s1:=hS.1.bk Hdw.out.res dC dC;have hlf:=(LFS.of_below B gs own Hdw.out.low).trans (LFS.of_vb gs own hS);have hst1:=Hdw.out.st.vb hS.1;have hz:∀a,A'=some a->own a.block=0:=fun a ha=>by subst ha;exact Hdw.out.fr _ (hm9.own.lt (k:=a.block) rfl).1
   have j0:=s1.cell 0;have j1:=s1.cell 1;have j2:=s1.cell 2;have j3:=s1.cell 3;have f0:=s1.frozen 0;have f1:=s1.frozen 1;have f2:=s1.frozen 2;have f3:=s1.frozen 3;obtain ⟨S1,Hst1,Hlf,Hz,Hm2⟩:=hqq5 s1 hst1 hlf hz hm9;clear s1 hst1 hlf hS hz hm9 Hp;go_wp2_with fail;exact lI (.inl rfl) rfl S1.out Hst1.out Hlf.out Hdw.out.bs oM Hdw.out.ap hnd rfl Hm2.out (bB _ _ _) Hz.out (fun a ha=>by cases ha)
theorem aAc (B:Nat) (own:Nat->Nat) (gs gl most rate:Nat) (t D:List UInt8) (p n:Int) (A:Option Addr) (m c:Nat) (w:World) (h:StAt w B own gs gl most rate t) (hD:ArgZ w B own gs A m D) (hm:m<=1000000):
 Calls Tryz.prog 22 #[gs,bT 6 p n A m c] w (StDone w B own gs most rate t ⟨0,((fM t D).length:Int), [], []⟩):=by
 have hdw:=DoW.mk' 6 p n A m c h;have hDl:D.length=m:=by simpa using hD.1.1
 have hD2:=hD.vis hdw.low;have hgs:=h.blk.lt;have hcnt:∀w5 g,VB B ((w.alloc (.cells #[.int .i64 6,.int .i64 p,.int .i64 n,.slice A m c] 46)).alloc (.cells #[.int .i64 0,.int .i64 0,.slice none 0 0,.slice none 0 0] 50)) w5->Bk w5 g 26 #[.slice A m c]->Calls Tryz.prog 76 #[gl,.slice (some ⟨g,0,none⟩) 1 1] w5 fun e w'=>e=.returned (.int .i64 ((fM t D).length:Int))/\VB B w5 w':=fun w5 g hv hb=>by
  have htx:TxtAt w5 B gl t:=by obtain ⟨rs,gk,gp,pr,x1,x2,x3,x4,x5⟩:=(hdw.st.vb hv.1).tp;exact ⟨rs,x1,x2.lvw,x5⟩
  have hD5:=(hD2.step (LFS.of_vb gs own hv)).1;have:=aBI B gl t (some ⟨g,0,none⟩) 1 1 w5.heap.size [(⟨A,m,c,D⟩:Sl)] D (by simp [iE]) w5 htx (aIb hb rfl) (fun s hs=>by simp at hs;subst hs;exact hD5) nL oM oM;rw [<-aEm,rF] at this;exact this
 obtain ⟨z,hz⟩:=eqx ((fM t D).length);rw [hz] at hcnt⊢;have c0:=hdw.box.cell 0;obtain ⟨Hdw,Hcnt⟩:=hqq2 hdw hcnt;clear hdw hcnt h hD hD2 hDl hz;unfold bT;go_enter Tryz.func22,Tryz.ntmps22;go_wp2_with fail;generalize (w.alloc (.cells #[.int .i64 6,.int .i64 p,.int .i64 n,.slice A m c] 46)).alloc (.cells #[.int .i64 0,.int .i64 0,.slice none 0 0,.slice none 0 0] 50)=W at*
 clear c0;refine wp_region_any kR ?_;refine bZ B 9 [50,51,52,53,54,55,56,57,58] (fun _=>False) 8 [] (fun _=>True) (fun v _=>v=.agg #[.int .i64 0,(z:Int),.slice none 0 0,.slice none 0 0]) [is gs,is gs,is gs,is gl,is (.pointer (some ⟨w.heap.size,3,none⟩)),is (.slice A m c),fun x w2=>∃g,x=.slice (some ⟨g,0,none⟩) 1 1/\Bk w2 g 26 #[.slice A m c],is (z:Int),cR] _ _ rfl dC kR kR kR (trivial) (fun _ _ _ _ _=>trivial) (fun _ _ _ h _=>h) (by repeat' (first | exact gV _ _ | exact iX _ | exact fun _ _ _ ⟨g,h1,h2⟩ k=>⟨g,h1,k.1.bk h2 dC dC (fun f=>f)⟩|(refine zAe.2 ⟨?_,?_⟩)|(intro p hp;cases hp))) ?_ ?_
 · refine bM ?_;refine pH3 0 (.pointer (some ⟨gs,0,none⟩)) ?_;refine pV3 0 50 ?_;refine pV3 1 51 ?_;refine sC3 (fun _ w5 hS _ _ _ _ hval _ _ _ hK=>?_) ?_
   · replace hS:VFB B (fun _=>False) W w5:=fD hS;have e52:_=_:=hval 2 52 kR rfl;have hv5:=hS.to_vb (fun _ _ f=>f);have hbk5:=hv5.1.bk Hdw.out.st.blk dC dC;have c9:=hbk5.cell 0;go_simp;exact hK _ _ (aK vR) rfl
   refine pH3 3 (.pointer (some ⟨w.heap.size,0,none⟩)) ?_;refine sC3 (fun _ w5 hS _ _ _ _ hval _ _ _ hK=>?_) ?_
   · replace hS:VFB B (fun _=>False) W w5:=fD hS;have e54:_=_:=hval 4 54 kR rfl;have hv5:=hS.to_vb (fun _ _ f=>f);have hbx5:=hv5.1.bk Hdw.out.box dC dC;have c9:=hbx5.cell 3;go_simp;exact hK _ _ (aK vR) rfl
   refine sC3 (fun _ _ _ _ _ _ _ hval _ _ _ hK=>?_) ?_
   · have e55:_=_:=hval 5 55 kR rfl;go_simp;exact hK _ _ (aK (vR.alloc _)) ⟨_,rfl,Bk.new _ _ _⟩
   refine sC3 (fun ev w5 hS _ _ _ _ hval _ _ _ hK=>?_) ?_
   · replace hS:VFB B (fun _=>False) W w5:=fD hS;have e53:_=_:=hval 3 53 kR rfl;have p56:(fun x w2=>∃g,x=.slice (some ⟨g,0,none⟩) 1 1/\Bk w2 g 26 #[.slice A m c]) (ev (.tmp 56)) w5:=hval 6 56 kR rfl;have hv5:=hS.to_vb (fun _ _ f=>f);obtain ⟨g5,e56,hb5⟩:=p56;go_simp;refine (Hcnt.out w5 g5 hv5 hb5).mono ?_;rintro e w8 ⟨rfl,hv8⟩;exact hK _ _ (aK hv8) rfl
   refine sC3 (fun _ _ _ _ _ _ _ hval _ _ _ hK=>?_) ?_
   · have e57:_=_:=hval 7 57 kR rfl;go_simp;exact hK _ _ (kB (VFB.of_vb vR)) rfl
   exact aC
 · intro ev w6 f hS hval hall;replace hS:VFB B (fun _=>False) W w6:=fD hS;have p58:(fun v _=>v=.agg #[.int .i64 0,(z:Int),.slice none 0 0,.slice none 0 0]) (ev (.tmp 58)) w6:=hval 8 58 dC rfl;obtain ⟨vJ,pJ0⟩:=hall 8 dC;have pJ:(fun v _=>v=.agg #[.int .i64 0,(z:Int),.slice none 0 0,.slice none 0 0]) vJ w6:=pJ0;clear pJ0 hall;simp only [aI,zq1,zq2,Act.put,zq3,zq4,zq5];clear hval;have e58:=p58;rw [e58];have hv6:=hS.to_vb (fun _ _ f=>f);clear pJ p58 e58 hS;have s1:=hv6.1.bk Hdw.out.res dC dC;have hst1:=Hdw.out.st.vb hv6.1;have hlf:=(LFS.of_below B gs own Hdw.out.low).trans (LFS.of_vb gs own hv6);have j0:=s1.cell 0;have j1:=s1.cell 1;have j2:=s1.cell 2;have j3:=s1.cell 3;have f0:=s1.frozen 0;have f1:=s1.frozen 1;have f2:=s1.frozen 2;have f3:=s1.frozen 3;obtain ⟨S1,Hst1,Hlf⟩:=hqq3 s1 hst1 hlf;clear s1 hst1 hlf hv6;change wpAny Tryz.prog Region.Mode.any _ _ (1+f) (bV 9 10) _ w6;rw [zCs 1 f];refine aQ (f:=f) (i:=9) kR ?_;refine bW rfl rfl ?_;generalize hK:wpAny Tryz.prog _ _ _ f _=K5;go_simp;subst hK;refine bK kR ?_;go_wp2_with fail;exact lI (.inl rfl) rfl S1.out Hst1.out Hlf.out Hdw.out.bs oM Hdw.out.ap rfl rfl (bB _ _ _) (bB _ _ _) (fun a ha=>by cases ha) (fun a ha=>by cases ha)
theorem yY (B:Nat) (own:Nat->Nat) (gs gl most rate:Nat) (t D:List UInt8) (p n:Int) (A:Option Addr) (m c:Nat) (w:World) (h:StAt w B own gs gl most rate t) (hD:ArgZ w B own gs A m D) (hm:m<=1000000):
 Calls Tryz.prog 22 #[gs,bT 7 p n A m c] w (StDone w B own gs most rate t ⟨0,((fM t D).length:Int), [],fM t D⟩):=by
 have hdw:=DoW.mk' 7 p n A m c h;have hDl:D.length=m:=by simpa using hD.1.1
 have hD2:=hD.vis hdw.low;have hgs:=h.blk.lt;have hall:∀w5 g,VB B ((w.alloc (.cells #[.int .i64 7,.int .i64 p,.int .i64 n,.slice A m c] 46)).alloc (.cells #[.int .i64 0,.int .i64 0,.slice none 0 0,.slice none 0 0] 50)) w5->Bk w5 g 26 #[.slice A m c]->Calls Tryz.prog 77 #[gl,.slice (some ⟨g,0,none⟩) 1 1] w5 fun e w'=>∃A' c',e=.returned (.slice A' (fM t D).length c')/\Made w' w5.heap.size 3 1 A' (fM t D).length c' ((fM t D).map nv)/\VB B w5 w':=fun w5 g hv hb=>by have hD5:=(hD2.step (LFS.of_vb gs own hv)).1;have:=aKm B gl rate t (some ⟨g,0,none⟩) 1 1 w5.heap.size [(⟨A,m,c,D⟩:Sl)] D (by simp [iE]) w5 (hdw.st.vb hv.1).tp (aIb hb rfl) (fun s hs=>by simp at hs;subst hs;exact hD5) nL oM oM;unfold aCc at this;rw [rF] at this;exact this
 obtain ⟨L,hL⟩:=eqx (fM t D);rw [hL] at hall⊢;obtain ⟨z,hz⟩:=eqx L.length;rw [hz] at hall⊢;have c0:=hdw.box.cell 0;obtain ⟨Hdw,Hall,Hz⟩:=hqq3 hdw hall hz;clear hdw hall h hD hD2 hDl hL hz;unfold bT;go_enter Tryz.func22,Tryz.ntmps22;go_wp2_with fail;generalize (w.alloc (.cells #[.int .i64 7,.int .i64 p,.int .i64 n,.slice A m c] 46)).alloc (.cells #[.int .i64 0,.int .i64 0,.slice none 0 0,.slice none 0 0] 50)=W at*
 clear c0;refine wp_region_any kR ?_;refine aO [61,62,63,64,65,66,67,68,7] (VB B) (Vs [is gs,is gs,is gs,is gl,is (.pointer (some ⟨w.heap.size,3,none⟩)),is (.slice A m c),fun x w2=>∃g,x=.slice (some ⟨g,0,none⟩) 1 1/\Bk w2 g 26 #[.slice A m c],fun v w2=>∃A' c',v=.slice A' z c'/\Made w2 w.heap.size 3 1 A' z c' (L.map nv),fun v w2=>∃A' c',v=.slice A' z c'/\Made w2 w.heap.size 3 1 A' z c' (L.map nv)]) _ _ rfl kR vR (fun _ _=>VisK.trans) (cL (by repeat' (first | exact gV _ _ | exact iX _ | exact fun _ _ _ ⟨g,h1,h2⟩ k=>⟨g,h1,k.1.bk h2 dC dC⟩| exact fun _ _ _ ⟨A',c',h1,h2⟩ k=>⟨A',c',h1,k.1.made h2 dC dC⟩|(refine zAe.2 ⟨?_,?_⟩)|(intro p hp;cases hp)))) ?_ ?_
 · refine aM ?_;refine pH 0 (.pointer (some ⟨gs,0,none⟩)) ?_;refine pV 0 61 ?_;refine pV 1 62 ?_;refine sC (fun _ w5 hS _ _ _ hval _ _ _ hK=>?_) ?_
   · have e63:_=_:=hval 2 63 kR rfl;replace hS:(VB B) W w5:=bD hS;have hbk5:=hS.1.bk Hdw.out.st.blk dC dC;have c9:=hbk5.cell 0;go_simp;exact hK _ _ vR rfl
   refine pH 3 (.pointer (some ⟨w.heap.size,0,none⟩)) ?_;refine sC (fun _ w5 hS _ _ _ hval _ _ _ hK=>?_) ?_
   · have e65:_=_:=hval 4 65 kR rfl;replace hS:(VB B) W w5:=bD hS;have hbx5:=hS.1.bk Hdw.out.box dC dC;have c9:=hbx5.cell 3;go_simp;exact hK _ _ vR rfl
   refine sC (fun _ _ _ _ _ _ hval _ _ _ hK=>?_) ?_
   · have e66:_=_:=hval 5 66 kR rfl;go_simp;exact hK _ _ (vR.alloc _) ⟨_,rfl,Bk.new _ _ _⟩
   refine sC (fun ev w5 hS _ _ _ hval _ _ _ hK=>?_) ?_
   · have e64:_=_:=hval 3 64 kR rfl;have p67:(fun x w2=>∃g,x=.slice (some ⟨g,0,none⟩) 1 1/\Bk w2 g 26 #[.slice A m c]) (ev (.tmp 67)) w5:=hval 6 67 kR rfl;replace hS:(VB B) W w5:=bD hS;obtain ⟨g5,e67,hb5⟩:=p67;have hws:=hS.1.size;go_simp;refine (Hall.out w5 g5 hS hb5).mono ?_;rintro e w8 ⟨A',c',rfl,hm8,hv8⟩;exact hK _ _ hv8 ⟨A',c',rfl,⟨bF hm8.own (zAk Hdw.out.low.size hws),hm8.rd,hm8.cap,hm8.max⟩⟩
   refine sC (fun ev w5 _ _ _ _ hval _ _ _ hK=>?_) ?_
   · have p68:(fun v w2=>∃A' c',v=.slice A' z c'/\Made w2 w.heap.size 3 1 A' z c' (L.map nv)) (ev (.tmp 68)) w5:=hval 7 68 kR rfl;obtain ⟨A',c',e68,hm9⟩:=p68;go_simp;exact hK _ _ vR ⟨A',c',rfl,hm9⟩
   exact aC
 · intro ev w6 hS hval;replace hS:(VB B) W w6:=bD hS;have p7:(fun v w2=>∃A' c',v=.slice A' z c'/\Made w2 w.heap.size 3 1 A' z c' (L.map nv)) (ev (.tmp 7)) w6:=hval 8 7 rfl;simp only [aI,zq1,zq2,Act.put,zq3,zq4,zq5];clear hval;obtain ⟨A',c',e7,hm9⟩:=p7;rw [e7];clear e7;have s1:=hS.1.bk Hdw.out.res dC dC;have hlf:=(LFS.of_below B gs own Hdw.out.low).trans (LFS.of_vb gs own hS);have hst1:=Hdw.out.st.vb hS.1;have hz:∀a,A'=some a->own a.block=0:=fun a ha=>by subst ha;have:=(hm9.own.lt (k:=a.block) rfl).1;by_cases c3:own a.block=0;exact c3;exact absurd (Hdw.out.fr a.block this) c3
   have j0:=s1.cell 0;have j1:=s1.cell 1;have j2:=s1.cell 2;have j3:=s1.cell 3;have f0:=s1.frozen 0;have f1:=s1.frozen 1;have f2:=s1.frozen 2;have f3:=s1.frozen 3;obtain ⟨S1,Hst1,Hlf,Hzz,Hm9⟩:=hqq5 s1 hst1 hlf hz hm9;clear s1 hst1 hlf hS hz hm9 Hall;go_wp2_with fail;exact lI (.inl rfl) rfl S1.out Hst1.out Hlf.out Hdw.out.bs oM Hdw.out.ap rfl Hz.out (bB _ _ _) Hm9.out (fun a ha=>by cases ha) Hzz.out
theorem aAT (B:Nat) (own:Nat->Nat) (gs gl most rate:Nat) (t D T2:List UInt8) (r:Told) (p n:Int) (A:Option Addr) (m c:Nat) (w:World) (h2:doM t (most:Int) 1 p n D=(T2,r)) (h:StAt w B own gs gl most rate t) (hD:ArgZ w B own gs A m D) (hm:m<=1000000) (hT:TabW w) (hB0:1 < B) (h127:T2.length<=127):
 Calls Tryz.prog 22 #[gs,bT 1 p n A m c] w (StDone w B own gs most rate T2 r):=by
 have hDl:D.length=m:=by simpa using hD.1.1
 have htab:∀W,LFS B gs w W own own->TabW W:=fun W k=>hT.below (k.below h.size) hB0;unfold doM at h2;rw [zBx rfl] at h2;cases hh:eD t.length p 0 with
 | false=>
   rw [zBx hh] at h2;cases h2;exact fA B own gs gl most rate t t 1 p n A m c 2 w h (.inl rfl) fun W hst k=>(jS B own gs gl most rate _ t 1 p n A m c W hst rfl (by simpa [oH] using hh)).mono fun e w' ⟨x1,x2⟩=>⟨x1,own,hst.vb (Vis.of_below x2),LFS.of_below B gs own x2⟩
 | true=>
   rw [zBw (by rw [hh];decide)] at h2;obtain ⟨a,b,rfl,hb,hab⟩:=kX hh;by_cases hf:(most:Int) -(t.length:Int) < (D.length:Int);rw [zBx hf] at h2;cases h2;exact fA B own gs gl most rate t t 1 _ n A m c 3 w h (.inl rfl) fun W hst k=>(yW B own gs gl most rate _ t a n A m c W hst rfl oM oM).mono fun e w' ⟨x1,x2⟩=>⟨x1,own,hst.vb x2.1,LFS.of_vb gs own x2⟩;rw [zBw hf] at h2;cases h2;rw [zBr] at h127⊢;have hl:=xJ t D (k:=a) oM;exact fA B own gs gl most rate t _ 1 _ n A m c 0 w h (.inl rfl) fun W hst k=>aAa B own gs gl most rate _ t D a n A m c W hst rfl (hD.step k) oM oM (by rw [<-hDl,<-hl];exact h127)
theorem aG8 (B:Nat) (own:Nat->Nat) (gs gl most rate:Nat) (t D T2:List UInt8) (r:Told) (p n:Int) (A:Option Addr) (m c:Nat) (w:World) (h2:doM t (most:Int) 2 p n D=(T2,r)) (h:StAt w B own gs gl most rate t) (hD:ArgZ w B own gs A m D) (hm:m<=1000000) (hT:TabW w) (hB0:1 < B) (h127:T2.length<=127):
 Calls Tryz.prog 22 #[gs,bT 2 p n A m c] w (StDone w B own gs most rate T2 r):=by
 have hDl:D.length=m:=by simpa using hD.1.1
 have htab:∀W,LFS B gs w W own own->TabW W:=fun W k=>hT.below (k.below h.size) hB0;unfold doM at h2;rw [zBw dC] at h2;rw [zBx rfl] at h2;cases hh:eD t.length p n with
 | false=>
   rw [zBx hh] at h2;cases h2;exact fA B own gs gl most rate t t 2 p n A m c 2 w h (.inr (.inl rfl)) fun W hst k=>(jS B own gs gl most rate _ t 2 p n A m c W hst rfl (by simpa [oH] using hh)).mono fun e w' ⟨x1,x2⟩=>⟨x1,own,hst.vb (Vis.of_below x2),LFS.of_below B gs own x2⟩
 | true=>
   rw [zBw (by rw [hh];decide)] at h2;cases h2;obtain ⟨a,b,rfl,rfl,hab⟩:=kX hh;rw [zBr,zBr];exact fA B own gs gl most rate t _ 2 _ _ A m c 0 w h (.inr (.inl rfl)) fun W hst k=>aAb B own gs gl most rate _ t a b A m c W hst (htab W k) hB0 rfl hab
theorem aG7 (B:Nat) (own:Nat->Nat) (gs gl most rate:Nat) (t D T2:List UInt8) (r:Told) (p n:Int) (A:Option Addr) (m c:Nat) (w:World) (h2:doM t (most:Int) 3 p n D=(T2,r)) (h:StAt w B own gs gl most rate t) (hD:ArgZ w B own gs A m D) (hm:m<=1000000) (hT:TabW w) (hB0:1 < B) (h127:T2.length<=127):
 Calls Tryz.prog 22 #[gs,bT 3 p n A m c] w (StDone w B own gs most rate T2 r):=by
 have hDl:D.length=m:=by simpa using hD.1.1
 have htab:∀W,LFS B gs w W own own->TabW W:=fun W k=>hT.below (k.below h.size) hB0;unfold doM at h2;rw [zBw dC] at h2;rw [zBw dC] at h2;rw [zBw dC] at h2;rw [zBx rfl] at h2;cases hh:eD t.length p (D.length:Int) with
 | false=>
   rw [zBx hh] at h2;cases h2;exact fA B own gs gl most rate t t 3 p n A m c 2 w h (.inr (.inr rfl)) fun W hst k=>(jS B own gs gl most rate _ t 3 p n A m c W hst rfl (by simpa [oH,hDl] using hh)).mono fun e w' ⟨x1,x2⟩=>⟨x1,own,hst.vb (Vis.of_below x2),LFS.of_below B gs own x2⟩
 | true=>
   rw [zBw (by rw [hh];decide)] at h2;cases h2;obtain ⟨a,b,rfl,hb,hab⟩:=kX hh;rw [zBr];exact fA B own gs gl most rate t _ 3 _ n A m c 0 w h (.inr (.inr rfl)) fun W hst k=>zZ B own gs gl most rate _ t D a n A m c W hst (htab W k) hB0 rfl (hD.step k) oM
theorem aG6 (B:Nat) (own:Nat->Nat) (gs gl most rate:Nat) (t D T2:List UInt8) (r:Told) (p n:Int) (A:Option Addr) (m c:Nat) (w:World) (h2:doM t (most:Int) 5 p n D=(T2,r)) (h:StAt w B own gs gl most rate t) (hD:ArgZ w B own gs A m D) (hm:m<=1000000) (hT:TabW w) (hB0:1 < B) (h127:T2.length<=127):
 Calls Tryz.prog 22 #[gs,bT 5 p n A m c] w (StDone w B own gs most rate T2 r):=by
 have hDl:D.length=m:=by simpa using hD.1.1
 have htab:∀W,LFS B gs w W own own->TabW W:=fun W k=>hT.below (k.below h.size) hB0;unfold doM at h2;rw [zBw dC] at h2;rw [zBw dC] at h2;rw [zBx rfl] at h2;cases hh:eD t.length p n with
 | false=>
   rw [zBx hh] at h2;cases h2;exact sL B own gs gl most rate t p n A m c w h [] 2 0 rfl fun W hst k=>(aBR B gl rate _ t p n W hst.tp rfl hh).mono fun e w' ⟨x1,x2⟩=>by subst x2;exact ⟨none,0,x1,bB _ _ _,VisK.refl _ _⟩
 | true=>
   rw [zBw (by rw [hh];decide)] at h2;cases h2;obtain ⟨a,b,rfl,rfl,hab⟩:=kX hh;rw [zBr,zBr];exact sL B own gs gl most rate t _ _ A m c w h ((t.drop a).take b) 0 b (by rw [zAj,zAw];omega) fun W hst k=>aHc B gl rate t a b W hst.tp (htab W k) hB0 hab
theorem aAS (B:Nat) (own:Nat->Nat) (gs gl most rate:Nat) (t D T2:List UInt8) (r:Told) (p n:Int) (A:Option Addr) (m c:Nat) (w:World) (h2:doM t (most:Int) 7 p n D=(T2,r)) (h:StAt w B own gs gl most rate t) (hD:ArgZ w B own gs A m D) (hm:m<=1000000) (hT:TabW w) (hB0:1 < B) (h127:T2.length<=127):
 Calls Tryz.prog 22 #[gs,bT 7 p n A m c] w (StDone w B own gs most rate T2 r):=by
 have hDl:D.length=m:=by simpa using hD.1.1
 have htab:∀W,LFS B gs w W own own->TabW W:=fun W k=>hT.below (k.below h.size) hB0;unfold doM at h2;rw [zBw dC] at h2;rw [zBw dC] at h2;rw [zBw dC] at h2;rw [zBw dC] at h2;rw [zBw dC] at h2;rw [zBw dC] at h2;rw [zBx rfl] at h2;cases h2;exact yY B own gs gl most rate t D p n A m c w h hD hm
theorem aAR (B:Nat) (own:Nat->Nat) (gs gl most rate:Nat) (t D T2:List UInt8) (r:Told) (p n:Int) (A:Option Addr) (m c:Nat) (w:World) (h2:doM t (most:Int) 8 p n D=(T2,r)) (h:StAt w B own gs gl most rate t) (hD:ArgZ w B own gs A m D) (hm:m<=1000000) (hT:TabW w) (hB0:1 < B) (h127:T2.length<=127):
 Calls Tryz.prog 22 #[gs,bT 8 p n A m c] w (StDone w B own gs most rate T2 r):=by
 have hDl:D.length=m:=by simpa using hD.1.1
 have htab:∀W,LFS B gs w W own own->TabW W:=fun W k=>hT.below (k.below h.size) hB0;unfold doM at h2;rw [zBw dC] at h2;rw [zBw dC] at h2;rw [zBw dC] at h2;rw [zBw dC] at h2;rw [zBw dC] at h2;rw [zBw dC] at h2;rw [zBw dC] at h2;rw [zBx rfl] at h2;cases h2;exact mY B own gs gl most rate t p n A m c w h
theorem yX (B:Nat) (own:Nat->Nat) (gs gl most rate:Nat) (t D T2:List UInt8) (r:Told) (kind p n:Int) (A:Option Addr) (m c:Nat) (w:World) (h2:doM t (most:Int) kind p n D=(T2,r)) (h:StAt w B own gs gl most rate t) (hD:ArgZ w B own gs A m D) (hm:m<=1000000) (hT:TabW w) (hB0:1 < B) (h127:T2.length<=127):
 Calls Tryz.prog 22 #[gs,bT kind p n A m c] w (StDone w B own gs most rate T2 r):=by
 have h2':=h2;unfold doM at h2';by_cases k1:kind=1;subst k1;exact aAT B own gs gl most rate t D T2 r p n A m c w h2 h hD hm hT hB0 h127;rw [zBw k1] at h2';by_cases k2:kind=2;subst k2;exact aG8 B own gs gl most rate t D T2 r p n A m c w h2 h hD hm hT hB0 h127;rw [zBw k2] at h2';by_cases k5:kind=5;subst k5;exact aG6 B own gs gl most rate t D T2 r p n A m c w h2 h hD hm hT hB0 h127;rw [zBw k5] at h2';by_cases k3:kind=3;subst k3;exact aG7 B own gs gl most rate t D T2 r p n A m c w h2 h hD hm hT hB0 h127;rw [zBw k3] at h2';by_cases k4:kind=4;subst k4;rw [zBx rfl] at h2';cases h2';exact jH B own gs gl most rate _ t p n A m c w h rfl;rw [zBw k4] at h2';by_cases k6:kind=6;subst k6;rw [zBx rfl] at h2';cases h2';exact aAc B own gs gl most rate t D p n A m c w h hD hm;rw [zBw k6] at h2';by_cases k7:kind=7;subst k7;exact aAS B own gs gl most rate t D T2 r p n A m c w h2 h hD hm hT hB0 h127;rw [zBw k7] at h2';by_cases k8:kind=8;subst k8;exact aAR B own gs gl most rate t D T2 r p n A m c w h2 h hD hm hT hB0 h127;rw [zBw k8] at h2';cases h2';exact aDj B own gs gl most rate t kind p n A m c w h fun k a b=>by omega
theorem aDi (kind p n:Int) (A:Option Addr) (m c:Nat) (w:World):
 Calls Tryz.prog 22 #[.pointer none,bT kind p n A m c] w fun e w'=>e=.returned (.agg #[.int .i64 6,.int .i64 0,.slice none 0 0,.slice none 0 0])/\Below w.heap.size w w':=by
 unfold bT;go_enter Tryz.func22,Tryz.ntmps22;go_wp2;have hb:=((Below.refl w.heap.size w).alloc nL (.cells #[.int .i64 kind,.int .i64 p,.int .i64 n,.slice A m c] 46)).alloc (by simp) (.cells #[.int .i64 6,.int .i64 0,.slice none 0 0,.slice none 0 0] 50);have hbk:Bk ((w.alloc (.cells #[.int .i64 kind,.int .i64 p,.int .i64 n,.slice A m c] 46)).alloc (.cells #[.int .i64 6,.int .i64 0,.slice none 0 0,.slice none 0 0] 50)) (w.heap.size+1) 50 #[.int .i64 6,.int .i64 0,.slice none 0 0,.slice none 0 0]:=by simpa using Bk.new (w.alloc (.cells #[.int .i64 kind,.int .i64 p,.int .i64 n,.slice A m c] 46)) 50 #[.int .i64 6,.int .i64 0,.slice none 0 0,.slice none 0 0]
 exact bodyPost_ret (results_cell_row (p:=4) (ty:=50) rfl _ _ (w.heap.size+1) 50 #[.int .i64 6,.int .i64 0,.slice none 0 0,.slice none 0 0] (0,0) _ rfl hbk Tryz.underlying50 rfl kR) rfl ⟨rfl,hb⟩
def sJ (w:World) (B:Nat) (own:Nat->Nat) (gs most rate:Nat) (T:List UInt8) (code num:Int) (data:List UInt8) (places:List Nat) (n1 n2:Nat) (e:Ending) (w':World):Prop:=
 ∃A1 c1 A2 c2 own' gl',e=.returned (.agg #[.int .i64 code,.int .i64 num,.slice A1 n1 c1,.slice A2 n2 c2])/\StAt w' B own' gs gl' most rate T/\LFS B gs w w' own own'/\MadeZ w' own' gs 5 A1 n1 c1 (data.map bv)/\MadeZ w' own' gs 3 A2 n2 c2 (places.map nv)
theorem StDone.v {w w':World} {B gs most rate:Nat} {own:Nat->Nat} {T:List UInt8} {code num:Int} {data:List UInt8} {places:List Nat} {n1 n2:Nat} {e:Ending} (hgs:gs < w.heap.size) (e1:data.length=n1) (e2:places.length=n2) (h:StDone w B own gs most rate T ⟨code,num,data,places⟩ e w'):sJ w B own gs most rate T code num data places n1 n2 e w':=by
 subst e1 e2;obtain ⟨A1,c1,A2,c2,own',gl',rfl,h3,h4,h5,h6,z1,z2⟩:=h;refine ⟨A1,c1,A2,c2,own',gl',rfl,h3,h4,⟨⟨bF h5.own (zAp _),h5.rd,h5.cap,h5.max⟩,fun a ha=>?_⟩,⟨⟨bF h6.own (zAp _),h6.rd,h6.cap,h6.max⟩,fun a ha=>?_⟩⟩;have h0:=z1 a ha;subst ha;have h7:=h5.own.lt (k:=a.block) rfl;exact ⟨h7.2,h0,by omega⟩;have h0:=z2 a ha;subst ha;have h7:=h6.own.lt (k:=a.block) rfl;exact ⟨h7.2,h0,by omega⟩
theorem qO (B:Nat) (own:Nat->Nat) (gs gl most rate:Nat) (t D T2:List UInt8) (p n:Int) (A:Option Addr) (m c:Nat) (code num:Int) (data:List UInt8) (places:List Nat) (n1 n2:Nat) (w:World) (h2:doM t (most:Int) 1 p n D=(T2,⟨code,num,data,places⟩)) (e1:data.length=n1) (e2:places.length=n2)
 (h:StAt w B own gs gl most rate t) (hD:ArgZ w B own gs A m D) (hm:m<=1000000) (hT:TabW w) (hB0:1 < B) (h127:T2.length<=127):
 Calls Tryz.prog 22 #[gs,.agg #[.int .i64 1,.int .i64 p,.int .i64 n,.slice A m c]] w (sJ w B own gs most rate T2 code num data places n1 n2):=
 (aAT B own gs gl most rate t D T2 _ p n A m c w h2 h hD hm hT hB0 h127).mono fun e w'=>StDone.v h.blk.lt e1 e2
theorem aE3 (B:Nat) (own:Nat->Nat) (gs gl most rate:Nat) (t D T2:List UInt8) (p n:Int) (A:Option Addr) (m c:Nat) (code num:Int) (data:List UInt8) (places:List Nat) (n1 n2:Nat) (w:World) (h2:doM t (most:Int) 7 p n D=(T2,⟨code,num,data,places⟩)) (e1:data.length=n1) (e2:places.length=n2)
 (h:StAt w B own gs gl most rate t) (hD:ArgZ w B own gs A m D) (hm:m<=1000000) (hT:TabW w) (hB0:1 < B) (h127:T2.length<=127):
 Calls Tryz.prog 22 #[gs,.agg #[.int .i64 7,.int .i64 p,.int .i64 n,.slice A m c]] w (sJ w B own gs most rate T2 code num data places n1 n2):=
 (aAS B own gs gl most rate t D T2 _ p n A m c w h2 h hD hm hT hB0 h127).mono fun e w'=>StDone.v h.blk.lt e1 e2
theorem aE2 (B:Nat) (own:Nat->Nat) (gs gl most rate:Nat) (t D T2:List UInt8) (p n:Int) (A:Option Addr) (m c:Nat) (code num:Int) (data:List UInt8) (places:List Nat) (n1 n2:Nat) (w:World) (h2:doM t (most:Int) 8 p n D=(T2,⟨code,num,data,places⟩)) (e1:data.length=n1) (e2:places.length=n2)
 (h:StAt w B own gs gl most rate t) (hD:ArgZ w B own gs A m D) (hm:m<=1000000) (hT:TabW w) (hB0:1 < B) (h127:T2.length<=127):
 Calls Tryz.prog 22 #[gs,.agg #[.int .i64 8,.int .i64 p,.int .i64 n,.slice A m c]] w (sJ w B own gs most rate T2 code num data places n1 n2):=
 (aAR B own gs gl most rate t D T2 _ p n A m c w h2 h hD hm hT hB0 h127).mono fun e w'=>StDone.v h.blk.lt e1 e2
theorem yC {W:World} {B gs gl most rate:Nat} {own:Nat->Nat} {t:List UInt8} (h:StAt W B own gs gl most rate t) (cs:Array Value) (fr:Nat×Nat) (bs:List UInt8) (n:Nat) (hcs:cs.toList=bs.map bv) (hn:bs.length=n):ArgZ (W.alloc (.cells cs 5 fr)) B own gs (some ⟨W.heap.size,0,none⟩) n bs:=by
 have hsz:cs.size=n:=by rw [<-Array.length_toList,hcs];simpa using hn
 have h1:=aFp W 5 cs fr n hsz;rw [hcs] at h1;refine ⟨h1.mono (by simp),fun _ a ha=>?_⟩;injection ha with ha;subst ha;refine .inr ⟨⟨h.fresh nL,by have:=h.blk.lt;show W.heap.size≠gs;omega⟩,cs,fr,?_⟩;exact heap_alloc_new W _
theorem aI4 {w:World} {B gs:Nat} {own:Nat->Nat}:ArgZ w B own gs none 0 []:=⟨Rd.nil _ _ _ _,fun h=>absurd h oM⟩
def Kp (w:World) (own:Nat->Nat) (gs g:Nat) (t:TypeId) (cs:Array Value):Prop:=Bk w g t cs/\Ap own gs g
theorem Kp.step {w w':World} {B gs g:Nat} {own own':Nat->Nat} {t:TypeId} {cs:Array Value} (h:Kp w own gs g t cs) (k:LFS B gs w w' own own') (h1:t≠202) (h2:t≠154):Kp w' own' gs g t cs:=⟨k.bk h.1 h.2.col h.2.ne h1 h2,h.2.step k h.1.lt⟩
theorem Kp.new {W:World} {B gs gl most rate:Nat} {own:Nat->Nat} {tx:List UInt8} (h:StAt W B own gs gl most rate tx) (t:TypeId) (cs:Array Value):Kp (W.alloc (.cells cs t)) own gs W.heap.size t cs:=⟨Bk.new W t cs,h.fresh nL,by have:=h.blk.lt;omega⟩
theorem aE1 (B:Nat) (own:Nat->Nat) (gs gl most rate:Nat) (t:List UInt8) (w:World) (h:StAt w B own gs gl most rate t):
 Calls Tryz.prog 27 #[gs] w fun e w'=>e=.returned (.int .i64 (most:Int))/\w=w':=by
 have c1:=h.blk.cell 1;clear h;go_enter Tryz.func27,Tryz.ntmps27;go_wp2_with fail;go_ret;exact ⟨rfl,rfl⟩
theorem zY (w:World):Calls Tryz.prog 27 #[.pointer none] w fun e w'=>e=.returned (.int .i64 0)/\w=w':=by
 go_enter Tryz.func27,Tryz.ntmps27;go_wp2_with fail;go_ret;exact ⟨rfl,rfl⟩
theorem yT (B:Nat) (own:Nat->Nat) (gs gl most rate:Nat) (t:List UInt8) (w:World) (h:StAt w B own gs gl most rate t):
 Calls Tryz.prog 28 #[gs] w fun e w'=>e=.returned (.int .i64 (rate:Int))/\w=w':=by
 have c0:=h.blk.cell 0;have hr:Calls Tryz.prog 12 #[gl] w fun e w'=>e=.returned (.int .i64 (rate:Int))/\w=w':=by obtain ⟨rs,gk,gp,pr,hs,hl,hrt,hz0,hn127⟩:=h.tp;exact nC B gl gk gp _ rate _ pr w hl
 clear h;go_enter Tryz.func28,Tryz.ntmps28;go_wp2_with fail;refine hr.mono ?_;rintro e w1 ⟨rfl,rfl⟩;clear hr;go_wp2_with fail;go_ret;exact ⟨rfl,rfl⟩
def mX (w:World) (B:Nat) (L:List Nat) (n:Nat) (e:Ending) (w':World):Prop:=∃A c,e=.returned (.slice A n c)/\Made w' w.heap.size 3 1 A n c (L.map sv)/\VB B w w'
theorem yV (B:Nat) (own:Nat->Nat) (gs gl most rate n:Nat) (t:List UInt8) (rs:List Nat) (w:World) (h:StAt w B own gs gl most rate t) (hs:IsSuf (aG t) rs) (hn:t.length+1=n):
 Calls Tryz.prog 73 #[gs] w (mX w B (aE (aG t) rs) n):=by
 have c0:=h.blk.cell 0;have hr:Calls Tryz.prog 16 #[gl] w (mX w B (aE (aG t) rs) n):=by
  obtain ⟨rs',gk,gp,pr,hs',hl,hrt,hz0,hn127⟩:=h.tp;obtain rfl:=hs'.unique hs;have hll:(aE (aG t) rs').length=n:=by rw [bU,hs.len,aT,hn]
  have:=sV B gl gk gp _ rate _ pr w hl (dM (eT t)) (by rw [hll];omega);unfold jG at this;rw [hll] at this;exact this
 unfold mX at hr⊢;clear h hs hn;go_enter Tryz.func73,Tryz.ntmps73;go_wp2_with fail;refine hr.mono ?_;rintro e w1 ⟨A,c,rfl,hm,hv⟩;obtain ⟨Hm,Hv⟩:=hqq2 hm hv;clear hr hm hv;go_wp2_with fail;go_ret;exact ⟨A,c,rfl,Hm.out,Hv.out⟩
end Go.Proofs.YthldmddkfbijhaaGreatDoor
