/- Lemmas of the walk. Conditions: each its own. -/
import Derived.Test.YthldmddkfbijhaaGreatDoorPsr30
import Derived.Test.YthldmddkfbijhaaGreatDoorProg
import Derived.Test.YthldmddkfbijhaaGreatDoorSht
import Derived.Test.YthldmddkfbijhaaGreatDoorShl
import Derived.Test.YthldmddkfbijhaaGreatDoorShi
import Derived.Test.YthldmddkfbijhaaGreatDoorShs
set_option linter.all false
set_option maxRecDepth 100000
set_option maxHeartbeats 1000000
namespace Go.Proofs.YthldmddkfbijhaaGreatDoor
open Go.RowKit
theorem StAt.save {w:World} {Bw gs gl most rate:Nat} {own:Nat->Nat} {t:List UInt8} {rs:List Nat} (h:StAt w Bw own gs gl most rate t) (hs:IsSuf (aG t) rs):
 Calls Tryz.prog 10 #[gl,(most:Int)] w (fG w Bw (fC (aE (aG t) rs) rs most rate t.length)):=by
 obtain ⟨rs',gk,gp,pr,hs',hl,hrt,hz0,hn127⟩:=h.tp;obtain rfl:=hs'.unique hs;exact sM Bw gl gk gp rate most t rs' pr w hl hrt hs' hn127 h.r1 h.r2 h.len h.max
theorem iP (Bw:Nat) (own:Nat->Nat) (gs gl most rate:Nat) (t:List UInt8) (rs:List Nat) (w:World) (h:StAt w Bw own gs gl most rate t) (hs:IsSuf (aG t) rs):
 Calls Tryz.prog 23 #[gs] w (fG w Bw (fC (aE (aG t) rs) rs most rate t.length)):=by
 have hsave:∀w1,VB Bw w w1->Calls Tryz.prog 10 #[gl,(most:Int)] w1 (fG w1 Bw (fC (aE (aG t) rs) rs most rate t.length)):=fun w1 k=>(h.vb k.1).save hs;obtain ⟨bs,hbs⟩:=eqx (fC (aE (aG t) rs) rs most rate t.length);rw [hbs] at hsave⊢;obtain ⟨nb,hK⟩:=eqx bs.length;obtain ⟨Hsave,HK,Hblk⟩:=hqq3 hsave hK h.blk;clear hsave h hs hbs hK;unfold fG;rw [HK.out];go_enter Tryz.func23,Tryz.ntmps23;go_wp2_with fail;refine wp_region_any kR ?_;refine aO [6,7,8,9,10,11,12,13,14,15,16,2,3] (VB Bw) (Vs [is gs,is gs,is gs,is gl,is gs,is gs,is (.pointer (some ⟨gs,1,none⟩)),is (most:Int),fun v w2=>∃A' c',v=.tuple #[.slice A' nb c',.int .i64 0]/\Made w2 w.heap.size 5 1 A' nb c' (bs.map bv),fun v w2=>∃A' c',v=.slice A' nb c'/\Made w2 w.heap.size 5 1 A' nb c' (bs.map bv),is (.int .i64 0),fun v w2=>∃A' c',v=.slice A' nb c'/\Made w2 w.heap.size 5 1 A' nb c' (bs.map bv),is (.int .i64 0)]) _ _ rfl kR vR (fun _ _=>VisK.trans) (cL (by repeat' (first | exact gV _ _ | exact iX _ | exact fun _ _ _ ⟨A,c,h1,h2⟩ k=>⟨A,c,h1,k.1.made h2 dC dC⟩|(refine zAe.2 ⟨?_,?_⟩)|(intro p hp;cases hp)))) ?_ ?_
 · refine aM ?_;refine pH 0 (.pointer (some ⟨gs,0,none⟩)) ?_;refine pV 0 6 ?_;refine pV 1 7 ?_;refine sC (fun _ w5 hS _ _ _ hval _ _ _ hK=>?_) ?_
   · have e8:_=_:=hval 2 8 kR rfl;replace hS:(VB Bw) w w5:=bD hS;have hb5:=hS.1.bk Hblk.out dC dC;have c9:=hb5.cell 0;go_simp;exact hK _ _ vR rfl
   refine pH 0 (.pointer (some ⟨gs,0,none⟩)) ?_;refine pV 4 10 ?_;refine pV 5 11 ?_;refine sC (fun _ w5 hS _ _ _ hval _ _ _ hK=>?_) ?_
   · have e12:_=_:=hval 6 12 kR rfl;replace hS:(VB Bw) w w5:=bD hS;have hb5:=hS.1.bk Hblk.out dC dC;have c9:=hb5.cell 1;go_simp;exact hK _ _ vR rfl
   refine sC (fun _ w5 hS _ _ _ hval _ _ _ hK=>?_) ?_
   · have e9:_=_:=hval 3 9 kR rfl;have e13:_=_:=hval 7 13 kR rfl;replace hS:(VB Bw) w w5:=bD hS;go_simp;have hsv:=Hsave.out w5 hS;unfold fG at hsv;rw [HK.out] at hsv;refine hsv.mono ?_;rintro e w8 ⟨A',c',rfl,hm9,hv9⟩;exact hK _ _ hv9 ⟨A',c',rfl,hm9.mono hS.1.size⟩
   refine sC (fun ev w5 _ _ _ _ hval _ _ _ hK=>?_) ?_
   · have p14:(fun v w2=>∃A' c',v=.tuple #[.slice A' nb c',.int .i64 0]/\Made w2 w.heap.size 5 1 A' nb c' (bs.map bv)) (ev (.tmp 14)) w5:=hval 8 14 kR rfl;obtain ⟨A',c',e14,hm9⟩:=p14;go_simp;exact hK _ _ vR ⟨A',c',rfl,hm9⟩
   refine sC (fun ev w5 _ _ _ _ hval _ _ _ hK=>?_) ?_
   · have p14:(fun v w2=>∃A' c',v=.tuple #[.slice A' nb c',.int .i64 0]/\Made w2 w.heap.size 5 1 A' nb c' (bs.map bv)) (ev (.tmp 14)) w5:=hval 8 14 kR rfl;obtain ⟨A',c',e14,hm9⟩:=p14;go_simp;exact hK _ _ vR rfl
   refine sC (fun ev w5 _ _ _ _ hval _ _ _ hK=>?_) ?_
   · have p15:(fun v w2=>∃A' c',v=.slice A' nb c'/\Made w2 w.heap.size 5 1 A' nb c' (bs.map bv)) (ev (.tmp 15)) w5:=hval 9 15 kR rfl;obtain ⟨A',c',e15,hm9⟩:=p15;go_simp;exact hK _ _ vR ⟨A',c',rfl,hm9⟩
   refine pV 10 16 ?_;exact aC
 · intro ev w6 hS hval;replace hS:(VB Bw) w w6:=bD hS;have p2:(fun v w2=>∃A' c',v=.slice A' nb c'/\Made w2 w.heap.size 5 1 A' nb c' (bs.map bv)) (ev (.tmp 2)) w6:=hval 11 2 rfl;have e3:ev (.tmp 3)=.int .i64 0:=hval 12 3 rfl;simp only [aI,zq1,zq2,Act.put,zq3,zq4,zq5];rw [e3];clear hval;obtain ⟨A',c',e2,hm⟩:=p2;rw [e2];obtain ⟨Hm,HS⟩:=hqq2 hm hS;clear hm hS;go_wp2_with fail;go_ret2;exact ⟨A',c',rfl,Hm.out,HS.out⟩
section
open Go
theorem tD {P:Program} {ops:Array Oper} {Q:Exit->Act->World->Prop} {md:Region.Mode} (n:Nat) (ds:List Nat) (F:Nat->Prop) (J:Nat) (rd:List Nat) (pre:World->Prop) (pJ:Value->World->Prop) (l:List (Value->World->Prop)) (a0:Act) (W0:World)
 (hds:(ops.toList.take n).filterMap (·.dst)=ds) (hn:n<=ops.size) (hlaid:jB md ops a0.tmps.size=true) (htail:((List.range ops.size).all fun k=>decide (k < n)||(List.range n).all fun i=>upB md ops ops.size k i)=true)
 (hrd:(rd.all fun i=>i==J||upB md ops ops.size J i)=true)
 (hp0:pre W0) (hp:∀w w',pre w->Keep F W0 w->Grow w w'->pre w') (hJ:Stb pJ) (hst:∀p∈l,yS F p)
 (hstep:∀j o,j < n->ops[j]?=some o->dH P ops Q md (Keep F W0) (pQ F J) (fun i w=>rd.contains i=true->pre w) (VsJ J pJ l) a0 j o)
 (hend:∀(ev:Operand->Value) w f,Keep F W0 w->(∀i d,i < n->((ops[i]?).bind (·.dst))=some d->VsJ J pJ l i (ev (.tmp d)) w)->(∀i,i < n->∃v,VsJ J pJ l i v w)->wpAny P md ops Q (ops.size - n+f) (bV n ops.size) (aI ev ds a0) w):
 wpAny P md ops Q ops.size (Array.replicate ops.size false) a0 W0:=by
 refine uB n ds (Keep F W0) (pQ F J) (fun i w=>rd.contains i=true->pre w) (VsJ J pJ l) a0 W0 hds hn hlaid htail (Keep.refl _ _) (fun _ _=>hp0) (fun j w w' _ h k=>h.trans (jY k)) (fun i j w w' _ hij hup hi hC k hir=>?_) (fun i j v w w' _ hij _ hv _ k=>?_) hstep hend;by_cases hj:j=J;exfalso;subst hj;have h2:=zBf.1 hrd i (by simpa using hir);simp only [hup,Bool.or_false,zCq] at h2;exact hij h2;exact hp w w' (hi hir) hC (k.2 hj);unfold VsJ at hv⊢;by_cases hi:i=J;rw [zBx hi] at hv⊢;exact hJ v w w' hv (k.2 fun e=>hij (hi.trans e.symm));rw [zBw hi] at hv⊢;exact wO hst i v w w' hv (jY k)
end
def aI9 (w:World) (B:Nat) (own:Nat->Nat) (gs most rate:Nat) (t:List UInt8) (e:Ending) (w':World):Prop:=
 e=.returned (.int .i64 0)/\∃own' gl',StAt w' B own' gs gl' most rate t/\LFS B gs w w' own own'
theorem yU (B:Nat) (own:Nat->Nat) (gs gl most0 rate0 most rate:Nat) (A:Option Addr) (n c:Nat) (t0 t:List UInt8) (rs:List Nat) (w:World) (h:StAt w B own gs gl most0 rate0 t0) (hs:IsSuf (aG t) rs) (hn:t.length<=127)
 (hr1:1<=rate) (hr2:rate<=64) (hm1:t.length<=most) (hm2:most<=2147483648) (hnn:(fC (aE (aG t) rs) rs most rate t.length).length=n) (hr:Rd w w.heap.size 1 A n ((fC (aE (aG t) rs) rs most rate t.length).map bv)) (hcl:n<=c) (hcm:c<=maxLen):
 Calls Tryz.prog 29 #[gs,.slice A n c] w (aI9 w B own gs most rate t):=by
 have hld:=aBN A c w.heap.size most rate t rs w hs hn hr1 hr2 hm1 hm2 (by rw [hnn];exact hr) nL (by rw [hnn];exact hcl) hcm;rw [hnn] at hld;unfold zG at hld;obtain ⟨Hld,H⟩:=hqq2 hld h;clear hld hr h;go_enter Tryz.func29,Tryz.ntmps29;go_wp2_with fail;refine Hld.out.mono ?_;rintro e w1 ⟨gl',rfl,⟨own1,ht1⟩,hv1⟩;have hws:=hv1.1.size;have Hv1:=lhd hv1;have hb1:=hv1.1.bk H.out.blk dC dC;have hgs:=H.out.blk.lt;obtain ⟨gh,hgh⟩:∃g,w1.heap.size=g:=⟨_,rfl⟩;have hal:Below w1.heap.size w1 (w1.alloc (.cells #[(most:Int),(rate:Int),(t.length:Int)] 30)):=bR.alloc nL _;have hh1:Bk (w1.alloc (.cells #[(most:Int),(rate:Int),(t.length:Int)] 30)) gh 30 #[(most:Int),(rate:Int),(t.length:Int)]:=hgh ▸ Bk.new _ _ _;have hb1':=hb1.below hal hb1.lt;obtain ⟨Ht1,Hal,Hb1,Hh1,Hne⟩:=hqq5 (ht1.vis (Vis.of_below hal)) hal hb1' hh1 (show ¬gh=gs by omega);clear ht1 hv1 Hld hal hh1 hb1 hb1';unfold rQ;go_wp2_with fail;generalize hW1:w1.alloc (.cells #[(most:Int),(rate:Int),(t.length:Int)] 30)=W1 at Ht1 Hal Hb1 Hh1⊢;clear hW1;refine wp_region_any kR ?_;refine tD 10 [18,19,20,21,22,23,24,25,26] (fun b=>b=gs) 7 [7] (fun w2=>Bk w2 gs 115 #[gl,(most0:Int)]) (fun _ w2=>Bk w2 gs 115 #[gl',.int .i64 (most0:Int)]) [is gs,is gs,is gl',is gh,is (most:Int),is gs,is gs,cR,is gs,is (.pointer (some ⟨gs,1,none⟩))] _ _ rfl dC kR kR kR (Hb1.out) (fun w1 w2 h _ hg=>Bk.below h hg h.lt) (fun _ _ _ h k=>Bk.below h k h.lt) tA0 ?_ ?_
 · refine bM ?_;refine pH3 0 (.pointer (some ⟨gs,0,none⟩)) ?_;refine pH3 0 (.pointer (some ⟨gs,0,none⟩)) ?_;refine pH3 5 (.pointer (some ⟨gl',0,none⟩)) ?_;refine pH3 6 (.pointer (some ⟨gh,0,none⟩)) ?_;refine sC3 (fun _ w5 hS _ _ _ _ hval _ _ _ hK=>?_) ?_
   · replace hS:Keep (fun b=>b=gs) W1 w5:=kD hS;have e21:_=_:=hval 3 21 kR rfl;have cc:=(Keep.bk hS Hh1.out Hne.out).cell 0;go_simp;exact kq hK rfl
   refine pV3 0 18 ?_;refine pV3 5 23 ?_;refine sC3 (fun _ _ _ hU _ _ _ hval _ _ _ hK=>?_) ?_
   · have hpre:=hU rfl;have e24:_=_:=hval 6 24 kR rfl;have e20:_=_:=hval 2 20 kR rfl;have f7:=hpre.frozen 0;have c7:=hpre.cell 0;go_simp;exact hK (.bool true) _ (aW (Keep.setCell (F:=fun b=>b=gs) (Keep.refl _ _) (p:=⟨gs,0,none⟩) (.inl rfl) _)) (hpre.set 0 _)
   refine pV3 1 19 ?_;refine pV3 8 25 ?_;exact aC
 · intro ev w6 f hS hval hall;replace hS:Keep (fun b=>b=gs) W1 w6:=kD hS;have e22:ev (.tmp 22)=.int .i64 (most:Int):=hval 4 22 dC rfl;have e26:ev (.tmp 26)=.pointer (some ⟨gs,1,none⟩):=hval 9 26 dC rfl;simp only [aI,zq1,zq2,Act.put,zq3,zq4,zq5];rw [e22];rw [e26];clear hval;obtain ⟨vJ,pJ0⟩:=hall 7 dC;have pJ:(fun _ w2=>Bk w2 gs 115 #[gl',.int .i64 (most0:Int)]) vJ w6:=pJ0;clear pJ0 hall;have hb6:=pJ;have f10:=hb6.frozen 1;have c10:=hb6.cell 1;obtain ⟨Hb6,Hk6⟩:=hqq2 hb6 hS;clear hb6;change wpAny Tryz.prog Region.Mode.any _ _ (1+f) (bV 10 11) _ w6;rw [zCs 1 f];refine aQ (f:=f) (i:=10) kR ?_;refine bW rfl rfl ?_;generalize hK:wpAny Tryz.prog _ _ _ f _=K5;go_simp;subst hK;refine bK kR ?_;have hk7:Keep (fun b=>b=gs) W1 (w6.setCell ⟨gs,1,none⟩ (.int .i64 (most:Int))):=Hk6.out.setCell (p:=⟨gs,1,none⟩) (.inl rfl) _;have hbk7:=Hb6.out.set 1 (.int .i64 (most:Int));obtain ⟨Hk7,Hb7⟩:=hqq2 hk7 hbk7;have hH:=H.out;go_wp2_with fail;go_ret;have hw1:=Hal.out.size;have hbw:=hH.size;have hbnd:=Ht1.out.bnd;have h0:∀b,b < w.heap.size->own1 b=0:=fun b hb=>Nat.eq_zero_of_not_pos fun f=>by have:=(hbnd b oM).1;omega
   refine ⟨rfl,own1,gl',⟨Hb7.out,hH.low,h0 _ hgs,(Ht1.out.far0 hk7 (fun b f=>by have f':b=gs:=f;subst f';exact h0 _ hgs)).low hbw,hn,hm1,hm2,hr1,hr2⟩,⟨fun b hb f=>absurd (h0 b hb) f,?_,?_⟩⟩;exact ((VisF.of_vis Hv1.out.1).trans' (VisF.of_vis (Vis.of_below Hal.out)) (fun b _ f=>f)).trans' (VisF.of_keep hk7) (fun b _ f=>.inr f)
   · have k1:Keep (fun b=>B<=b) w w1:=Hv1.out.2.mono fun b hb f=>by have f':w.heap.size<=b:=f;show B<=b;omega
     exact (k1.trans (Keep.of_below Hal.out)).trans (hk7.mono fun b _ f=>by have f':b=gs:=f;subst f';exact hH.low)
def TxtAt (w:World) (B gl:Nat) (t:List UInt8):Prop:=∃rs,IsSuf (aG t) rs/\LvW w B gl (aE (aG t) rs)/\t.length<=127
theorem TxtAt.vis {w w':World} {B gl:Nat} {t:List UInt8} (h:TxtAt w B gl t) (k:Vis w w'):TxtAt w' B gl t:=by
 obtain ⟨rs,h1,h2,h3⟩:=h;exact ⟨rs,h1,h2.vis k,h3⟩
theorem TxtAt.mono {w:World} {B B' gl:Nat} {t:List UInt8} (h:TxtAt w B gl t) (hB:B'<=B):TxtAt w B' gl t:=by
 obtain ⟨rs,h1,⟨gk,r1,r2,r3,h2,h4⟩,h3⟩:=h;exact ⟨rs,h1,⟨gk,r1,r2,r3,h2,h4.mono hB⟩,h3⟩
theorem TxtAt.le {w:World} {B gl:Nat} {t:List UInt8} (h:TxtAt w B gl t):t.length<=127:=by
 obtain ⟨rs,h1,h2,h3⟩:=h;exact h3
theorem Made.lf {w w':World} {B0 B:Nat} {own own':Nat->Nat} {e:TypeId} {sz n c:Nat} {A:Option Addr} {xs:List Value} (h:Made w B e sz A n c xs) (k:LF B0 w w' own own') (h1:e≠202) (h2:e≠154) (hB:∀b,B<=b->own b=0):Made w' B e sz A n c xs:=by
 have h3:w'.ownsRow B e sz (.slice A n c) n xs:=by refine ⟨h.own.1,?_⟩;rcases h.own.2 with q |⟨g,cap,cur,q1,q2,q3,q4⟩;exact .inl q;exact .inr ⟨g,cap,cur,q1,q2,k.vis.bk q3 h1 h2 (fun f=>f (hB g q2)),q4⟩
 exact ⟨h3,Rd.of_own h3,h.cap,h.max⟩
def StDone (w:World) (B:Nat) (own:Nat->Nat) (gs most rate:Nat) (T:List UInt8) (r:Told) (e:Ending) (w':World):Prop:=
 ∃A1 c1 A2 c2 own' gl',e=.returned (.agg (lF r A1 c1 A2 c2))/\StAt w' B own' gs gl' most rate T/\LFS B gs w w' own own'/\Made w' w.heap.size 5 1 A1 r.data.length c1 (r.data.map bv)/\Made w' w.heap.size 3 1 A2 r.places.length c2 (r.places.map nv)/\(∀a,A1=some a->own' a.block=0)/\(∀a,A2=some a->own' a.block=0)
section
variable {w w1 w' : World} {B gs gl most rate : Nat} {own own' : Nat -> Nat} {T : List UInt8}
theorem LFS.put (h:LFS B gs w w1 own own') {p:Addr} (hp:w.heap.size<=p.block) (hB:B<=p.block) (u:Value):LFS B gs w (w1.setCell p u) own own':=
 ⟨h.old,VisF.put h.vis (.inr hp) u,h.keep.setCell (.inr hp) u⟩
theorem StAt.put (h:StAt w B own gs gl most rate T) {p:Addr} (hp:Ap own gs p.block) (u:Value):StAt (w.setCell p u) B own gs gl most rate T:=
 h.far (Keep.setCell (F:=fun b=>b=p.block) (Keep.refl _ _) (.inl rfl) u) fun b e=>by have e':b=p.block:=e;rw [e'];exact hp
theorem jA {s i:Nat} {t e:TypeId} {cs xs:_} {B0 n c:Nat} {A:Option Addr} (h:Made w B0 e 1 A n c xs) (hb:Bk w s t cs) (hne:e≠t) (u:Value):Made (w.setCell ⟨s,i,none⟩ u) B0 e 1 A n c xs:=
 oR h fun b cs' hb'=>hb'.far (p:=⟨s,i,none⟩) (Bk.ne hb' hb hne) u
theorem lI {tmps:Array Value} {s:Nat} {a0 a1 a2 a3:Value} {A1 A2:Option Addr} {n1 c1 n2 c2:Nat} {code num:Int} {data:List UInt8} {places:List Nat} {ex:Exit} (hex:ex=.ret∨ex=.normal) (hp:tmps.getD 4 undef=.pointer (some ⟨s,0,none⟩)) (hb:Bk w1 s 50 #[a0,a1,a2,a3])
 (hst:StAt w1 B own' gs gl most rate T) (hlf:LFS B gs w w1 own own') (hBw:B<=w.heap.size) (hws:w.heap.size<=s) (hap:Ap own' gs s) (hd:data.length=n1) (hpl:places.length=n2) (hm1:Made w1 w.heap.size 5 1 A1 n1 c1 (data.map bv)) (hm2:Made w1 w.heap.size 3 1 A2 n2 c2 (places.map nv)) (z1:∀a,A1=some a->own' a.block=0) (z2:∀a,A2=some a->own' a.block=0):
 bodyPost Tryz.prog Tryz.f22 (StDone w B own gs most rate T ⟨code,num,data,places⟩) ex ⟨tmps, []⟩ ((((w1.setCell ⟨s,0,none⟩ (.int .i64 code)).setCell ⟨s,1,none⟩ (.int .i64 num)).setCell ⟨s,2,none⟩ (.slice A1 n1 c1)).setCell ⟨s,3,none⟩ (.slice A2 n2 c2)):=by
 subst hd hpl;have b1:=hb.set 0 (.int .i64 code);have b2:=b1.set 1 (.int .i64 num);have b3:=b2.set 2 (.slice A1 data.length c1);have b4:=b3.set 3 (.slice A2 places.length c2);have hB:B<=s:=oM;have hst4:=(((hst.put (p:=⟨s,0,none⟩) hap (.int .i64 code)).put (p:=⟨s,1,none⟩) hap (.int .i64 num)).put (p:=⟨s,2,none⟩) hap (.slice A1 data.length c1)).put (p:=⟨s,3,none⟩) hap (.slice A2 places.length c2);have hlf4:=(((hlf.put (p:=⟨s,0,none⟩) hws hB (.int .i64 code)).put (p:=⟨s,1,none⟩) hws hB (.int .i64 num)).put (p:=⟨s,2,none⟩) hws hB (.slice A1 data.length c1)).put (p:=⟨s,3,none⟩) hws hB (.slice A2 places.length c2);have m1:=jA (i:=3) (jA (i:=2) (jA (i:=1) (jA (i:=0) hm1 hb dC (.int .i64 code)) b1 dC (.int .i64 num)) b2 dC (.slice A1 data.length c1)) b3 dC (.slice A2 places.length c2);have m2:=jA (i:=3) (jA (i:=2) (jA (i:=1) (jA (i:=0) hm2 hb dC (.int .i64 code)) b1 dC (.int .i64 num)) b2 dC (.slice A1 data.length c1)) b3 dC (.slice A2 places.length c2);have hb4:Bk ((((w1.setCell ⟨s,0,none⟩ (.int .i64 code)).setCell ⟨s,1,none⟩ (.int .i64 num)).setCell ⟨s,2,none⟩ (.slice A1 data.length c1)).setCell ⟨s,3,none⟩ (.slice A2 places.length c2)) s 50 (lF ⟨code,num,data,places⟩ A1 c1 A2 c2):=by simpa [lF] using b4
 have hr:=results_cell_row (P:=Tryz.prog) (fn:=Tryz.f22) (p:=4) (ty:=50) rfl tmps _ s 50 (lF ⟨code,num,data,places⟩ A1 c1 A2 c2) (0,0) _ hp hb4 Tryz.underlying50 rfl kR;rcases hex with rfl | rfl;exact bodyPost_ret hr rfl ⟨A1,c1,A2,c2,own',gl,rfl,hst4,hlf4,m1,m2,z1,z2⟩;exact bodyPost_end hr rfl ⟨A1,c1,A2,c2,own',gl,rfl,hst4,hlf4,m1,m2,z1,z2⟩
end
structure DoW (w W:World) (B:Nat) (own:Nat->Nat) (gs gl most rate:Nat) (t:List UInt8) (kind p n:Int) (A:Option Addr) (m c:Nat):Prop where
 low:Below w.heap.size w W
 box:Bk W w.heap.size 46 #[.int .i64 kind,.int .i64 p,.int .i64 n,.slice A m c]
 res:Bk W (w.heap.size+1) 50 #[.int .i64 0,.int .i64 0,.slice none 0 0,.slice none 0 0]
 st:StAt W B own gs gl most rate t
 ap:Ap own gs (w.heap.size+1)
 sz:W.heap.size=w.heap.size+2
 fr:∀b,w.heap.size<=b->own b=0
 bs:B<=w.heap.size
theorem DoW.mk' {w:World} {B:Nat} {own:Nat->Nat} {gs gl most rate:Nat} {t:List UInt8} (kind p n:Int) (A:Option Addr) (m c:Nat) (h:StAt w B own gs gl most rate t):
 DoW w ((w.alloc (.cells #[.int .i64 kind,.int .i64 p,.int .i64 n,.slice A m c] 46)).alloc (.cells #[.int .i64 0,.int .i64 0,.slice none 0 0,.slice none 0 0] 50)) B own gs gl most rate t kind p n A m c:=by
 have hb:Below w.heap.size w ((w.alloc (.cells #[.int .i64 kind,.int .i64 p,.int .i64 n,.slice A m c] 46)).alloc (.cells #[.int .i64 0,.int .i64 0,.slice none 0 0,.slice none 0 0] 50)):=(bR.alloc nL _).alloc (by simp) _;have hbr:=Bk.new (w.alloc (.cells #[.int .i64 kind,.int .i64 p,.int .i64 n,.slice A m c] 46)) 50 #[.int .i64 0,.int .i64 0,.slice none 0 0,.slice none 0 0];rw [World.size_alloc] at hbr;exact ⟨hb,(Bk.new w _ _).alloc _,hbr,h.vb (Vis.of_below hb),⟨h.fresh oM,by have:=h.blk.lt;omega⟩,by rw [World.size_alloc,World.size_alloc],fun b hb=>h.fresh hb,h.size⟩
theorem fA (B:Nat) (own:Nat->Nat) (gs gl most rate:Nat) (t T2:List UInt8) (kind p n:Int) (A:Option Addr) (m c:Nat) (code:Int) (w:World) (h:StAt w B own gs gl most rate t) (hk:kind=1∨kind=2∨kind=3)
 (hed:∀W,StAt W B own gs gl most rate t->LFS B gs w W own own->Calls Tryz.prog 74 #[gs,.agg #[.int .i64 kind,.int .i64 p,.int .i64 n,.slice A m c]] W fun e w'=>e=.returned (.int .i64 code)/\∃own',StAt w' B own' gs gl most rate T2/\LFS B gs W w' own own'):
 Calls Tryz.prog 22 #[gs,bT kind p n A m c] w (StDone w B own gs most rate T2 ⟨code,0, [], []⟩):=by
 have hdw:=DoW.mk' kind p n A m c h;have he:=hed _ hdw.st (LFS.of_below B gs own hdw.low);have c0:=hdw.box.cell 0;have c1:=hdw.box.cell 1;have c2:=hdw.box.cell 2;have c3:=hdw.box.cell 3;obtain ⟨Hdw,He⟩:=hqq2 hdw he;clear hdw he hed h;unfold bT;rcases hk with rfl | rfl | rfl
 all_goals
  go_enter Tryz.func22,Tryz.ntmps22;go_wp2_with fail;refine He.out.mono ?_;rintro e w1 ⟨rfl,own',hst1,hlf1⟩;have s1:=hlf1.bk Hdw.out.res Hdw.out.ap.col Hdw.out.ap.ne dC dC;have hap1:=Hdw.out.ap.step hlf1 Hdw.out.res.lt;have hlf:=(LFS.of_below B gs own Hdw.out.low).trans hlf1;have Hbs:=lhd Hdw.out.bs;have j0:=s1.cell 0;have j1:=s1.cell 1;have j2:=s1.cell 2;have j3:=s1.cell 3;have f0:=s1.frozen 0;have f1:=s1.frozen 1;have f2:=s1.frozen 2;have f3:=s1.frozen 3;obtain ⟨S1,Hst1,Hlf,Hap1⟩:=hqq4 s1 hst1 hlf hap1;clear s1 hst1 hlf hlf1 hap1 He Hdw;go_wp2_with fail;exact lI (.inl rfl) rfl S1.out Hst1.out Hlf.out Hbs.out oM Hap1.out rfl rfl (bB _ _ _) (bB _ _ _) (fun a ha=>by cases ha) (fun a ha=>by cases ha)
theorem mY (B:Nat) (own:Nat->Nat) (gs gl most rate:Nat) (t:List UInt8) (p n:Int) (A:Option Addr) (m c:Nat) (w:World) (h:StAt w B own gs gl most rate t):
 Calls Tryz.prog 22 #[gs,bT 8 p n A m c] w (StDone w B own gs most rate t ⟨0,0, [], []⟩):=by
 obtain ⟨rs,hs⟩:∃rs,IsSuf (aG t) rs:=by obtain ⟨rs,gk,gp,pr,hs,_⟩:=h.tp;exact ⟨rs,hs⟩
 have hdw:=DoW.mk' 8 p n A m c h;have hsv:=iP B own gs gl most rate t rs _ hdw.st hs;unfold fG at hsv;obtain ⟨nb,hnb⟩:=eqx ((fC (aE (aG t) rs) rs most rate t.length).length);rw [hnb] at hsv;have hld:=fun A c w1 (h1:StAt w1 B own gs gl most rate t)=>yU B own gs gl most rate most rate A nb c t t rs w1 h1 hs h1.n127 h1.r1 h1.r2 h1.len h1.max hnb;have c0:=hdw.box.cell 0;obtain ⟨Hdw,Hsv,Hld⟩:=hqq3 hdw hsv hld;clear hdw hsv hld h hnb hs;unfold bT;go_enter Tryz.func22,Tryz.ntmps22;go_wp2_with fail;refine Hsv.out.mono ?_;rintro e w1 ⟨A1,c1,rfl,hm1,hv1⟩;have hst1:=Hdw.out.st.vb hv1.1;have hlf1:=(LFS.of_below B gs own Hdw.out.low).trans (LFS.of_vb gs own hv1);have hr1:=hv1.1.bk Hdw.out.res dC dC;have hle:=Hld.out A1 c1 w1 hst1 hm1.rd hm1.cap hm1.max;obtain ⟨Hle,Hlf1,Hr1⟩:=hqq3 hle hlf1 hr1;clear hst1 hlf1 hr1 hle hm1 hv1 Hsv Hld;go_wp2_with fail;refine Hle.out.mono ?_;rintro e w2 ⟨rfl,own',gl',hst2,hlf2⟩;have s1:=hlf2.bk Hr1.out Hdw.out.ap.col Hdw.out.ap.ne dC dC;have hap2:=Hdw.out.ap.step hlf2 Hr1.out.lt;have hlf:=Hlf1.out.trans hlf2;have j0:=s1.cell 0;have j1:=s1.cell 1;have j2:=s1.cell 2;have j3:=s1.cell 3;have f0:=s1.frozen 0;have f1:=s1.frozen 1;have f2:=s1.frozen 2;have f3:=s1.frozen 3;obtain ⟨S1,Hst2,Hlf,Hap2⟩:=hqq4 s1 hst2 hlf hap2;clear s1 hst2 hlf hlf2 hap2 Hle Hlf1 Hr1;go_wp2_with fail;exact lI (.inl rfl) rfl S1.out Hst2.out Hlf.out Hdw.out.bs oM Hap2.out rfl rfl (bB _ _ _) (bB _ _ _) (fun a ha=>by cases ha) (fun a ha=>by cases ha)
theorem mA (most rate:Nat) (w:World) (hm:most<=2147483648) (h1:1<=rate) (h2:rate<=64):
 Calls Tryz.prog 18 #[(most:Int),(rate:Int)] w fun e w'=>∃gs gl own,e=.returned (.tuple #[.pointer (some ⟨gs,0,none⟩),.int .i64 0])/\StAt w' w.heap.size own gs gl most rate []/\Below w.heap.size w w':=by
 have hnew:=sU rate none 0 0 w.heap.size [] [] 0 rfl rfl w (Rd.nil _ _ _ _) (fun s hs=>by cases hs) nL oM oM h1 h2;have n1:¬((most:Int) < 0):=oM;have n2:¬((most:Int) > 2147483648):=oM;have n3:decide ((most:Int) > 2147483648)=false:=zBy n2;have Hnew:=lhd hnew;clear hnew;go_enter Tryz.func18,Tryz.ntmps18;go_wp2_with fail;refine Hnew.out.mono ?_;rintro e w1 ⟨gl,own,rfl,hgl,hle,hb⟩;have hal:Below w1.heap.size w1 (w1.alloc (.cells #[.pointer (some ⟨gl,0,none⟩),(most:Int)] 115)):=bR.alloc nL _;have hst:StAt (w1.alloc (.cells #[.pointer (some ⟨gl,0,none⟩),(most:Int)] 115)) w.heap.size own w1.heap.size gl most rate []:=
  ⟨Bk.new _ _ _,hb.size,Nat.eq_zero_of_not_pos fun f=>by have:=(hle.bnd w1.heap.size oM).2;omega,hle.vis (Vis.of_below hal),by simp,by simp,hm,h1,h2⟩
 obtain ⟨Hst,Hb⟩:=hqq2 hst (hb.trans (hal.mono hb.size));clear hst hal hb hle Hnew;go_wp2_with fail;go_ret2;exact ⟨_,gl,own,rfl,Hst.out,Hb.out⟩
end Go.Proofs.YthldmddkfbijhaaGreatDoor
