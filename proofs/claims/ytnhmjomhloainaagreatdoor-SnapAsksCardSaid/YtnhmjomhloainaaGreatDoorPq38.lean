/- Parts of the walk, joined from several texts. Conditions: what each lemma says. -/
import Derived.Test.YtnhmjomhloainaaGreatDoorPq36
import Derived.Test.YtnhmjomhloainaaGreatDoorPq37
import Derived.Laws.Rows
set_option linter.all false
set_option maxRecDepth 100000
set_option maxHeartbeats 2000000
namespace Go.Proofs.YtnhmjomhloainaaGreatDoor
open Go.RowKit
def StDone (w:World) (B:Nat) (own:Nat->Nat) (gs most rate:Nat) (T:List UInt8) (r:Told) (e:Ending) (w':World):Prop:=
 ∃A1 c1 A2 c2 own' gl',e=.returned (.agg (aHl r A1 c1 A2 c2))/\StAt w' B own' gs gl' most rate T/\LFS B gs w w' own own'/\Made w' w.heap.size 5 1 A1 r.data.length c1 (r.data.map bv)/\Made w' w.heap.size 3 1 A2 r.places.length c2 (r.places.map nv)/\(∀a,A1=some a->own' a.block=0)/\(∀a,A2=some a->own' a.block=0)
section
variable {w w1 w' : World} {B gs gl most rate : Nat} {own own' : Nat -> Nat} {T : List UInt8}
theorem LFS.put (h:LFS B gs w w1 own own') {p:Addr} (hp:w.heap.size<=p.block) (hB:B<=p.block) (u:Value):LFS B gs w (w1.setCell p u) own own':=
 ⟨h.old,VisF.put h.vis (.inr hp) u,h.keep.setCell (.inr hp) u⟩
theorem StAt.put (h:StAt w B own gs gl most rate T) {p:Addr} (hp:Ap own gs p.block) (u:Value):StAt (w.setCell p u) B own gs gl most rate T:=
 h.far (Keep.setCell (F:=fun b=>b=p.block) (Keep.refl _ _) (.inl rfl) u) fun b e=>by have e':b=p.block:=e;rw [e'];exact hp
theorem gZ {s i:Nat} {t e:TypeId} {cs xs:_} {B0 n c:Nat} {A:Option Addr} (h:Made w B0 e 1 A n c xs) (hb:Bk w s t cs) (hne:e≠t) (u:Value):Made (w.setCell ⟨s,i,none⟩ u) B0 e 1 A n c xs:=
 nH h fun b cs' hb'=>hb'.far (p:=⟨s,i,none⟩) (Bk.ne hb' hb hne) u
theorem rB {tmps:Array Value} {s:Nat} {a0 a1 a2 a3:Value} {A1 A2:Option Addr} {n1 c1 n2 c2:Nat} {code num:Int} {data:List UInt8} {places:List Nat} {ex:Exit} (hex:ex=.ret∨ex=.normal) (hp:tmps.getD 4 undef=.pointer (some ⟨s,0,none⟩)) (hb:Bk w1 s 51 #[a0,a1,a2,a3])
 (hst:StAt w1 B own' gs gl most rate T) (hlf:LFS B gs w w1 own own') (hBw:B<=w.heap.size) (hws:w.heap.size<=s) (hap:Ap own' gs s) (hd:data.length=n1) (hpl:places.length=n2) (hm1:Made w1 w.heap.size 5 1 A1 n1 c1 (data.map bv)) (hm2:Made w1 w.heap.size 3 1 A2 n2 c2 (places.map nv)) (z1:∀a,A1=some a->own' a.block=0) (z2:∀a,A2=some a->own' a.block=0):
 bodyPost Tryz.prog Tryz.f29 (StDone w B own gs most rate T ⟨code,num,data,places⟩) ex ⟨tmps, []⟩ ((((w1.setCell ⟨s,0,none⟩ (.int .i64 code)).setCell ⟨s,1,none⟩ (.int .i64 num)).setCell ⟨s,2,none⟩ (.slice A1 n1 c1)).setCell ⟨s,3,none⟩ (.slice A2 n2 c2)):=by
 subst hd hpl;have b1:=hb.set 0 (.int .i64 code);have b2:=b1.set 1 (.int .i64 num);have b3:=b2.set 2 (.slice A1 data.length c1);have b4:=b3.set 3 (.slice A2 places.length c2);have hB:B<=s:=oM;have hst4:=(((hst.put (p:=⟨s,0,none⟩) hap (.int .i64 code)).put (p:=⟨s,1,none⟩) hap (.int .i64 num)).put (p:=⟨s,2,none⟩) hap (.slice A1 data.length c1)).put (p:=⟨s,3,none⟩) hap (.slice A2 places.length c2);have hlf4:=(((hlf.put (p:=⟨s,0,none⟩) hws hB (.int .i64 code)).put (p:=⟨s,1,none⟩) hws hB (.int .i64 num)).put (p:=⟨s,2,none⟩) hws hB (.slice A1 data.length c1)).put (p:=⟨s,3,none⟩) hws hB (.slice A2 places.length c2);have m1:=gZ (i:=3) (gZ (i:=2) (gZ (i:=1) (gZ (i:=0) hm1 hb dC (.int .i64 code)) b1 dC (.int .i64 num)) b2 dC (.slice A1 data.length c1)) b3 dC (.slice A2 places.length c2);have m2:=gZ (i:=3) (gZ (i:=2) (gZ (i:=1) (gZ (i:=0) hm2 hb dC (.int .i64 code)) b1 dC (.int .i64 num)) b2 dC (.slice A1 data.length c1)) b3 dC (.slice A2 places.length c2);have hb4:Bk ((((w1.setCell ⟨s,0,none⟩ (.int .i64 code)).setCell ⟨s,1,none⟩ (.int .i64 num)).setCell ⟨s,2,none⟩ (.slice A1 data.length c1)).setCell ⟨s,3,none⟩ (.slice A2 places.length c2)) s 51 (aHl ⟨code,num,data,places⟩ A1 c1 A2 c2):=by simpa [aHl] using b4
 have hr:=results_cell_row (P:=Tryz.prog) (fn:=Tryz.f29) (p:=4) (ty:=51) rfl tmps _ s 51 (aHl ⟨code,num,data,places⟩ A1 c1 A2 c2) (0,0) _ hp hb4 Tryz.underlying51 rfl kR;rcases hex with rfl | rfl;exact bodyPost_ret hr rfl ⟨A1,c1,A2,c2,own',gl,rfl,hst4,hlf4,m1,m2,z1,z2⟩;exact bodyPost_end hr rfl ⟨A1,c1,A2,c2,own',gl,rfl,hst4,hlf4,m1,m2,z1,z2⟩
end
structure DoW (w W:World) (B:Nat) (own:Nat->Nat) (gs gl most rate:Nat) (t:List UInt8) (kind p n:Int) (A:Option Addr) (m c:Nat):Prop where
 low:Below w.heap.size w W
 box:Bk W w.heap.size 54 #[.int .i64 kind,.int .i64 p,.int .i64 n,.slice A m c]
 res:Bk W (w.heap.size+1) 51 #[.int .i64 0,.int .i64 0,.slice none 0 0,.slice none 0 0]
 st:StAt W B own gs gl most rate t
 ap:Ap own gs (w.heap.size+1)
 sz:W.heap.size=w.heap.size+2
 fr:∀b,w.heap.size<=b->own b=0
 bs:B<=w.heap.size
theorem DoW.mk' {w:World} {B:Nat} {own:Nat->Nat} {gs gl most rate:Nat} {t:List UInt8} (kind p n:Int) (A:Option Addr) (m c:Nat) (h:StAt w B own gs gl most rate t):
 DoW w ((w.alloc (.cells #[.int .i64 kind,.int .i64 p,.int .i64 n,.slice A m c] 54)).alloc (.cells #[.int .i64 0,.int .i64 0,.slice none 0 0,.slice none 0 0] 51)) B own gs gl most rate t kind p n A m c:=by
 have hb:Below w.heap.size w ((w.alloc (.cells #[.int .i64 kind,.int .i64 p,.int .i64 n,.slice A m c] 54)).alloc (.cells #[.int .i64 0,.int .i64 0,.slice none 0 0,.slice none 0 0] 51)):=(bR.alloc nL _).alloc (by simp) _;have hbr:=Bk.new (w.alloc (.cells #[.int .i64 kind,.int .i64 p,.int .i64 n,.slice A m c] 54)) 51 #[.int .i64 0,.int .i64 0,.slice none 0 0,.slice none 0 0];rw [World.size_alloc] at hbr;exact ⟨hb,(Bk.new w _ _).alloc _,hbr,h.vb (Vis.of_below hb),⟨h.fresh oM,by have:=h.blk.lt;omega⟩,by rw [World.size_alloc,World.size_alloc],fun b hb=>h.fresh hb,h.size⟩
theorem jG (B:Nat) (own:Nat->Nat) (gs gl most rate:Nat) (t T2:List UInt8) (kind p n:Int) (A:Option Addr) (m c:Nat) (code:Int) (w:World) (h:StAt w B own gs gl most rate t) (hk:kind=1∨kind=2∨kind=3)
 (hed:∀W,StAt W B own gs gl most rate t->LFS B gs w W own own->Calls Tryz.prog 96 #[.pointer (some ⟨gs,0,none⟩),.agg #[.int .i64 kind,.int .i64 p,.int .i64 n,.slice A m c]] W fun e w'=>e=.returned (.int .i64 code)/\∃own',StAt w' B own' gs gl most rate T2/\LFS B gs W w' own own'):
 Calls Tryz.prog 29 #[.pointer (some ⟨gs,0,none⟩),lP kind p n A m c] w (StDone w B own gs most rate T2 ⟨code,0, [], []⟩):=by
 have hdw:=DoW.mk' kind p n A m c h;have he:=hed _ hdw.st (LFS.of_below B gs own hdw.low);have c0:=hdw.box.cell 0;have c1:=hdw.box.cell 1;have c2:=hdw.box.cell 2;have c3:=hdw.box.cell 3;obtain ⟨Hdw,He⟩:=hqq2 hdw he;clear hdw he hed h;unfold lP;rcases hk with rfl | rfl | rfl
 all_goals
  go_enter Tryz.func29,Tryz.ntmps29;go_wp2_with fail;refine He.out.mono ?_;rintro e w1 ⟨rfl,own',hst1,hlf1⟩;have s1:=hlf1.bk Hdw.out.res Hdw.out.ap.col Hdw.out.ap.ne dC dC;have hap1:=Hdw.out.ap.step hlf1 Hdw.out.res.lt;have hlf:=(LFS.of_below B gs own Hdw.out.low).trans hlf1;have Hbs:=lhd Hdw.out.bs;have j0:=s1.cell 0;have j1:=s1.cell 1;have j2:=s1.cell 2;have j3:=s1.cell 3;have f0:=s1.frozen 0;have f1:=s1.frozen 1;have f2:=s1.frozen 2;have f3:=s1.frozen 3;obtain ⟨S1,Hst1,Hlf,Hap1⟩:=hqq4 s1 hst1 hlf hap1;clear s1 hst1 hlf hlf1 hap1 He Hdw;go_wp2_with fail;exact rB (.inl rfl) rfl S1.out Hst1.out Hlf.out Hbs.out oM Hap1.out rfl rfl (mD _ _ _) (mD _ _ _) (fun a ha=>by cases ha) (fun a ha=>by cases ha)
theorem aDy (B:Nat) (own:Nat->Nat) (gs gl most rate:Nat) (t:List UInt8) (p n:Int) (A:Option Addr) (m c:Nat) (w:World) (h:StAt w B own gs gl most rate t):
 Calls Tryz.prog 29 #[.pointer (some ⟨gs,0,none⟩),lP 8 p n A m c] w (StDone w B own gs most rate t ⟨0,0, [], []⟩):=by
 obtain ⟨rs,hs⟩:∃rs,IsSuf (aD t) rs:=by obtain ⟨rs,gk,gp,pr,hs,_⟩:=h.tp;exact ⟨rs,hs⟩
 have hdw:=DoW.mk' 8 p n A m c h;have hsv:=lG B own gs gl most rate t rs _ hdw.st hs;unfold dS at hsv;obtain ⟨nb,hnb⟩:=eqx ((cG (aE (aD t) rs) rs most rate t.length).length);rw [hnb] at hsv;have hld:=fun A c w1 (h1:StAt w1 B own gs gl most rate t)=>wM B own gs gl most rate most rate A nb c t t rs w1 h1 hs h1.n127 h1.r1 h1.r2 h1.len h1.max hnb;have c0:=hdw.box.cell 0;obtain ⟨Hdw,Hsv,Hld⟩:=hqq3 hdw hsv hld;clear hdw hsv hld h hnb hs;unfold lP;go_enter Tryz.func29,Tryz.ntmps29;go_wp2_with fail;refine Hsv.out.mono ?_;rintro e w1 ⟨A1,c1,rfl,hm1,hv1⟩;have hst1:=Hdw.out.st.vb hv1.1;have hlf1:=(LFS.of_below B gs own Hdw.out.low).trans (LFS.of_vb gs own hv1);have hr1:=hv1.1.bk Hdw.out.res dC dC;have hle:=Hld.out A1 c1 w1 hst1 hm1.rd hm1.cap hm1.max;obtain ⟨Hle,Hlf1,Hr1⟩:=hqq3 hle hlf1 hr1;clear hst1 hlf1 hr1 hle hm1 hv1 Hsv Hld;go_wp2_with fail;refine Hle.out.mono ?_;rintro e w2 ⟨rfl,own',gl',hst2,hlf2⟩;have s1:=hlf2.bk Hr1.out Hdw.out.ap.col Hdw.out.ap.ne dC dC;have hap2:=Hdw.out.ap.step hlf2 Hr1.out.lt;have hlf:=Hlf1.out.trans hlf2;have j0:=s1.cell 0;have j1:=s1.cell 1;have j2:=s1.cell 2;have j3:=s1.cell 3;have f0:=s1.frozen 0;have f1:=s1.frozen 1;have f2:=s1.frozen 2;have f3:=s1.frozen 3;obtain ⟨S1,Hst2,Hlf,Hap2⟩:=hqq4 s1 hst2 hlf hap2;clear s1 hst2 hlf hlf2 hap2 Hle Hlf1 Hr1;go_wp2_with fail;exact rB (.inl rfl) rfl S1.out Hst2.out Hlf.out Hdw.out.bs oM Hap2.out rfl rfl (mD _ _ _) (mD _ _ _) (fun a ha=>by cases ha) (fun a ha=>by cases ha)
theorem wO (B:Nat) (own:Nat->Nat) (gs gl most rate:Nat) (t D:List UInt8) (p n:Int) (A:Option Addr) (m c:Nat) (w:World) (h:StAt w B own gs gl most rate t) (hD:ArgZ w B own gs A m D) (hm:m<=1000000):
 Calls Tryz.prog 29 #[.pointer (some ⟨gs,0,none⟩),lP 7 p n A m c] w (StDone w B own gs most rate t ⟨0,((kG t D).length:Int), [],kG t D⟩):=by
 have hdw:=DoW.mk' 7 p n A m c h;have hDl:D.length=m:=by simpa using hD.1.1
 have hD2:=hD.vis hdw.low;have hgs:=h.blk.lt;have hall:∀w5 g,VB B ((w.alloc (.cells #[.int .i64 7,.int .i64 p,.int .i64 n,.slice A m c] 54)).alloc (.cells #[.int .i64 0,.int .i64 0,.slice none 0 0,.slice none 0 0] 51)) w5->Bk w5 g 23 #[.slice A m c]->Calls Tryz.prog 99 #[.pointer (some ⟨gl,0,none⟩),.slice (some ⟨g,0,none⟩) 1 1] w5 fun e w'=>∃A' c',e=.returned (.slice A' (kG t D).length c')/\Made w' w5.heap.size 3 1 A' (kG t D).length c' ((kG t D).map nv)/\VB B w5 w':=fun w5 g hv hb=>by have hD5:=(hD2.step (LFS.of_vb gs own hv)).1;have:=aH1 B gl rate t (some ⟨g,0,none⟩) 1 1 w5.heap.size [(⟨A,m,c,D⟩:Sl)] D (by simp [gD]) w5 (hdw.st.vb hv.1).tp (aIj hb rfl) (fun s hs=>by simp at hs;subst hs;exact hD5) nL oM oM;unfold aAU at this;rw [zX] at this;exact this
 obtain ⟨L,hL⟩:=eqx (kG t D);rw [hL] at hall⊢;obtain ⟨z,hz⟩:=eqx L.length;rw [hz] at hall⊢;have c0:=hdw.box.cell 0;obtain ⟨Hdw,Hall,Hz⟩:=hqq3 hdw hall hz;clear hdw hall h hD hD2 hDl hL hz;unfold lP;go_enter Tryz.func29,Tryz.ntmps29;go_wp2_with fail;generalize (w.alloc (.cells #[.int .i64 7,.int .i64 p,.int .i64 n,.slice A m c] 54)).alloc (.cells #[.int .i64 0,.int .i64 0,.slice none 0 0,.slice none 0 0] 51)=W at*
 clear c0;refine wp_region_any kR ?_;refine aX [61,62,63,64,65,66,67,68,7] (VB B) (Vs [is (.pointer (some ⟨gs,0,none⟩)),is (.pointer (some ⟨gs,0,none⟩)),is (.pointer (some ⟨gs,0,none⟩)),is (.pointer (some ⟨gl,0,none⟩)),is (.pointer (some ⟨w.heap.size,3,none⟩)),is (.slice A m c),fun x w2=>∃g,x=.slice (some ⟨g,0,none⟩) 1 1/\Bk w2 g 23 #[.slice A m c],fun v w2=>∃A' c',v=.slice A' z c'/\Made w2 w.heap.size 3 1 A' z c' (L.map nv),fun v w2=>∃A' c',v=.slice A' z c'/\Made w2 w.heap.size 3 1 A' z c' (L.map nv)]) _ _ rfl kR vR (fun _ _=>VisK.trans) (cY (by repeat' (first | exact cA _ _ | exact bS _ | exact fun _ _ _ ⟨g,h1,h2⟩ k=>⟨g,h1,k.1.bk h2 dC dC⟩| exact fun _ _ _ ⟨A',c',h1,h2⟩ k=>⟨A',c',h1,k.1.made h2 dC dC⟩|(refine zAe.2 ⟨?_,?_⟩)|(intro p hp;cases hp)))) ?_ ?_
 · refine aT ?_;refine pH 0 (.pointer (some ⟨gs,0,none⟩)) ?_;refine pV 0 61 ?_;refine pV 1 62 ?_;refine sC (fun _ w5 hS _ _ _ hval _ _ _ hK=>?_) ?_
   · have e63:_=_:=hval 2 63 kR rfl;replace hS:(VB B) W w5:=bD hS;have hbk5:=hS.1.bk Hdw.out.st.blk dC dC;have c9:=hbk5.cell 0;go_simp;exact hK _ _ vR rfl
   refine pH 3 (.pointer (some ⟨w.heap.size,0,none⟩)) ?_;refine sC (fun _ w5 hS _ _ _ hval _ _ _ hK=>?_) ?_
   · have e65:_=_:=hval 4 65 kR rfl;replace hS:(VB B) W w5:=bD hS;have hbx5:=hS.1.bk Hdw.out.box dC dC;have c9:=hbx5.cell 3;go_simp;exact hK _ _ vR rfl
   refine sC (fun _ _ _ _ _ _ hval _ _ _ hK=>?_) ?_
   · have e66:_=_:=hval 5 66 kR rfl;go_simp;exact hK _ _ (vR.alloc _) ⟨_,rfl,Bk.new _ _ _⟩
   refine sC (fun ev w5 hS _ _ _ hval _ _ _ hK=>?_) ?_
   · have e64:_=_:=hval 3 64 kR rfl;have p67:(fun x w2=>∃g,x=.slice (some ⟨g,0,none⟩) 1 1/\Bk w2 g 23 #[.slice A m c]) (ev (.tmp 67)) w5:=hval 6 67 kR rfl;replace hS:(VB B) W w5:=bD hS;obtain ⟨g5,e67,hb5⟩:=p67;have hws:=hS.1.size;go_simp;refine (Hall.out w5 g5 hS hb5).mono ?_;rintro e w8 ⟨A',c',rfl,hm8,hv8⟩;exact hK _ _ hv8 ⟨A',c',rfl,⟨bX hm8.own (zAk Hdw.out.low.size hws),hm8.rd,hm8.cap,hm8.max⟩⟩
   refine sC (fun ev w5 _ _ _ _ hval _ _ _ hK=>?_) ?_
   · have p68:(fun v w2=>∃A' c',v=.slice A' z c'/\Made w2 w.heap.size 3 1 A' z c' (L.map nv)) (ev (.tmp 68)) w5:=hval 7 68 kR rfl;obtain ⟨A',c',e68,hm9⟩:=p68;go_simp;exact hK _ _ vR ⟨A',c',rfl,hm9⟩
   exact aG
 · intro ev w6 hS hval;replace hS:(VB B) W w6:=bD hS;have p7:(fun v w2=>∃A' c',v=.slice A' z c'/\Made w2 w.heap.size 3 1 A' z c' (L.map nv)) (ev (.tmp 7)) w6:=hval 8 7 rfl;simp only [aO,zq1,zq2,Act.put,zq3,zq4,zq5];clear hval;obtain ⟨A',c',e7,hm9⟩:=p7;rw [e7];clear e7;have s1:=hS.1.bk Hdw.out.res dC dC;have hlf:=(LFS.of_below B gs own Hdw.out.low).trans (LFS.of_vb gs own hS);have hst1:=Hdw.out.st.vb hS.1;have hz:∀a,A'=some a->own a.block=0:=fun a ha=>by subst ha;have:=(hm9.own.lt (k:=a.block) rfl).1;by_cases c3:own a.block=0;exact c3;exact absurd (Hdw.out.fr a.block this) c3
   have j0:=s1.cell 0;have j1:=s1.cell 1;have j2:=s1.cell 2;have j3:=s1.cell 3;have f0:=s1.frozen 0;have f1:=s1.frozen 1;have f2:=s1.frozen 2;have f3:=s1.frozen 3;obtain ⟨S1,Hst1,Hlf,Hzz,Hm9⟩:=hqq5 s1 hst1 hlf hz hm9;clear s1 hst1 hlf hS hz hm9 Hall;go_wp2_with fail;exact rB (.inl rfl) rfl S1.out Hst1.out Hlf.out Hdw.out.bs oM Hdw.out.ap rfl Hz.out (mD _ _ _) Hm9.out (fun a ha=>by cases ha) Hzz.out
theorem aE6 (B:Nat) (own:Nat->Nat) (gs gl most rate:Nat) (t D T2:List UInt8) (r:Told) (p n:Int) (A:Option Addr) (m c:Nat) (w:World) (h2:doM t (most:Int) 1 p n D=(T2,r)) (h:StAt w B own gs gl most rate t) (hD:ArgZ w B own gs A m D) (hm:m<=1000000) (hT:TabW w) (hB0:1 < B) (h127:T2.length<=127):
 Calls Tryz.prog 29 #[.pointer (some ⟨gs,0,none⟩),lP 1 p n A m c] w (StDone w B own gs most rate T2 r):=by
 have hDl:D.length=m:=by simpa using hD.1.1
 have htab:∀W,LFS B gs w W own own->TabW W:=fun W k=>hT.below (k.below h.size) hB0;unfold doM at h2;rw [zBx rfl] at h2;cases hh:nV t.length p 0 with
 | false=>
   rw [zBx hh] at h2;cases h2;exact jG B own gs gl most rate t t 1 p n A m c 2 w h (.inl rfl) fun W hst k=>(qJ B own gs gl most rate _ t 1 p n A m c W hst rfl (by simpa [tJ] using hh)).mono fun e w' ⟨x1,x2⟩=>⟨x1,own,hst.vb (Vis.of_below x2),LFS.of_below B gs own x2⟩
 | true=>
   rw [zBw (by rw [hh];decide)] at h2;obtain ⟨a,b,rfl,hb,hab⟩:=aDX hh;by_cases hf:(most:Int) -(t.length:Int) < (D.length:Int);rw [zBx hf] at h2;cases h2;exact jG B own gs gl most rate t t 1 _ n A m c 3 w h (.inl rfl) fun W hst k=>(wN B own gs gl most rate _ t a n A m c W hst rfl oM oM).mono fun e w' ⟨x1,x2⟩=>⟨x1,own,hst.vb x2.1,LFS.of_vb gs own x2⟩;rw [zBw hf] at h2;cases h2;rw [zBr] at h127⊢;have hl:=uR t D (k:=a) oM;exact jG B own gs gl most rate t _ 1 _ n A m c 0 w h (.inl rfl) fun W hst k=>xQ B own gs gl most rate _ t D a n A m c W hst rfl (hD.step k) oM oM (by rw [<-hDl,<-hl];exact h127)
theorem aE5 (B:Nat) (own:Nat->Nat) (gs gl most rate:Nat) (t D T2:List UInt8) (r:Told) (p n:Int) (A:Option Addr) (m c:Nat) (w:World) (h2:doM t (most:Int) 2 p n D=(T2,r)) (h:StAt w B own gs gl most rate t) (hD:ArgZ w B own gs A m D) (hm:m<=1000000) (hT:TabW w) (hB0:1 < B) (h127:T2.length<=127):
 Calls Tryz.prog 29 #[.pointer (some ⟨gs,0,none⟩),lP 2 p n A m c] w (StDone w B own gs most rate T2 r):=by
 have hDl:D.length=m:=by simpa using hD.1.1
 have htab:∀W,LFS B gs w W own own->TabW W:=fun W k=>hT.below (k.below h.size) hB0;unfold doM at h2;rw [zBw dC] at h2;rw [zBx rfl] at h2;cases hh:nV t.length p n with
 | false=>
   rw [zBx hh] at h2;cases h2;exact jG B own gs gl most rate t t 2 p n A m c 2 w h (.inr (.inl rfl)) fun W hst k=>(qJ B own gs gl most rate _ t 2 p n A m c W hst rfl (by simpa [tJ] using hh)).mono fun e w' ⟨x1,x2⟩=>⟨x1,own,hst.vb (Vis.of_below x2),LFS.of_below B gs own x2⟩
 | true=>
   rw [zBw (by rw [hh];decide)] at h2;cases h2;obtain ⟨a,b,rfl,rfl,hab⟩:=aDX hh;rw [zBr,zBr];exact jG B own gs gl most rate t _ 2 _ _ A m c 0 w h (.inr (.inl rfl)) fun W hst k=>xR B own gs gl most rate _ t a b A m c W hst (htab W k) hB0 rfl hab
theorem aE4 (B:Nat) (own:Nat->Nat) (gs gl most rate:Nat) (t D T2:List UInt8) (r:Told) (p n:Int) (A:Option Addr) (m c:Nat) (w:World) (h2:doM t (most:Int) 7 p n D=(T2,r)) (h:StAt w B own gs gl most rate t) (hD:ArgZ w B own gs A m D) (hm:m<=1000000) (hT:TabW w) (hB0:1 < B) (h127:T2.length<=127):
 Calls Tryz.prog 29 #[.pointer (some ⟨gs,0,none⟩),lP 7 p n A m c] w (StDone w B own gs most rate T2 r):=by
 have hDl:D.length=m:=by simpa using hD.1.1
 have htab:∀W,LFS B gs w W own own->TabW W:=fun W k=>hT.below (k.below h.size) hB0;unfold doM at h2;rw [zBw dC] at h2;rw [zBw dC] at h2;rw [zBw dC] at h2;rw [zBw dC] at h2;rw [zBw dC] at h2;rw [zBw dC] at h2;rw [zBx rfl] at h2;cases h2;exact wO B own gs gl most rate t D p n A m c w h hD hm
theorem aE3 (B:Nat) (own:Nat->Nat) (gs gl most rate:Nat) (t D T2:List UInt8) (r:Told) (p n:Int) (A:Option Addr) (m c:Nat) (w:World) (h2:doM t (most:Int) 8 p n D=(T2,r)) (h:StAt w B own gs gl most rate t) (hD:ArgZ w B own gs A m D) (hm:m<=1000000) (hT:TabW w) (hB0:1 < B) (h127:T2.length<=127):
 Calls Tryz.prog 29 #[.pointer (some ⟨gs,0,none⟩),lP 8 p n A m c] w (StDone w B own gs most rate T2 r):=by
 have hDl:D.length=m:=by simpa using hD.1.1
 have htab:∀W,LFS B gs w W own own->TabW W:=fun W k=>hT.below (k.below h.size) hB0;unfold doM at h2;rw [zBw dC] at h2;rw [zBw dC] at h2;rw [zBw dC] at h2;rw [zBw dC] at h2;rw [zBw dC] at h2;rw [zBw dC] at h2;rw [zBw dC] at h2;rw [zBx rfl] at h2;cases h2;exact aDy B own gs gl most rate t p n A m c w h
theorem aBX (kind p n:Int) (A:Option Addr) (m c:Nat) (w:World):
 Calls Tryz.prog 29 #[.pointer none,lP kind p n A m c] w fun e w'=>e=.returned (.agg #[.int .i64 6,.int .i64 0,.slice none 0 0,.slice none 0 0])/\Below w.heap.size w w':=by
 unfold lP;go_enter Tryz.func29,Tryz.ntmps29;go_wp2;have hb:=((Below.refl w.heap.size w).alloc nL (.cells #[.int .i64 kind,.int .i64 p,.int .i64 n,.slice A m c] 54)).alloc (by simp) (.cells #[.int .i64 6,.int .i64 0,.slice none 0 0,.slice none 0 0] 51);have hbk:Bk ((w.alloc (.cells #[.int .i64 kind,.int .i64 p,.int .i64 n,.slice A m c] 54)).alloc (.cells #[.int .i64 6,.int .i64 0,.slice none 0 0,.slice none 0 0] 51)) (w.heap.size+1) 51 #[.int .i64 6,.int .i64 0,.slice none 0 0,.slice none 0 0]:=by simpa using Bk.new (w.alloc (.cells #[.int .i64 kind,.int .i64 p,.int .i64 n,.slice A m c] 54)) 51 #[.int .i64 6,.int .i64 0,.slice none 0 0,.slice none 0 0]
 exact bodyPost_ret (results_cell_row (p:=4) (ty:=51) rfl _ _ (w.heap.size+1) 51 #[.int .i64 6,.int .i64 0,.slice none 0 0,.slice none 0 0] (0,0) _ rfl hbk Tryz.underlying51 rfl kR) rfl ⟨rfl,hb⟩
end Go.Proofs.YtnhmjomhloainaaGreatDoor
