/- Lemmas of the walk. Conditions: each its own. -/
import Derived.Test.YthldmddkfbijhaaGreatDoorPsr28
import Derived.Test.YthldmddkfbijhaaGreatDoorPsr29
import Derived.Test.YthldmddkfbijhaaGreatDoorProg
set_option linter.all false
set_option maxRecDepth 100000
set_option maxHeartbeats 4000000
namespace Go.Proofs.YthldmddkfbijhaaGreatDoor
open Go.RowKit
theorem kG:∀w,(sizeOf 5).run Tryz.prog w=.ok 1 w:=fun w=>by
 obtain ⟨i0,hi0,hz0,hz1,hz2⟩:=info_parts iN;simp [sizeOf,typeInfo,hi0,hz1]
theorem aFi (A1 A2:Option Addr) (n1 c1 n2 c2 B1 B2:Nat) (a b:List UInt8) (w:World) (h1:Rd w B1 1 A1 n1 (a.map bv)) (h2:Rd w B2 1 A2 n2 (b.map bv)):
 Calls Tryz.prog 50 #[.slice A1 n1 c1,.slice A2 n2 c2] w fun e w'=>e=.returned (.bool (decide (a=b)))/\w=w':=by
 have s1:=lS h1;have s2:=lS h2;clear h1 h2;go_enter Tryz.func50,Tryz.ntmps50;go_wp2;go_ret;exact ⟨bX (by rw [Bool.eq_iff_iff];simp),rfl⟩
theorem zD (A1 A2:Option Addr) (n1 c1 n2 c2 B1 B2:Nat) (a b:List UInt8) (w:World) (h1:Rd w B1 1 A1 n1 (a.map bv)) (h2:Rd w B2 1 A2 n2 (b.map bv)) (hnc:n1<=c1):
 Calls Tryz.prog 228 #[.slice A1 n1 c1,.slice A2 n2 c2] w fun e w'=>e=.returned (.bool (b.isPrefixOf a))/\w=w':=by
 have l1:a.length=n1:=by simpa using h1.1
 have l2:b.length=n2:=by simpa using h2.1
 by_cases hle:n2<=n1
 · have hcut:=mI (P:=Tryz.prog) 26 5 1 Tryz.underlying26 kG A1 n1 c1 n2 oM;have hr:=lhd (h1.cut_hi0 (k:=n2) (cap:=c1) hle);have hdec:decide ((n2:Int)<=(n1:Int))=true:=(by simp;omega);have H2:=lhd h2;have hfin:decide ((a.take n2)=b)=b.isPrefixOf a:=(by rw [Bool.eq_iff_iff];simp only [zCa,List.isPrefixOf_iff_prefix];constructor;intro h;rw [<-h];exact List.take_prefix _ _;intro h;rw [<-l2];exact (List.prefix_iff_eq_take.1 h).symm);have Hfin:=lhd hfin;clear h1 h2 l1 l2 hfin;go_enter Tryz.func228,Tryz.ntmps228;go_wp2_with fail;refine (aFi _ _ _ _ _ _ _ _ (a.take n2) b _ (by have:=hr.out;rwa [zBl,<-List.map_take] at this) H2.out).mono ?_;rintro e w' ⟨rfl,rfl⟩;go_wp2;go_ret;exact ⟨bX (by rw [<-Hfin.out]),rfl⟩
 · have hdec:decide ((n2:Int)<=(n1:Int))=false:=(by simp;omega);have hfin:b.isPrefixOf a=false:=by
    cases h:b.isPrefixOf a with
    | false=>rfl
    | true=>
      have:=(List.isPrefixOf_iff_prefix.1 h).length_le;omega
   clear h1 h2 l1 l2;go_enter Tryz.func228,Tryz.ntmps228;go_wp2;go_ret;exact ⟨bX (by simp [hfin]),rfl⟩
theorem jR (gp:Nat) (A:Option Addr) (n c:Nat) (p k:Int) (w:World) (hc:w.cell? ⟨gp,0,none⟩=some (.slice A n c)) (hn:n<=1099511627776) (hp:-9223372036854775808<=p/\p<=9223372036854775807) (hk:-9223372036854775808<=k/\k<=9223372036854775807):
 Calls Tryz.prog 186 #[gp,.int .i64 p,.int .i64 k] w fun e w'=>e=.returned (.bool (eD n p k))/\w=w':=by
 unfold eD;by_cases h1:0<=p
 · by_cases h2:0<=k
   · by_cases h3:p<=(n:Int)
     · have d1:decide (p>=0)=true:=(by simp;omega);have d2:decide (k>=0)=true:=(by simp;omega);have d3:decide (p<=(n:Int))=true:=(by simp;omega);go_enter Tryz.func186,Tryz.ntmps186;go_wp2;go_ret;exact ⟨bX (by simp [h1,h2,h3]),rfl⟩
     · have d1:decide (p>=0)=true:=(by simp;omega);have d2:decide (k>=0)=true:=(by simp;omega);have d3:decide (p<=(n:Int))=false:=(by simp;omega);go_enter Tryz.func186,Tryz.ntmps186;go_wp2;go_ret;exact ⟨bX (by simp [h3]),rfl⟩
   · have d1:decide (p>=0)=true:=(by simp;omega);have d2:decide (k>=0)=false:=(by simp;omega);go_enter Tryz.func186,Tryz.ntmps186;go_wp2;go_ret;exact ⟨bX (by simp [h2]),rfl⟩
 · have d1:decide (p>=0)=false:=(by simp;omega);go_enter Tryz.func186,Tryz.ntmps186;go_wp2;go_ret;exact ⟨bX (by simp [h1]),rfl⟩
def plV (gp B N:Nat) (T:List UInt8):Value->World->Prop:=fun _ w=>∃A c,Bk w gp 183 #[.slice A N c]/\Made w B 5 1 A N c (T.map bv)
theorem aFr (gp B N:Nat) (T:List UInt8):Stb (plV gp B N T):=fun _ _ _ ⟨A,c,h1,h2⟩ k=>⟨A,c,Bk.below h1 k h1.lt,h2.below k⟩
theorem Rd.made3 {w:World} {g:Nat} {e:TypeId} {cs:Array Value} (h:Bk w g e cs) {n:Nat} (hn:cs.size=n:=by rfl):Rd w w.heap.size 1 (some ⟨g,0,none⟩) n cs.toList:=by
 refine ⟨by simp [hn],fun _=>⟨g,0,rfl,h.lt,fun i u hu=>?_⟩⟩;rw [zBi,h.cell i];rw [<-hu];simp
theorem pY (gp:Nat) (A AD:Option Addr) (n c nd cd p k N B:Nat) (T D T2:List UInt8) (w:World) (hb:Bk w gp 183 #[.slice A n c]) (hr:Rd w w.heap.size 1 A n (T.map bv)) (hne:0 < n->∀a,A=some a->a.block≠gp)
 (hnc:n<=c) (hd:Rd w B 1 AD nd (D.map bv)) (hB:B<=w.heap.size) (hdne:0 < nd->∀a,AD=some a->a.block≠gp) (q:Nat) (hq:p+k=q) (hpk:q<=n) (h2:T.take p++(D++T.drop q)=T2) (hN:T2.length=N) (hn:n<=1099511627776) (hN2:N<=1099511627776):
 Calls Tryz.prog 187 #[gp,(p:Int),(k:Int),.slice AD nd cd] w fun e w'=>(e=.returned (.tuple #[]))/\Keep (fun b=>b=gp) w w'/\∃A' c',Bk w' gp 183 #[.slice A' N c']/\Made w' w.heap.size 5 1 A' N c' (T2.map bv):=by
 have hgp:=hb.lt;have hcat:cW [⟨dP A c 0 1,p,c,T.take p⟩,⟨AD,nd,cd,D⟩,⟨dP A c q 1,n - q,c - q,T.drop q⟩]=T2:=by rw [<-h2];simp [cW]
 have hss:∀w5,Keep (fun b=>b=gp) w w5->∀s∈([⟨dP A c 0 1,p,c,T.take p⟩,⟨AD,nd,cd,D⟩,⟨dP A c q 1,n - q,c - q,T.drop q⟩]:List MoSl),Rd w5 w5.heap.size 1 s.A s.n (s.l.map bv):=by
  intro w5 hk s hs;have hr5:=Rd.keepF hr hk nL hne;have hd5:=Rd.keepF hd hk hB hdne;have c1:=hr5.cut_hi0 (k:=p) (cap:=c) oM;have c2:=hr5.cut (k:=q) (cap:=c) hpk hnc;rw [zBl,<-List.map_take] at c1;rw [zBl,<-List.map_drop] at c2;rcases List.mem_cons.1 hs with rfl | hs;exact c1;rcases List.mem_cons.1 hs with rfl | hs;exact hd5;rcases List.mem_cons.1 hs with rfl | hs;exact c2
  · cases hs
 have hcut1:=mI (P:=Tryz.prog) 26 5 1 Tryz.underlying26 kG A n c p oM;have hcut2:=iL (P:=Tryz.prog) 26 5 1 Tryz.underlying26 kG A n c q hpk;obtain ⟨Hss,Hcat,HN⟩:=hqq3 hss hcat hN;clear hss hcat hN h2 hr hd hne hdne;go_enter Tryz.func187,Tryz.ntmps187;go_wp2;refine wp_region_any kR ?_;refine bH [8,9,10,11,12,13,14,15,16,17,18,19,20,21,22,23,24,25,26,27] (fun b=>b=gp) 20 [4,11,20] (fun w1=>Bk w1 gp 183 #[.slice A n c]) (plV gp w.heap.size N T2) [is gp,is gp,is gp,is gp,is (.slice A n c),is (p:Int),is (.slice (dP A c 0 1) p c),is (.slice AD nd cd),is gp,is gp,is gp,is (.slice A n c),is (p:Int),is (k:Int),is (q:Int),is (.slice (dP A c q 1) (n - q) (c - q)),nS (fun b=>b=gp) 26 #[.slice (dP A c 0 1) p c,.slice AD nd cd,.slice (dP A c q 1) (n - q) (c - q)] fun g=>.slice (some ⟨g,0,none⟩) 3 3,kH w.heap.size 5 1 N (T2.map bv),is gp,is gp,cR] _ _ rfl kR kR (hb) (fun w1 w2 h _ hg=>Bk.below h hg h.lt) (aFr _ _ _ _) (by repeat' (first | exact iR _ _ | exact fZ _ | exact pX _ _ _ _ | exact lJ (fun b hb=>by subst hb;exact hgp) _ _ _ _ |(refine zAe.2 ⟨?_,?_⟩)|(intro p hp;cases hp))) ?_ ?_
 · refine aM ?_;refine pH3 0 (.pointer (some ⟨gp,0,none⟩)) ?_;refine pH3 0 (.pointer (some ⟨gp,0,none⟩)) ?_;refine pV3 1 9 ?_;refine pV3 2 10 ?_;refine sC3 (fun _ w5 _ hU _ _ _ hval _ _ _ hK=>?_) ?_
   · have hpre:=hU rfl;have e11:_=_:=hval 3 11 kR rfl;have c12:w5.cell? ⟨gp,0,none⟩=some (.slice A n c):=(hpre.cell 0).trans rfl;go_simp;exact kq hK rfl
   refine pH3 1 (.int .i64 (p:Int)) ?_;refine pW3 4 12 5 13 ?_;refine pH3 3 (.slice AD nd cd) ?_;refine pH3 0 (.pointer (some ⟨gp,0,none⟩)) ?_;refine pV3 8 16 ?_;refine pV3 9 17 ?_;refine sC3 (fun _ w5 _ hU _ _ _ hval _ _ _ hK=>?_) ?_
   · have hpre:=hU rfl;have e18:_=_:=hval 10 18 kR rfl;have c19:w5.cell? ⟨gp,0,none⟩=some (.slice A n c):=(hpre.cell 0).trans rfl;go_simp;exact kq hK rfl
   refine pH3 1 (.int .i64 (p:Int)) ?_;refine pH3 2 (.int .i64 (k:Int)) ?_;refine sC3 (fun _ _ _ _ _ _ _ hval _ _ _ hK=>?_) ?_
   · have e20:_=_:=hval 12 20 kR rfl;have e21:_=_:=hval 13 21 kR rfl;go_simp;exact hK _ _ (aJ bR) (dD (by rw [IntKind.wrap_i64];omega))
   refine pW3 11 19 14 22 ?_;refine sC3 (fun _ w5 hS _ _ _ _ hval _ _ _ hK=>?_) ?_
   · replace hS:Keep (fun b=>b=gp) w w5:=kD hS;have e14:_=_:=hval 6 14 kR rfl;have e15:_=_:=hval 7 15 kR rfl;have e23:_=_:=hval 15 23 kR rfl;go_simp;exact hK _ _ (aJ (bR.alloc nL _)) ⟨_,rfl,Bk.new _ _ _,fun h=>by have:=hS.size;have h0:w5.heap.size=gp:=h;omega⟩
   refine sC3 (fun ev w5 hS _ _ _ _ hval _ _ _ hK=>?_) ?_
   · replace hS:Keep (fun b=>b=gp) w w5:=kD hS;have p24:(nS (fun b=>b=gp) 26 #[.slice (dP A c 0 1) p c,.slice AD nd cd,.slice (dP A c q 1) (n - q) (c - q)] fun g=>.slice (some ⟨g,0,none⟩) 3 3) (ev (.tmp 24)) w5:=hval 16 24 kR rfl;obtain ⟨g9,e24,hb9,hn9⟩:=p24;have hr9:=Rd.made3 (n:=3) hb9;have hS9:=hS;go_simp;refine (zR _ _ _ w5.heap.size [⟨dP A c 0 1,p,c,T.take p⟩,⟨AD,nd,cd,D⟩,⟨dP A c q 1,n - q,c - q,T.drop q⟩] T2 N Hcat.out HN.out w5 hr9 (Hss.out w5 hS) nL oM oM).mono ?_;rintro e w8 ⟨A9,c9,rfl,hm9,hb9⟩;exact hK _ _ (aJ hb9) ⟨A9,c9,rfl,hm9.mono hS.size⟩
   refine pV3 0 8 ?_;refine pV3 18 26 ?_;refine sC3 (fun ev w5 _ hU _ _ _ hval _ _ _ hK=>?_) ?_
   · have hpre:=hU rfl;have e27:_=_:=hval 19 27 kR rfl;have p25:(kH w.heap.size 5 1 N (T2.map bv)) (ev (.tmp 25)) w5:=hval 17 25 kR rfl;obtain ⟨A9,c9,e25,hm9⟩:=p25;have c20:w5.cell? ⟨gp,0,none⟩=some (.slice A n c):=(hpre.cell 0).trans rfl;have f20:=hpre.frozen 0;go_simp;refine hK (.bool true) _ (aW (Keep.setCell (F:=fun b=>b=gp) (Keep.refl _ _) (p:=⟨gp,0,none⟩) (.inl rfl) _)) ⟨A9,c9,?_,?_⟩;exact hpre.set 0 _;exact hm9.keepF (Keep.setCell (F:=fun b=>b=gp) (Keep.refl _ _) (p:=⟨gp,0,none⟩) (.inl rfl) _) (fun b hb=>by subst hb;exact hgp)
   exact aC
 · intro ev w6 hS hval hall;replace hS:Keep (fun b=>b=gp) w w6:=kD hS;obtain ⟨vJ,pJ⟩:∃v,(plV gp w.heap.size N T2) v w6:=hall 20 dC;simp only [aI,zq1,zq2,Act.put,zq3,zq4,zq5];clear hval hall;obtain ⟨A9,c9,hb9,hm9⟩:=pJ;go_wp2;exact bodyPost_end (results_none rfl _ _ _) rfl ⟨rfl,hS,A9,c9,hb9,hm9⟩
def PlS (w:World) (gp:Nat) (T:List UInt8):Prop:=∃A c,Bk w gp 183 #[.slice A T.length c]/\Rd w w.heap.size 1 A T.length (T.map bv)/\T.length<=c/\(0 < T.length->∀a,A=some a->a.block≠gp)
def fY (gp:Nat) (T2:List UInt8) (r:Told) (w w':World) (e:Ending):Prop:=
 ∃A1 c1 A2 c2,e=.returned (.agg (lF r A1 c1 A2 c2))/\Keep (fun b=>b=gp) w w'/\Made w' w.heap.size 5 1 A1 r.data.length c1 (r.data.map bv)/\Made w' w.heap.size 3 1 A2 r.places.length c2 (r.places.map nv)/\PlS w' gp T2
theorem iD {gp:Nat} {T2:List UInt8} {r:Told} {w w':World} {tmps:Array Value} {s:Nat} {A1:Option Addr} {c1:Nat} {A2:Option Addr} {c2:Nat} {ex:Exit} (hex:ex=.ret∨ex=.normal) (hp:tmps.getD 4 undef=.pointer (some ⟨s,0,none⟩)) (hb:Bk w' s 50 (lF r A1 c1 A2 c2))
 (hk:Keep (fun b=>b=gp) w w') (hm1:Made w' w.heap.size 5 1 A1 r.data.length c1 (r.data.map bv)) (hm2:Made w' w.heap.size 3 1 A2 r.places.length c2 (r.places.map nv)) (hpl:PlS w' gp T2):
 bodyPost Tryz.prog Tryz.f139 (fun e w'=>fY gp T2 r w w' e) ex ⟨tmps, []⟩ w':=by
 have hr:=results_cell_row (P:=Tryz.prog) (fn:=Tryz.f139) (p:=4) (ty:=50) rfl tmps w' s 50 (lF r A1 c1 A2 c2) (0,0) _ hp hb Tryz.underlying50 rfl kR;rcases hex with rfl | rfl;exact bodyPost_ret hr rfl ⟨A1,c1,A2,c2,rfl,hk,hm1,hm2,hpl⟩;exact bodyPost_end hr rfl ⟨A1,c1,A2,c2,rfl,hk,hm1,hm2,hpl⟩
theorem PlS.keep {w w':World} {gp:Nat} {T:List UInt8} (h:PlS w gp T) (k:Grow w w'):PlS w' gp T:=by
 obtain ⟨A,c,h1,h2,h3,h4⟩:=h;exact ⟨A,c,h1.below k h1.lt,(h2.below k).mono (Below.size k),h3,h4⟩
structure DoF (w W:World) (g gp n c nd cd:Nat) (A AD:Option Addr) (T D:List UInt8) (most kind p k:Int):Prop where
 low:Below w.heap.size w W
 step:Bk W w.heap.size 46 #[.int .i64 kind,.int .i64 p,.int .i64 k,.slice AD nd cd]
 res:Bk W (w.heap.size+1) 50 #[.int .i64 0,.int .i64 0,.slice none 0 0,.slice none 0 0]
 mod:Bk W g 185 #[gp,.int .i64 most]
 pl:Bk W gp 183 #[.slice A n c]
 rT:Rd W w.heap.size 1 A n (T.map bv)
 rD:Rd W w.heap.size 1 AD nd (D.map bv)
 gpl:gp < w.heap.size
 gne:g≠gp
 gll:g < w.heap.size
section
variable {w W W' : World} {g gp n c nd cd : Nat} {A AD : Option Addr} {T D : List UInt8} {most kind p k : Int}
theorem DoF.grow (F:DoF w W g gp n c nd cd A AD T D most kind p k) (h:Grow W W'):DoF w W' g gp n c nd cd A AD T D most kind p k:=
 ⟨F.low.trans (Below.mono h F.low.size),F.step.below h F.step.lt,F.res.below h F.res.lt,F.mod.below h F.mod.lt,F.pl.below h F.pl.lt,F.rT.below (Below.mono h F.low.size),F.rD.below (Below.mono h F.low.size),F.gpl,F.gne,F.gll⟩
theorem fR {B:Nat} (hg:Bk w g 185 #[gp,.int .i64 most]) (hb:Bk w gp 183 #[.slice A n c]) (hr:Rd w w.heap.size 1 A n (T.map bv)) (hd:Rd w B 1 AD nd (D.map bv)) (hB:B<=w.heap.size) (hgne:g≠gp):
 DoF w ((w.alloc (.cells #[.int .i64 kind,.int .i64 p,.int .i64 k,.slice AD nd cd] 46)).alloc (.cells #[.int .i64 0,.int .i64 0,.slice none 0 0,.slice none 0 0] 50)) g gp n c nd cd A AD T D most kind p k:=by
 have hbl:=((Below.refl w.heap.size w).alloc nL (.cells #[.int .i64 kind,.int .i64 p,.int .i64 k,.slice AD nd cd] 46)).alloc (by simp) (.cells #[.int .i64 0,.int .i64 0,.slice none 0 0,.slice none 0 0] 50);refine ⟨hbl,(Bk.new _ _ _).alloc _,?_,(hg.alloc _).alloc _,(hb.alloc _).alloc _,hr.below hbl,(hd.mono hB).below hbl,hb.lt,hgne,hg.lt⟩;simpa using Bk.new (w.alloc (.cells #[.int .i64 kind,.int .i64 p,.int .i64 k,.slice AD nd cd] 46)) 50 #[.int .i64 0,.int .i64 0,.slice none 0 0,.slice none 0 0]
theorem xD {B N:Nat} {T2:List UInt8} (hb:Bk W gp 183 #[.slice A N c]) (hm:Made W B 5 1 A N c (T2.map bv)) (hN:T2.length=N) (hgp:gp < B):PlS W gp T2:=by
 subst hN;refine ⟨A,c,hb,hm.rd,hm.cap,fun _ a ha=>?_⟩;subst ha;have:=(hm.own.lt a.block rfl).1;omega
end
def aK4 (B:Nat) (num:Int) (X:List UInt8):Value->World->Prop:=fun v w=>∃A c,v=.agg (lF ⟨0,num,X, []⟩ A c none 0)/\Made w B 5 1 A X.length c (X.map bv)
theorem aHO {F:Nat->Prop} {B:Nat} (hf:∀b,F b->b < B) (num:Int) (X:List UInt8):yS F (aK4 B num X):=fun _ _ _ ⟨A,c,h1,h2⟩ k=>⟨A,c,h1,h2.keepF k hf⟩
def aK3 (s B:Nat) (num:Int) (X:List UInt8):Value->World->Prop:=fun _ w=>∃A c,Bk w s 50 (lF ⟨0,num,X, []⟩ A c none 0)/\Made w B 5 1 A X.length c (X.map bv)
theorem aI6 (s B:Nat) (num:Int) (X:List UInt8):Stb (aK3 s B num X):=fun _ _ _ ⟨A,c,h1,h2⟩ k=>⟨A,c,Bk.below h1 k h1.lt,h2.below k⟩
def aD2 (gp B N:Nat) (T:List UInt8):Value->World->Prop:=fun v w=>v=.tuple #[]/\plV gp B N T v w
theorem wP (gp B N:Nat) (T:List UInt8):Stb (aD2 gp B N T):=fun v w w' ⟨h1,h2⟩ k=>⟨h1,aFr _ _ _ _ v w w' h2 k⟩
theorem aB5 (g gp:Nat) (AD:Option Addr) (nd cd B:Nat) (p k:Int) (most:Int) (T D:List UInt8) (w:World) (hg:Bk w g 185 #[gp,.int .i64 most]) (hp:PlS w gp T)
 (hd:Rd w B 1 AD nd (D.map bv)) (hB:B<=w.heap.size) (hdne:0 < nd->∀a,AD=some a->a.block≠gp) (hgne:g≠gp) (hT:T.length<=549755813888) (hD:nd<=549755813888) (hpb:-9223372036854775808<=(p:Int)/\(p:Int)<=9223372036854775807) (hkb:-9223372036854775808<=(k:Int)/\(k:Int)<=9223372036854775807) (hmb:0<=most/\most<=2147483648)
 (hhas:eD T.length p 0=false):
 Calls Tryz.prog 139 #[g,bT 1 p k AD nd cd] w fun e w'=>fY gp (T) ⟨2,0, [], []⟩ w w' e:=by
 have Hp:=lhd hp;obtain ⟨A,c,hb,hr,hnc,hne⟩:=hp;obtain ⟨n,hn⟩:=eqx T.length;rw [hn] at hb hr hnc hT hne;rw [hn] at hhas;have hDl:D.length=nd:=by simpa using hd.1
 have F:=fR (kind:=1) (p:=p) (k:=k) (cd:=cd) hg hb hr hd hB hgne;obtain ⟨HF,Hn,Hne,Hdne⟩:=hqq4 F hn hne hdne;clear hb hr hd hg F hn hne hdne;unfold bT;go_enter Tryz.func139,Tryz.ntmps139;go_wp2;obtain ⟨W,hW⟩:=eqx ((w.alloc (.cells #[.int .i64 1,.int .i64 p,.int .i64 k,.slice AD nd cd] 46)).alloc (.cells #[.int .i64 0,.int .i64 0,.slice none 0 0,.slice none 0 0] 50));rw [hW] at HF⊢;have F:=HF.out;clear hW HF;refine wp_region_any kR ?_;refine aO [15,16,17,18,19,20,21,22,14] Grow (Vs [is g,is g,is g,is gp,is (.pointer (some ⟨w.heap.size,1,none⟩)),is (.int .i64 p),is (.bool false),is (.bool true),is (.bool true)]) _ _ rfl kR bR (fun _ _=>Grow.trans) (eU tA2) ?_ ?_
 · refine aM ?_;refine sC (fun ev _ _ _ _ hold _ _ _ _ hK=>?_) ?_
   · have e0:ev (.tmp 0)=.pointer (some ⟨g,0,none⟩):=hold 0 kR;go_simp;exact hK _ _ bR rfl
   refine sC (fun _ _ _ _ _ _ hval _ _ _ hK=>?_) ?_
   · have e15:_=_:=hval 0 15 kR rfl;go_simp;exact hK _ _ bR rfl
   refine sC (fun _ _ _ _ _ _ hval _ _ _ hK=>?_) ?_
   · have e16:_=_:=hval 1 16 kR rfl;go_simp;exact hK _ _ bR rfl
   refine sC (fun _ w5 hS _ _ _ hval _ _ _ hK=>?_) ?_
   · have e17:_=_:=hval 2 17 kR rfl;replace hS:Grow W w5:=⟨hS.os,hS.tape,hS.output,hS.size,hS.block⟩;have c18:w5.cell? ⟨g,0,none⟩=some (.pointer (some ⟨gp,0,none⟩)):=((F.mod.below hS F.mod.lt).cell 0).trans rfl;go_simp;exact hK _ _ bR rfl
   refine sC (fun ev _ _ _ _ hold _ _ _ _ hK=>?_) ?_
   · have e3:ev (.tmp 3)=.pointer (some ⟨w.heap.size,0,none⟩):=hold 3 kR;go_simp;exact hK _ _ bR rfl
   refine sC (fun _ w5 hS _ _ _ hval _ _ _ hK=>?_) ?_
   · have e19:_=_:=hval 4 19 kR rfl;replace hS:Grow W w5:=⟨hS.os,hS.tape,hS.output,hS.size,hS.block⟩;have c20:w5.cell? ⟨w.heap.size,1,none⟩=some (.int .i64 p):=((F.step.below hS F.step.lt).cell 1).trans rfl;go_simp;exact hK _ _ bR rfl
   refine sC (fun _ w5 hS _ _ _ hval _ _ _ hK=>?_) ?_
   · have e18:_=_:=hval 3 18 kR rfl;have e20:_=_:=hval 5 20 kR rfl;replace hS:Grow W w5:=⟨hS.os,hS.tape,hS.output,hS.size,hS.block⟩;go_simp;refine (jR gp A n c p (0) w5 (((F.pl.below hS F.pl.lt).cell 0).trans rfl) oM hpb oM).mono ?_;rintro e w8 ⟨rfl,rfl⟩;exact hK _ _ bR (iF hhas)
   refine sC (fun _ _ _ _ _ _ hval _ _ _ hK=>?_) ?_
   · have e21:_=_:=hval 6 21 kR rfl;go_simp;exact hK _ _ bR rfl
   refine sC (fun _ _ _ _ _ _ hval _ _ _ hK=>?_) ?_
   · have e22:_=_:=hval 7 22 kR rfl;go_simp;exact hK _ _ bR rfl
   exact aC
 · intro ev w6 hS hval;replace hS:Grow W w6:=⟨hS.os,hS.tape,hS.output,hS.size,hS.block⟩;have e14:ev (.tmp 14)=.bool true:=hval 8 14 rfl;simp only [aI,zq1,zq2,Act.put,zq3,zq4,zq5];rw [e14];clear hval;have hF:=F.grow hS;have hres:=hF.res;have r0:w6.cell? ⟨w.heap.size+1,0,none⟩=some (.int .i64 0):=(hres.cell 0).trans rfl;have f0:=hres.frozen 0;have r1:w6.cell? ⟨w.heap.size+1,1,none⟩=some (.int .i64 0):=(hres.cell 1).trans rfl;have f1:=hres.frozen 1;have r2:w6.cell? ⟨w.heap.size+1,2,none⟩=some (.slice none 0 0):=(hres.cell 2).trans rfl;have f2:=hres.frozen 2;have r3:w6.cell? ⟨w.heap.size+1,3,none⟩=some (.slice none 0 0):=(hres.cell 3).trans rfl;have f3:=hres.frozen 3;go_wp2;have hbl:=lU (v0:=.int .i64 2) (v1:=.int .i64 0) (v2:=.slice none 0 0) (v3:=.slice none 0 0) (Nat.le_succ w.heap.size) hF.low;exact iD (s:=w.heap.size+1) (A1:=none) (c1:=0) (A2:=none) (c2:=0) (.inl rfl) rfl (gZ hres) (Keep.of_below hbl) (bB _ _ _) (bB _ _ _) (Hp.out.keep hbl)
theorem aDH (g gp:Nat) (AD:Option Addr) (nd cd B:Nat) (p k:Int) (most:Int) (T D:List UInt8) (w:World) (hg:Bk w g 185 #[gp,.int .i64 most]) (hp:PlS w gp T)
 (hd:Rd w B 1 AD nd (D.map bv)) (hB:B<=w.heap.size) (hdne:0 < nd->∀a,AD=some a->a.block≠gp) (hgne:g≠gp) (hT:T.length<=549755813888) (hD:nd<=549755813888) (hpb:-9223372036854775808<=(p:Int)/\(p:Int)<=9223372036854775807) (hkb:-9223372036854775808<=(k:Int)/\(k:Int)<=9223372036854775807) (hmb:0<=most/\most<=2147483648)
 (hhas:eD T.length p 0=true) (hfull:most -(T.length:Int) < (nd:Int)):
 Calls Tryz.prog 139 #[g,bT 1 p k AD nd cd] w fun e w'=>fY gp (T) ⟨3,0, [], []⟩ w w' e:=by
 have Hp:=lhd hp;obtain ⟨A,c,hb,hr,hnc,hne⟩:=hp;obtain ⟨n,hn⟩:=eqx T.length;rw [hn] at hb hr hnc hT hne;rw [hn] at hhas hfull;have hDl:D.length=nd:=by simpa using hd.1
 have F:=fR (kind:=1) (p:=p) (k:=k) (cd:=cd) hg hb hr hd hB hgne;obtain ⟨HF,Hn,Hne,Hdne⟩:=hqq4 F hn hne hdne;clear hb hr hd hg F hn hne hdne;unfold bT;go_enter Tryz.func139,Tryz.ntmps139;go_wp2;obtain ⟨W,hW⟩:=eqx ((w.alloc (.cells #[.int .i64 1,.int .i64 p,.int .i64 k,.slice AD nd cd] 46)).alloc (.cells #[.int .i64 0,.int .i64 0,.slice none 0 0,.slice none 0 0] 50));rw [hW] at HF⊢;have F:=HF.out;clear hW HF;refine wp_region_any kR ?_;refine aO [15,16,17,18,19,20,21,22,14] Grow (Vs [is g,is g,is g,is gp,is (.pointer (some ⟨w.heap.size,1,none⟩)),is (.int .i64 p),is (.bool true),is (.bool false),is (.bool false)]) _ _ rfl kR bR (fun _ _=>Grow.trans) (eU tA2) ?_ ?_
 · refine aM ?_;refine sC (fun ev _ _ _ _ hold _ _ _ _ hK=>?_) ?_
   · have e0:ev (.tmp 0)=.pointer (some ⟨g,0,none⟩):=hold 0 kR;go_simp;exact hK _ _ bR rfl
   refine sC (fun _ _ _ _ _ _ hval _ _ _ hK=>?_) ?_
   · have e15:_=_:=hval 0 15 kR rfl;go_simp;exact hK _ _ bR rfl
   refine sC (fun _ _ _ _ _ _ hval _ _ _ hK=>?_) ?_
   · have e16:_=_:=hval 1 16 kR rfl;go_simp;exact hK _ _ bR rfl
   refine sC (fun _ w5 hS _ _ _ hval _ _ _ hK=>?_) ?_
   · have e17:_=_:=hval 2 17 kR rfl;replace hS:Grow W w5:=⟨hS.os,hS.tape,hS.output,hS.size,hS.block⟩;have c18:w5.cell? ⟨g,0,none⟩=some (.pointer (some ⟨gp,0,none⟩)):=((F.mod.below hS F.mod.lt).cell 0).trans rfl;go_simp;exact hK _ _ bR rfl
   refine sC (fun ev _ _ _ _ hold _ _ _ _ hK=>?_) ?_
   · have e3:ev (.tmp 3)=.pointer (some ⟨w.heap.size,0,none⟩):=hold 3 kR;go_simp;exact hK _ _ bR rfl
   refine sC (fun _ w5 hS _ _ _ hval _ _ _ hK=>?_) ?_
   · have e19:_=_:=hval 4 19 kR rfl;replace hS:Grow W w5:=⟨hS.os,hS.tape,hS.output,hS.size,hS.block⟩;have c20:w5.cell? ⟨w.heap.size,1,none⟩=some (.int .i64 p):=((F.step.below hS F.step.lt).cell 1).trans rfl;go_simp;exact hK _ _ bR rfl
   refine sC (fun _ w5 hS _ _ _ hval _ _ _ hK=>?_) ?_
   · have e18:_=_:=hval 3 18 kR rfl;have e20:_=_:=hval 5 20 kR rfl;replace hS:Grow W w5:=⟨hS.os,hS.tape,hS.output,hS.size,hS.block⟩;go_simp;refine (jR gp A n c p (0) w5 (((F.pl.below hS F.pl.lt).cell 0).trans rfl) oM hpb oM).mono ?_;rintro e w8 ⟨rfl,rfl⟩;exact hK _ _ bR (iF hhas)
   refine sC (fun _ _ _ _ _ _ hval _ _ _ hK=>?_) ?_
   · have e21:_=_:=hval 6 21 kR rfl;go_simp;exact hK _ _ bR rfl
   refine sC (fun _ _ _ _ _ _ hval _ _ _ hK=>?_) ?_
   · have e22:_=_:=hval 7 22 kR rfl;go_simp;exact hK _ _ bR rfl
   exact aC
 · intro ev w6 hS hval;replace hS:Grow W w6:=⟨hS.os,hS.tape,hS.output,hS.size,hS.block⟩;have e14:ev (.tmp 14)=.bool false:=hval 8 14 rfl;simp only [aI,zq1,zq2,Act.put,zq3,zq4,zq5];rw [e14];clear hval;have F6:=F.grow hS;clear F hS;revert F6;generalize w6=W2;intro F;go_wp2;refine wp_region_any kR ?_;refine aO [25,26,27,28,29,30,31,32,33,34,35,36,37,38,39,40,41,24] Grow (Vs [is (.pointer (some ⟨w.heap.size,3,none⟩)),is (.slice AD nd cd),is (nd:Int),is g,is g,is (.pointer (some ⟨g,1,none⟩)),is (.int .i64 most),is g,is g,is g,is gp,is gp,is gp,is (.slice A n c),is (n:Int),is (.int .i64 (most -(n:Int))),is (.bool true),is (.bool true)]) _ _ rfl kR bR (fun _ _=>Grow.trans) (eU tA2) ?_ ?_
   · refine aM ?_;refine sC (fun ev _ _ _ _ hold _ _ _ _ hK=>?_) ?_
     · have e3:ev (.tmp 3)=.pointer (some ⟨w.heap.size,0,none⟩):=hold 3 kR;go_simp;exact hK _ _ bR rfl
     refine sC (fun _ w5 hS _ _ _ hval _ _ _ hK=>?_) ?_
     · have e25:_=_:=hval 0 25 kR rfl;replace hS:Grow W2 w5:=⟨hS.os,hS.tape,hS.output,hS.size,hS.block⟩;have c26:w5.cell? ⟨w.heap.size,3,none⟩=some (.slice AD nd cd):=((F.step.below hS F.step.lt).cell 3).trans rfl;go_simp;exact hK _ _ bR rfl
     refine sC (fun _ _ _ _ _ _ hval _ _ _ hK=>?_) ?_
     · have e26:_=_:=hval 1 26 kR rfl;go_simp;exact hK _ _ bR rfl
     refine sC (fun ev _ _ _ _ hold _ _ _ _ hK=>?_) ?_
     · have e0:ev (.tmp 0)=.pointer (some ⟨g,0,none⟩):=hold 0 kR;go_simp;exact hK _ _ bR rfl
     refine sC (fun _ _ _ _ _ _ hval _ _ _ hK=>?_) ?_
     · have e28:_=_:=hval 3 28 kR rfl;go_simp;exact hK _ _ bR rfl
     refine sC (fun _ _ _ _ _ _ hval _ _ _ hK=>?_) ?_
     · have e29:_=_:=hval 4 29 kR rfl;go_simp;exact hK _ _ bR rfl
     refine sC (fun _ w5 hS _ _ _ hval _ _ _ hK=>?_) ?_
     · have e30:_=_:=hval 5 30 kR rfl;replace hS:Grow W2 w5:=⟨hS.os,hS.tape,hS.output,hS.size,hS.block⟩;have c31:w5.cell? ⟨g,1,none⟩=some (.int .i64 most):=((F.mod.below hS F.mod.lt).cell 1).trans rfl;go_simp;exact hK _ _ bR rfl
     refine sC (fun ev _ _ _ _ hold _ _ _ _ hK=>?_) ?_
     · have e0:ev (.tmp 0)=.pointer (some ⟨g,0,none⟩):=hold 0 kR;go_simp;exact hK _ _ bR rfl
     refine sC (fun _ _ _ _ _ _ hval _ _ _ hK=>?_) ?_
     · have e32:_=_:=hval 7 32 kR rfl;go_simp;exact hK _ _ bR rfl
     refine sC (fun _ _ _ _ _ _ hval _ _ _ hK=>?_) ?_
     · have e33:_=_:=hval 8 33 kR rfl;go_simp;exact hK _ _ bR rfl
     refine sC (fun _ w5 hS _ _ _ hval _ _ _ hK=>?_) ?_
     · have e34:_=_:=hval 9 34 kR rfl;replace hS:Grow W2 w5:=⟨hS.os,hS.tape,hS.output,hS.size,hS.block⟩;have c35:w5.cell? ⟨g,0,none⟩=some (.pointer (some ⟨gp,0,none⟩)):=((F.mod.below hS F.mod.lt).cell 0).trans rfl;go_simp;exact hK _ _ bR rfl
     refine sC (fun _ _ _ _ _ _ hval _ _ _ hK=>?_) ?_
     · have e35:_=_:=hval 10 35 kR rfl;go_simp;exact hK _ _ bR rfl
     refine sC (fun _ _ _ _ _ _ hval _ _ _ hK=>?_) ?_
     · have e36:_=_:=hval 11 36 kR rfl;go_simp;exact hK _ _ bR rfl
     refine sC (fun _ w5 hS _ _ _ hval _ _ _ hK=>?_) ?_
     · have e37:_=_:=hval 12 37 kR rfl;replace hS:Grow W2 w5:=⟨hS.os,hS.tape,hS.output,hS.size,hS.block⟩;have c38:w5.cell? ⟨gp,0,none⟩=some (.slice A n c):=((F.pl.below hS F.pl.lt).cell 0).trans rfl;go_simp;exact hK _ _ bR rfl
     refine sC (fun _ _ _ _ _ _ hval _ _ _ hK=>?_) ?_
     · have e38:_=_:=hval 13 38 kR rfl;go_simp;exact hK _ _ bR rfl
     refine sC (fun _ _ _ _ _ _ hval _ _ _ hK=>?_) ?_
     · have e31:_=_:=hval 6 31 kR rfl;have e39:_=_:=hval 14 39 kR rfl;go_simp;exact hK _ _ bR (dD (by rw [IntKind.wrap_i64];omega))
     refine sC (fun _ _ _ _ _ _ hval _ _ _ hK=>?_) ?_
     · have e27:_=_:=hval 2 27 kR rfl;have e40:_=_:=hval 15 40 kR rfl;go_simp;exact hK _ _ bR (iF (by simp <;> omega))
     refine sC (fun _ _ _ _ _ _ hval _ _ _ hK=>?_) ?_
     · have e41:_=_:=hval 16 41 kR rfl;go_simp;exact hK _ _ bR rfl
     exact aC
   · intro ev w6 hS hval;replace hS:Grow W2 w6:=⟨hS.os,hS.tape,hS.output,hS.size,hS.block⟩;have e24:ev (.tmp 24)=.bool true:=hval 17 24 rfl;simp only [aI,zq1,zq2,Act.put,zq3,zq4,zq5];rw [e24];clear hval;have hF:=F.grow hS;have hres:=hF.res;have r0:w6.cell? ⟨w.heap.size+1,0,none⟩=some (.int .i64 0):=(hres.cell 0).trans rfl;have f0:=hres.frozen 0;have r1:w6.cell? ⟨w.heap.size+1,1,none⟩=some (.int .i64 0):=(hres.cell 1).trans rfl;have f1:=hres.frozen 1;have r2:w6.cell? ⟨w.heap.size+1,2,none⟩=some (.slice none 0 0):=(hres.cell 2).trans rfl;have f2:=hres.frozen 2;have r3:w6.cell? ⟨w.heap.size+1,3,none⟩=some (.slice none 0 0):=(hres.cell 3).trans rfl;have f3:=hres.frozen 3;go_wp2;have hbl:=lU (v0:=.int .i64 3) (v1:=.int .i64 0) (v2:=.slice none 0 0) (v3:=.slice none 0 0) (Nat.le_succ w.heap.size) hF.low;exact iD (s:=w.heap.size+1) (A1:=none) (c1:=0) (A2:=none) (c2:=0) (.inl rfl) rfl (gZ hres) (Keep.of_below hbl) (bB _ _ _) (bB _ _ _) (Hp.out.keep hbl)
theorem aB6 (g gp:Nat) (AD:Option Addr) (nd cd B:Nat) (p k:Int) (most:Int) (T D:List UInt8) (w:World) (hg:Bk w g 185 #[gp,.int .i64 most]) (hp:PlS w gp T)
 (hd:Rd w B 1 AD nd (D.map bv)) (hB:B<=w.heap.size) (hdne:0 < nd->∀a,AD=some a->a.block≠gp) (hgne:g≠gp) (hT:T.length<=549755813888) (hD:nd<=549755813888) (hpb:-9223372036854775808<=(p:Int)/\(p:Int)<=9223372036854775807) (hkb:-9223372036854775808<=(k:Int)/\(k:Int)<=9223372036854775807) (hmb:0<=most/\most<=2147483648)
 (hhas:eD T.length p k=false):
 Calls Tryz.prog 139 #[g,bT 2 p k AD nd cd] w fun e w'=>fY gp (T) ⟨2,0, [], []⟩ w w' e:=by
 have Hp:=lhd hp;obtain ⟨A,c,hb,hr,hnc,hne⟩:=hp;obtain ⟨n,hn⟩:=eqx T.length;rw [hn] at hb hr hnc hT hne;rw [hn] at hhas;have hDl:D.length=nd:=by simpa using hd.1
 have F:=fR (kind:=2) (p:=p) (k:=k) (cd:=cd) hg hb hr hd hB hgne;obtain ⟨HF,Hn,Hne,Hdne⟩:=hqq4 F hn hne hdne;clear hb hr hd hg F hn hne hdne;unfold bT;go_enter Tryz.func139,Tryz.ntmps139;go_wp2;obtain ⟨W,hW⟩:=eqx ((w.alloc (.cells #[.int .i64 2,.int .i64 p,.int .i64 k,.slice AD nd cd] 46)).alloc (.cells #[.int .i64 0,.int .i64 0,.slice none 0 0,.slice none 0 0] 50));rw [hW] at HF⊢;have F:=HF.out;clear hW HF;refine wp_region_any kR ?_;refine aO [55,56,57,58,59,60,61,62,63,64] Grow (Vs [is g,is g,is g,is gp,is (.pointer (some ⟨w.heap.size,1,none⟩)),is (.int .i64 p),is (.pointer (some ⟨w.heap.size,2,none⟩)),is (.int .i64 k),is (.bool false),is (.bool true)]) _ _ rfl kR bR (fun _ _=>Grow.trans) (eU tA2) ?_ ?_
 · refine aM ?_;refine sC (fun ev _ _ _ _ hold _ _ _ _ hK=>?_) ?_
   · have e0:ev (.tmp 0)=.pointer (some ⟨g,0,none⟩):=hold 0 kR;go_simp;exact hK _ _ bR rfl
   refine sC (fun _ _ _ _ _ _ hval _ _ _ hK=>?_) ?_
   · have e55:_=_:=hval 0 55 kR rfl;go_simp;exact hK _ _ bR rfl
   refine sC (fun _ _ _ _ _ _ hval _ _ _ hK=>?_) ?_
   · have e56:_=_:=hval 1 56 kR rfl;go_simp;exact hK _ _ bR rfl
   refine sC (fun _ w5 hS _ _ _ hval _ _ _ hK=>?_) ?_
   · have e57:_=_:=hval 2 57 kR rfl;replace hS:Grow W w5:=⟨hS.os,hS.tape,hS.output,hS.size,hS.block⟩;have c58:w5.cell? ⟨g,0,none⟩=some (.pointer (some ⟨gp,0,none⟩)):=((F.mod.below hS F.mod.lt).cell 0).trans rfl;go_simp;exact hK _ _ bR rfl
   refine sC (fun ev _ _ _ _ hold _ _ _ _ hK=>?_) ?_
   · have e3:ev (.tmp 3)=.pointer (some ⟨w.heap.size,0,none⟩):=hold 3 kR;go_simp;exact hK _ _ bR rfl
   refine sC (fun _ w5 hS _ _ _ hval _ _ _ hK=>?_) ?_
   · have e59:_=_:=hval 4 59 kR rfl;replace hS:Grow W w5:=⟨hS.os,hS.tape,hS.output,hS.size,hS.block⟩;have c60:w5.cell? ⟨w.heap.size,1,none⟩=some (.int .i64 p):=((F.step.below hS F.step.lt).cell 1).trans rfl;go_simp;exact hK _ _ bR rfl
   refine sC (fun ev _ _ _ _ hold _ _ _ _ hK=>?_) ?_
   · have e3:ev (.tmp 3)=.pointer (some ⟨w.heap.size,0,none⟩):=hold 3 kR;go_simp;exact hK _ _ bR rfl
   refine sC (fun _ w5 hS _ _ _ hval _ _ _ hK=>?_) ?_
   · have e61:_=_:=hval 6 61 kR rfl;replace hS:Grow W w5:=⟨hS.os,hS.tape,hS.output,hS.size,hS.block⟩;have c62:w5.cell? ⟨w.heap.size,2,none⟩=some (.int .i64 k):=((F.step.below hS F.step.lt).cell 2).trans rfl;go_simp;exact hK _ _ bR rfl
   refine sC (fun _ w5 hS _ _ _ hval _ _ _ hK=>?_) ?_
   · have e58:_=_:=hval 3 58 kR rfl;have e60:_=_:=hval 5 60 kR rfl;have e62:_=_:=hval 7 62 kR rfl;replace hS:Grow W w5:=⟨hS.os,hS.tape,hS.output,hS.size,hS.block⟩;go_simp;refine (jR gp A n c p (k) w5 (((F.pl.below hS F.pl.lt).cell 0).trans rfl) oM hpb hkb).mono ?_;rintro e w8 ⟨rfl,rfl⟩;exact hK _ _ bR (iF hhas)
   refine sC (fun _ _ _ _ _ _ hval _ _ _ hK=>?_) ?_
   · have e63:_=_:=hval 8 63 kR rfl;go_simp;exact hK _ _ bR rfl
   exact aC
 · intro ev w6 hS hval;replace hS:Grow W w6:=⟨hS.os,hS.tape,hS.output,hS.size,hS.block⟩;have e64:ev (.tmp 64)=.bool true:=hval 9 64 rfl;simp only [aI,zq1,zq2,Act.put,zq3,zq4,zq5];rw [e64];clear hval;have hF:=F.grow hS;have hres:=hF.res;have r0:w6.cell? ⟨w.heap.size+1,0,none⟩=some (.int .i64 0):=(hres.cell 0).trans rfl;have f0:=hres.frozen 0;have r1:w6.cell? ⟨w.heap.size+1,1,none⟩=some (.int .i64 0):=(hres.cell 1).trans rfl;have f1:=hres.frozen 1;have r2:w6.cell? ⟨w.heap.size+1,2,none⟩=some (.slice none 0 0):=(hres.cell 2).trans rfl;have f2:=hres.frozen 2;have r3:w6.cell? ⟨w.heap.size+1,3,none⟩=some (.slice none 0 0):=(hres.cell 3).trans rfl;have f3:=hres.frozen 3;go_wp2;have hbl:=lU (v0:=.int .i64 2) (v1:=.int .i64 0) (v2:=.slice none 0 0) (v3:=.slice none 0 0) (Nat.le_succ w.heap.size) hF.low;exact iD (s:=w.heap.size+1) (A1:=none) (c1:=0) (A2:=none) (c2:=0) (.inl rfl) rfl (gZ hres) (Keep.of_below hbl) (bB _ _ _) (bB _ _ _) (Hp.out.keep hbl)
theorem aAp (g gp:Nat) (AD:Option Addr) (nd cd B:Nat) (p k:Int) (most:Int) (T D:List UInt8) (w:World) (hg:Bk w g 185 #[gp,.int .i64 most]) (hp:PlS w gp T)
 (hd:Rd w B 1 AD nd (D.map bv)) (hB:B<=w.heap.size) (hdne:0 < nd->∀a,AD=some a->a.block≠gp) (hgne:g≠gp) (hT:T.length<=549755813888) (hD:nd<=549755813888) (hpb:-9223372036854775808<=(p:Int)/\(p:Int)<=9223372036854775807) (hkb:-9223372036854775808<=(k:Int)/\(k:Int)<=9223372036854775807) (hmb:0<=most/\most<=2147483648)
 (hhas:eD T.length p k=false):
 Calls Tryz.prog 139 #[g,bT 5 p k AD nd cd] w fun e w'=>fY gp (T) ⟨2,0, [], []⟩ w w' e:=by
 have Hp:=lhd hp;obtain ⟨A,c,hb,hr,hnc,hne⟩:=hp;obtain ⟨n,hn⟩:=eqx T.length;rw [hn] at hb hr hnc hT hne;rw [hn] at hhas;have hDl:D.length=nd:=by simpa using hd.1
 have F:=fR (kind:=5) (p:=p) (k:=k) (cd:=cd) hg hb hr hd hB hgne;obtain ⟨HF,Hn,Hne,Hdne⟩:=hqq4 F hn hne hdne;clear hb hr hd hg F hn hne hdne;unfold bT;go_enter Tryz.func139,Tryz.ntmps139;go_wp2;obtain ⟨W,hW⟩:=eqx ((w.alloc (.cells #[.int .i64 5,.int .i64 p,.int .i64 k,.slice AD nd cd] 46)).alloc (.cells #[.int .i64 0,.int .i64 0,.slice none 0 0,.slice none 0 0] 50));rw [hW] at HF⊢;have F:=HF.out;clear hW HF;refine wp_region_any kR ?_;refine aO [55,56,57,58,59,60,61,62,63,64] Grow (Vs [is g,is g,is g,is gp,is (.pointer (some ⟨w.heap.size,1,none⟩)),is (.int .i64 p),is (.pointer (some ⟨w.heap.size,2,none⟩)),is (.int .i64 k),is (.bool false),is (.bool true)]) _ _ rfl kR bR (fun _ _=>Grow.trans) (eU tA2) ?_ ?_
 · refine aM ?_;refine sC (fun ev _ _ _ _ hold _ _ _ _ hK=>?_) ?_
   · have e0:ev (.tmp 0)=.pointer (some ⟨g,0,none⟩):=hold 0 kR;go_simp;exact hK _ _ bR rfl
   refine sC (fun _ _ _ _ _ _ hval _ _ _ hK=>?_) ?_
   · have e55:_=_:=hval 0 55 kR rfl;go_simp;exact hK _ _ bR rfl
   refine sC (fun _ _ _ _ _ _ hval _ _ _ hK=>?_) ?_
   · have e56:_=_:=hval 1 56 kR rfl;go_simp;exact hK _ _ bR rfl
   refine sC (fun _ w5 hS _ _ _ hval _ _ _ hK=>?_) ?_
   · have e57:_=_:=hval 2 57 kR rfl;replace hS:Grow W w5:=⟨hS.os,hS.tape,hS.output,hS.size,hS.block⟩;have c58:w5.cell? ⟨g,0,none⟩=some (.pointer (some ⟨gp,0,none⟩)):=((F.mod.below hS F.mod.lt).cell 0).trans rfl;go_simp;exact hK _ _ bR rfl
   refine sC (fun ev _ _ _ _ hold _ _ _ _ hK=>?_) ?_
   · have e3:ev (.tmp 3)=.pointer (some ⟨w.heap.size,0,none⟩):=hold 3 kR;go_simp;exact hK _ _ bR rfl
   refine sC (fun _ w5 hS _ _ _ hval _ _ _ hK=>?_) ?_
   · have e59:_=_:=hval 4 59 kR rfl;replace hS:Grow W w5:=⟨hS.os,hS.tape,hS.output,hS.size,hS.block⟩;have c60:w5.cell? ⟨w.heap.size,1,none⟩=some (.int .i64 p):=((F.step.below hS F.step.lt).cell 1).trans rfl;go_simp;exact hK _ _ bR rfl
   refine sC (fun ev _ _ _ _ hold _ _ _ _ hK=>?_) ?_
   · have e3:ev (.tmp 3)=.pointer (some ⟨w.heap.size,0,none⟩):=hold 3 kR;go_simp;exact hK _ _ bR rfl
   refine sC (fun _ w5 hS _ _ _ hval _ _ _ hK=>?_) ?_
   · have e61:_=_:=hval 6 61 kR rfl;replace hS:Grow W w5:=⟨hS.os,hS.tape,hS.output,hS.size,hS.block⟩;have c62:w5.cell? ⟨w.heap.size,2,none⟩=some (.int .i64 k):=((F.step.below hS F.step.lt).cell 2).trans rfl;go_simp;exact hK _ _ bR rfl
   refine sC (fun _ w5 hS _ _ _ hval _ _ _ hK=>?_) ?_
   · have e58:_=_:=hval 3 58 kR rfl;have e60:_=_:=hval 5 60 kR rfl;have e62:_=_:=hval 7 62 kR rfl;replace hS:Grow W w5:=⟨hS.os,hS.tape,hS.output,hS.size,hS.block⟩;go_simp;refine (jR gp A n c p (k) w5 (((F.pl.below hS F.pl.lt).cell 0).trans rfl) oM hpb hkb).mono ?_;rintro e w8 ⟨rfl,rfl⟩;exact hK _ _ bR (iF hhas)
   refine sC (fun _ _ _ _ _ _ hval _ _ _ hK=>?_) ?_
   · have e63:_=_:=hval 8 63 kR rfl;go_simp;exact hK _ _ bR rfl
   exact aC
 · intro ev w6 hS hval;replace hS:Grow W w6:=⟨hS.os,hS.tape,hS.output,hS.size,hS.block⟩;have e64:ev (.tmp 64)=.bool true:=hval 9 64 rfl;simp only [aI,zq1,zq2,Act.put,zq3,zq4,zq5];rw [e64];clear hval;have hF:=F.grow hS;have hres:=hF.res;have r0:w6.cell? ⟨w.heap.size+1,0,none⟩=some (.int .i64 0):=(hres.cell 0).trans rfl;have f0:=hres.frozen 0;have r1:w6.cell? ⟨w.heap.size+1,1,none⟩=some (.int .i64 0):=(hres.cell 1).trans rfl;have f1:=hres.frozen 1;have r2:w6.cell? ⟨w.heap.size+1,2,none⟩=some (.slice none 0 0):=(hres.cell 2).trans rfl;have f2:=hres.frozen 2;have r3:w6.cell? ⟨w.heap.size+1,3,none⟩=some (.slice none 0 0):=(hres.cell 3).trans rfl;have f3:=hres.frozen 3;go_wp2;have hbl:=lU (v0:=.int .i64 2) (v1:=.int .i64 0) (v2:=.slice none 0 0) (v3:=.slice none 0 0) (Nat.le_succ w.heap.size) hF.low;exact iD (s:=w.heap.size+1) (A1:=none) (c1:=0) (A2:=none) (c2:=0) (.inl rfl) rfl (gZ hres) (Keep.of_below hbl) (bB _ _ _) (bB _ _ _) (Hp.out.keep hbl)
theorem aB4 (g gp:Nat) (AD:Option Addr) (nd cd B:Nat) (p k:Int) (most:Int) (T D:List UInt8) (w:World) (hg:Bk w g 185 #[gp,.int .i64 most]) (hp:PlS w gp T)
 (hd:Rd w B 1 AD nd (D.map bv)) (hB:B<=w.heap.size) (hdne:0 < nd->∀a,AD=some a->a.block≠gp) (hgne:g≠gp) (hT:T.length<=549755813888) (hD:nd<=549755813888) (hpb:-9223372036854775808<=(p:Int)/\(p:Int)<=9223372036854775807) (hkb:-9223372036854775808<=(k:Int)/\(k:Int)<=9223372036854775807) (hmb:0<=most/\most<=2147483648)
 (hhas:eD T.length p nd=false):
 Calls Tryz.prog 139 #[g,bT 3 p k AD nd cd] w fun e w'=>fY gp (T) ⟨2,0, [], []⟩ w w' e:=by
 have Hp:=lhd hp;obtain ⟨A,c,hb,hr,hnc,hne⟩:=hp;obtain ⟨n,hn⟩:=eqx T.length;rw [hn] at hb hr hnc hT hne;rw [hn] at hhas;have hDl:D.length=nd:=by simpa using hd.1
 have F:=fR (kind:=3) (p:=p) (k:=k) (cd:=cd) hg hb hr hd hB hgne;obtain ⟨HF,Hn,Hne,Hdne⟩:=hqq4 F hn hne hdne;clear hb hr hd hg F hn hne hdne;unfold bT;go_enter Tryz.func139,Tryz.ntmps139;go_wp2;obtain ⟨W,hW⟩:=eqx ((w.alloc (.cells #[.int .i64 3,.int .i64 p,.int .i64 k,.slice AD nd cd] 46)).alloc (.cells #[.int .i64 0,.int .i64 0,.slice none 0 0,.slice none 0 0] 50));rw [hW] at HF⊢;have F:=HF.out;clear hW HF;refine wp_region_any kR ?_;refine aO [97,98,99,100,101,102,103,104,105,106,107] Grow (Vs [is g,is g,is g,is gp,is (.pointer (some ⟨w.heap.size,1,none⟩)),is (.int .i64 p),is (.pointer (some ⟨w.heap.size,3,none⟩)),is (.slice AD nd cd),is (nd:Int),is (.bool false),is (.bool true)]) _ _ rfl kR bR (fun _ _=>Grow.trans) (eU tA2) ?_ ?_
 · refine aM ?_;refine sC (fun ev _ _ _ _ hold _ _ _ _ hK=>?_) ?_
   · have e0:ev (.tmp 0)=.pointer (some ⟨g,0,none⟩):=hold 0 kR;go_simp;exact hK _ _ bR rfl
   refine sC (fun _ _ _ _ _ _ hval _ _ _ hK=>?_) ?_
   · have e97:_=_:=hval 0 97 kR rfl;go_simp;exact hK _ _ bR rfl
   refine sC (fun _ _ _ _ _ _ hval _ _ _ hK=>?_) ?_
   · have e98:_=_:=hval 1 98 kR rfl;go_simp;exact hK _ _ bR rfl
   refine sC (fun _ w5 hS _ _ _ hval _ _ _ hK=>?_) ?_
   · have e99:_=_:=hval 2 99 kR rfl;replace hS:Grow W w5:=⟨hS.os,hS.tape,hS.output,hS.size,hS.block⟩;have c100:w5.cell? ⟨g,0,none⟩=some (.pointer (some ⟨gp,0,none⟩)):=((F.mod.below hS F.mod.lt).cell 0).trans rfl;go_simp;exact hK _ _ bR rfl
   refine sC (fun ev _ _ _ _ hold _ _ _ _ hK=>?_) ?_
   · have e3:ev (.tmp 3)=.pointer (some ⟨w.heap.size,0,none⟩):=hold 3 kR;go_simp;exact hK _ _ bR rfl
   refine sC (fun _ w5 hS _ _ _ hval _ _ _ hK=>?_) ?_
   · have e101:_=_:=hval 4 101 kR rfl;replace hS:Grow W w5:=⟨hS.os,hS.tape,hS.output,hS.size,hS.block⟩;have c102:w5.cell? ⟨w.heap.size,1,none⟩=some (.int .i64 p):=((F.step.below hS F.step.lt).cell 1).trans rfl;go_simp;exact hK _ _ bR rfl
   refine sC (fun ev _ _ _ _ hold _ _ _ _ hK=>?_) ?_
   · have e3:ev (.tmp 3)=.pointer (some ⟨w.heap.size,0,none⟩):=hold 3 kR;go_simp;exact hK _ _ bR rfl
   refine sC (fun _ w5 hS _ _ _ hval _ _ _ hK=>?_) ?_
   · have e103:_=_:=hval 6 103 kR rfl;replace hS:Grow W w5:=⟨hS.os,hS.tape,hS.output,hS.size,hS.block⟩;have c104:w5.cell? ⟨w.heap.size,3,none⟩=some (.slice AD nd cd):=((F.step.below hS F.step.lt).cell 3).trans rfl;go_simp;exact hK _ _ bR rfl
   refine sC (fun _ _ _ _ _ _ hval _ _ _ hK=>?_) ?_
   · have e104:_=_:=hval 7 104 kR rfl;go_simp;exact hK _ _ bR rfl
   refine sC (fun _ w5 hS _ _ _ hval _ _ _ hK=>?_) ?_
   · have e100:_=_:=hval 3 100 kR rfl;have e102:_=_:=hval 5 102 kR rfl;have e105:_=_:=hval 8 105 kR rfl;replace hS:Grow W w5:=⟨hS.os,hS.tape,hS.output,hS.size,hS.block⟩;go_simp;refine (jR gp A n c p (nd) w5 (((F.pl.below hS F.pl.lt).cell 0).trans rfl) oM hpb oM).mono ?_;rintro e w8 ⟨rfl,rfl⟩;exact hK _ _ bR (iF hhas)
   refine sC (fun _ _ _ _ _ _ hval _ _ _ hK=>?_) ?_
   · have e106:_=_:=hval 9 106 kR rfl;go_simp;exact hK _ _ bR rfl
   exact aC
 · intro ev w6 hS hval;replace hS:Grow W w6:=⟨hS.os,hS.tape,hS.output,hS.size,hS.block⟩;have e107:ev (.tmp 107)=.bool true:=hval 10 107 rfl;simp only [aI,zq1,zq2,Act.put,zq3,zq4,zq5];rw [e107];clear hval;have hF:=F.grow hS;have hres:=hF.res;have r0:w6.cell? ⟨w.heap.size+1,0,none⟩=some (.int .i64 0):=(hres.cell 0).trans rfl;have f0:=hres.frozen 0;have r1:w6.cell? ⟨w.heap.size+1,1,none⟩=some (.int .i64 0):=(hres.cell 1).trans rfl;have f1:=hres.frozen 1;have r2:w6.cell? ⟨w.heap.size+1,2,none⟩=some (.slice none 0 0):=(hres.cell 2).trans rfl;have f2:=hres.frozen 2;have r3:w6.cell? ⟨w.heap.size+1,3,none⟩=some (.slice none 0 0):=(hres.cell 3).trans rfl;have f3:=hres.frozen 3;go_wp2;have hbl:=lU (v0:=.int .i64 2) (v1:=.int .i64 0) (v2:=.slice none 0 0) (v3:=.slice none 0 0) (Nat.le_succ w.heap.size) hF.low;exact iD (s:=w.heap.size+1) (A1:=none) (c1:=0) (A2:=none) (c2:=0) (.inl rfl) rfl (gZ hres) (Keep.of_below hbl) (bB _ _ _) (bB _ _ _) (Hp.out.keep hbl)
end Go.Proofs.YthldmddkfbijhaaGreatDoor
