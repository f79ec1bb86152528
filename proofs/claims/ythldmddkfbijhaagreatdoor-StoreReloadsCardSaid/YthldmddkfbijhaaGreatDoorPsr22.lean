/- Lemmas of the walk. Conditions: each its own. -/
import Derived.Test.YthldmddkfbijhaaGreatDoorPsr18
import Derived.Test.YthldmddkfbijhaaGreatDoorPsr19
import Derived.Test.YthldmddkfbijhaaGreatDoorProg
import Derived.Test.YthldmddkfbijhaaGreatDoorShl
import Derived.Test.YthldmddkfbijhaaGreatDoorShi
set_option linter.all false
set_option maxRecDepth 100000
set_option maxHeartbeats 4000000
namespace Go.Proofs.YthldmddkfbijhaaGreatDoor
section
open Go.RowKit
def rI (L T:List Nat) (s k:Nat):Nat:=T.countP (fun x=>decide (x < s))+(L.take k).count s
theorem aBH (B gk:Nat) (L T:List Nat) (w:World) (h:WalkT w B gk L T):
 Calls Tryz.prog 96 #[gk] w fun e w'=>e=.returned (.int .i64 (L.length:Int))/\w=w':=by
 obtain ⟨gv,gt,h1,h2,h3⟩:=h;have c0:=h1.cell 0;clear h1 h3;go_enter Tryz.func96,Tryz.ntmps96;go_wp2_with fail;refine (uP B gv L _ h2).mono ?_;rintro e w' ⟨rfl,rfl⟩;go_wp2_with fail;go_ret;exact ⟨rfl,rfl⟩
theorem yL (B gk:Nat) (L T:List Nat) (s:Nat) (w:World) (h:WalkT w B gk L T) (hs:s < 257) (hl:T.length<=1000):
 Calls Tryz.prog 153 #[gk,(s:Int)] w fun e w'=>e=.returned (.int .i64 ((T.countP (fun x=>decide (x < s)):Nat):Int))/\Below w.heap.size w w':=by
 obtain ⟨gv,gt,h1,h2,h3⟩:=h;have c1:=h1.cell 1;clear h1 h2;have H3:=lhd h3;clear h3;go_enter Tryz.func153,Tryz.ntmps153;go_wp2_with fail;refine (kM gt T s _ H3.out hs hl).mono ?_;rintro e w' ⟨rfl,hb⟩;obtain ⟨q,hq⟩:∃q,T.countP (fun x=>decide (x < s))=q:=⟨_,rfl⟩;rw [hq];go_wp2_with fail;go_ret;exact ⟨by rw [hq];rfl,hb⟩
theorem aDb (B gk:Nat) (L T:List Nat) (i:Nat) (w:World) (h:WalkT w B gk L T) (hi:i < L.length):
 Calls Tryz.prog 160 #[gk,(i:Int)] w fun e w'=>e=.returned (.bool true)/\w=w':=by
 obtain ⟨n,hn⟩:=eqx L.length;rw [hn] at hi;have hiI:(i:Int) < (n:Int):=oM;obtain ⟨Hn,H⟩:=hqq2 hn h;clear hn h;go_enter Tryz.func160,Tryz.ntmps160;go_wp2_with fail;refine (aBH B gk L T w H.out).mono ?_;rintro e w' ⟨rfl,rfl⟩;rw [Hn.out];go_wp2_with fail;go_ret;exact ⟨rfl,rfl⟩
theorem pN (B gk:Nat) (L T:List Nat) (i s:Nat) (w:World) (h:WalkT w B gk L T) (his:L[i]?=some s) (hL:∀x∈L,x < 257) (hl:L.length<=1000) (hT:T.length<=1000):
 Calls Tryz.prog 101 #[gk,(i:Int)] w fun e w'=>e=.returned (.int .i64 ((rI L T s i:Nat):Int))/\VB B w w':=by
 have hi:=(zAc.1 his).1;have hs:s < 257:=hL _ (zAd his);have hH:=h;obtain ⟨gv,gt,h1,h2,h3⟩:=h;have c0:=h1.cell 0;have hlt:=h1.lt;obtain ⟨j,hj⟩:=eqx (rI L T s i);obtain ⟨q1,hq1⟩:∃q,T.countP (fun x=>decide (x < s))=q:=⟨_,rfl⟩;obtain ⟨q2,hq2⟩:∃q,(L.take i).count s=q:=⟨_,rfl⟩;have hj2:q1+q2=j:=by rw [<-hq1,<-hq2,<-hj];rfl
 have hb1:q1<=1000:=by rw [<-hq1];exact zAk zBh hT
 have hb2:q2<=1000:=by rw [<-hq2];exact zAk zBv (by rw [zAj];omega)
 rw [hj];obtain ⟨H,H1,H2,Hi,His,HL,Hl,HT,Hq1⟩:=hqq9 hH h1 h2 hi his hL hl hT hq1;obtain ⟨Hq2,Hj⟩:=hqq2 hq2 hj2;clear hH h1 h2 h3 hi his hL hl hq1 hq2 hj hj2;go_enter Tryz.func101,Tryz.ntmps101;go_wp2_with fail;refine (aDb B gk L T i w H.out Hi.out).mono ?_;rintro e w1 ⟨rfl,rfl⟩;go_wp2_with fail;refine (dY B gv L i s w H2.out Hi.out (zAc.1 His.out).2 HL.out Hl.out).mono ?_;rintro e W ⟨rfl,hv⟩;have hW:=H.out.vis hv.1;have h1W:=hv.1.bk H1.out dC dC;have h2W:=H2.out.vis hv.1;obtain ⟨HW,H1W,H2W,Hv⟩:=hqq4 hW h1W h2W hv;clear hW h1W h2W hv c0;go_wp2_with fail;refine wp_region_any kR ?_;refine aO [20,21,22,23,24,25,26,27,28,29,30,4] (VB B) (Vs [is gk,is (s:Int),is (q1:Int),is gk,is gk,is gk,is gv,is (i:Int),is (s:Int),is (q2:Int),is (j:Int),is (j:Int)]) _ _ rfl kR vR (fun _ _=>VisK.trans) (cL tA1) ?_ ?_
 · refine aM ?_;refine pH 0 (.pointer (some ⟨gk,0,none⟩)) ?_;refine pH 5 (.int .i64 (s:Int)) ?_;refine sC (fun _ w5 hS _ _ _ hval _ _ _ hK=>?_) ?_
   · have e20:_=_:=hval 0 20 kR rfl;have e21:_=_:=hval 1 21 kR rfl;replace hS:(VB B) W w5:=bD hS;go_simp;refine (yL B gk L T s w5 (HW.out.vis hS.1) hs HT.out).mono ?_;rintro e w8 ⟨rfl,hb8⟩;rw [Hq1.out];exact hK _ _ (VisK.of_below hb8) rfl
   refine pH 0 (.pointer (some ⟨gk,0,none⟩)) ?_;refine pV 3 23 ?_;refine pV 4 24 ?_;refine sC (fun _ w5 hS _ _ _ hval _ _ _ hK=>?_) ?_
   · have e25:_=_:=hval 5 25 kR rfl;replace hS:(VB B) W w5:=bD hS;have c26:w5.cell? ⟨gk,0,none⟩=some (.pointer (some ⟨gv,0,none⟩)):=((hS.1.bk H1W.out dC dC).cell 0).trans rfl;go_simp;exact hK _ _ vR rfl
   refine pH 1 (.int .i64 (i:Int)) ?_;refine pH 5 (.int .i64 (s:Int)) ?_;refine sC (fun _ w5 hS _ _ _ hval _ _ _ hK=>?_) ?_
   · have e26:_=_:=hval 6 26 kR rfl;have e27:_=_:=hval 7 27 kR rfl;have e28:_=_:=hval 8 28 kR rfl;replace hS:(VB B) W w5:=bD hS;go_simp;refine (iG B gv L i s w5 (H2W.out.vis hS.1) hs (zCm Hi.out) HL.out Hl.out).mono ?_;rintro e w8 ⟨rfl,hv8⟩;rw [Hq2.out];exact hK _ _ hv8 rfl
   refine sC (fun _ _ _ _ _ _ hval _ _ _ hK=>?_) ?_
   · have e22:_=_:=hval 2 22 kR rfl;have e29:_=_:=hval 9 29 kR rfl;have hx1:IntKind.i64.wrap ((q1:Int)+(q2:Int))=(j:Int):=(by rw [IntKind.wrap_i64];have:=Hj.out;omega);go_simp;exact hK _ _ vR rfl
   refine pV 10 30 ?_;exact aC
 · intro ev w6 hS hval;replace hS:(VB B) W w6:=bD hS;have e4:ev (.tmp 4)=.int .i64 (j:Int):=hval 11 4 rfl;simp only [aI,zq1,zq2,Act.put,zq3,zq4,zq5];rw [e4];clear hval;have hv6:=Hv.out.trans hS;go_wp2_with fail;go_ret;exact ⟨rfl,hv6⟩
section
variable {w w' : World} {B : Nat} {own own' : Nat -> Nat} {gk : Nat} {L T : List Nat}
theorem WalkE.atT (h:WalkE w B own gk L T):WalkT w B gk L T:=by
 obtain ⟨gv,gt,h1,_,h2,h3,_⟩:=h;exact ⟨gv,gt,h1,h2.at,h3⟩
end
theorem eQ (B gk:Nat) (own:Nat->Nat) (L T:List Nat) (k s:Nat) (w:World) (h:WalkE w B own gk L T) (hs:s < 257) (hk:k<=L.length) (hL:∀x∈L,x < 257) (hn:L.length<=127):
 Calls Tryz.prog 57 #[gk,(k:Int),(s:Int)] w fun e w'=>e=.returned (.tuple #[])/\∃own',WalkE w' B own' gk (aU L k s) T/\Grew w w' own own':=by
 obtain ⟨gv,gt,h1,h2,h3,h4,h5⟩:=h;have c0:w.cell? ⟨gk,0,none⟩=some (.pointer (some ⟨gv,0,none⟩)):=(h1.cell 0).trans rfl;have hgk:=h1.lt;have hgv2:own gv=2:=by obtain ⟨S,v,h⟩:=h3;exact h.base.2
 have hgkv:gk≠gv:=by obtain ⟨S,v,h⟩:=h3;exact Bk.ne h1 h.blk dC
 have hgtv:gt≠gv:=by obtain ⟨S,v,h⟩:=h3;exact Bk.ne h4 h.blk dC
 obtain ⟨H1,H3,H4⟩:=hqq3 h1 h3 h4;clear h1 h3 h4;go_enter Tryz.func57,Tryz.ntmps57;go_wp2_with fail;refine (yH B gv own L k s w H3.out hs hk hL hn).mono ?_;rintro e w1 ⟨rfl,own',hw1,ho1,ho2,hk1⟩;have hb1:=hk1.bk H1.out (fun f=>by rcases f with f | f;exact hgkv f;omega);have ht1:=hk1.bk H4.out (fun f=>by rcases f with f | f;exact hgtv f;omega);have hg:Grew w w1 own own':=⟨ho1,ho2,hk1.mono fun b _ f=>by rcases f with f | f;left;rw [f,hgv2];right;exact f⟩;have HG:=lhd hg;have hE:WalkE w1 B own' gk (aU L k s) T:=⟨gv,gt,hb1,by rw [ho1 _ hgk];exact h2,hw1,ht1,by rw [ho1 _ H4.out.lt];exact h5⟩;have HE:=lhd hE;clear hw1 ho1 ho2 hk1 hb1 ht1 hg hE c0;go_wp2_with fail;go_end0;exact ⟨rfl,own',HE.out,HG.out⟩
theorem gS (B gk:Nat) (own:Nat->Nat) (L T:List Nat) (k s:Nat) (w:World) (h:WalkE w B own gk L T) (hks:L[k]?=some s) (hL:∀x∈L,x < 257) (hn:L.length<=128):
 Calls Tryz.prog 92 #[gk,(k:Int)] w fun e w'=>e=.returned (.int .i64 (s:Int))/\∃own',WalkE w' B own' gk (aF L k) T/\Grew w w' own own':=by
 obtain ⟨gv,gt,h1,h2,h3,h4,h5⟩:=h;have c0:w.cell? ⟨gk,0,none⟩=some (.pointer (some ⟨gv,0,none⟩)):=(h1.cell 0).trans rfl;have hgk:=h1.lt;have hgv2:own gv=2:=by obtain ⟨S,v,h⟩:=h3;exact h.base.2
 have hgkv:gk≠gv:=by obtain ⟨S,v,h⟩:=h3;exact Bk.ne h1 h.blk dC
 have hgtv:gt≠gv:=by obtain ⟨S,v,h⟩:=h3;exact Bk.ne h4 h.blk dC
 obtain ⟨H1,H3,H4,Hks⟩:=hqq4 h1 h3 h4 hks;clear h1 h3 h4 hks;go_enter Tryz.func92,Tryz.ntmps92;go_wp2_with fail;refine (yI B gv own L k s w H3.out Hks.out hL hn).mono ?_;rintro e w1 ⟨rfl,own',hw1,ho1,ho2,hk1⟩;have hb1:=hk1.bk H1.out (fun f=>by rcases f with f | f;exact hgkv f;omega);have ht1:=hk1.bk H4.out (fun f=>by rcases f with f | f;exact hgtv f;omega);have hg:Grew w w1 own own':=⟨ho1,ho2,hk1.mono fun b _ f=>by rcases f with f | f;left;rw [f,hgv2];right;exact f⟩;have HG:=lhd hg;have hE:WalkE w1 B own' gk (aF L k) T:=⟨gv,gt,hb1,by rw [ho1 _ hgk];exact h2,hw1,ht1,by rw [ho1 _ H4.out.lt];exact h5⟩;have HE:=lhd hE;clear hw1 ho1 ho2 hk1 hb1 ht1 hg hE c0;go_wp2_with fail;go_ret;exact ⟨rfl,own',HE.out,HG.out⟩
theorem kL (B gk:Nat) (own:Nat->Nat) (L T:List Nat) (k s0 s:Nat) (w:World) (h:WalkE w B own gk L T) (hks:L[k]?=some s0) (hs:s < 257) (hL:∀x∈L,x < 257) (hn:L.length<=128):
 Calls Tryz.prog 55 #[gk,(k:Int),(s:Int)] w fun e w'=>e=.returned (.tuple #[])/\∃own',WalkE w' B own' gk (L.set k s) T/\Grew w w' own own':=by
 have hkl:=(zAc.1 hks).1;have hdl:=cZ L hkl;have hset:aU (aF L k) k s=L.set k s:=by
  apply List.ext_getElem?;intro j;rw [jC _ _ oM,zBm];by_cases c1:j < k
  · rw [zBx c1,zBw oM,dX _ hkl,zBx c1]
  · rw [zBw c1];by_cases c2:j=k
    · subst c2;rw [zBx rfl,zBx rfl,zBx hkl]
    · rw [zBw c2,zBw (fun e=>c2 e.symm),dX _ hkl,zBw oM,show j - 1+1=j by omega]
 obtain ⟨H,Hks,Hset⟩:=hqq3 h hks hset;clear h hks hset;go_enter Tryz.func55,Tryz.ntmps55;go_wp2_with fail;refine (gS B gk own L T k s0 w H.out Hks.out hL hn).mono ?_;rintro e w1 ⟨rfl,own1,h1,g1⟩;obtain ⟨H1,G1⟩:=hqq2 h1 g1;clear h1 g1;go_wp2_with fail;refine (eQ B gk own1 (aF L k) T k s w1 H1.out hs oM (oY hL) oM).mono ?_;rintro e w2 ⟨rfl,own2,h2,g2⟩;rw [Hset.out] at h2;obtain ⟨H2,G2⟩:=hqq2 h2 (G1.out.trans g2);clear h2 g2;go_wp2_with fail;go_end0;exact ⟨rfl,own2,H2.out,G2.out⟩
theorem gJ (B gk:Nat) (own:Nat->Nat) (L T:List Nat) (s:Nat) (w:World) (h:WalkE w B own gk L T) (hs:s < 257) (hT:T.length<=1000):
 Calls Tryz.prog 58 #[gk,(s:Int),.int .i64 1] w fun e w'=>e=.returned (.tuple #[])/\WalkE w' B own gk L (T++ [s])/\Grew w w' own own:=by
 have hbnd:=h.bnd;obtain ⟨gv,gt,h1,h2,h3,h4,h5⟩:=h;have c1:w.cell? ⟨gk,1,none⟩=some (.pointer (some ⟨gt,0,none⟩)):=(h1.cell 1).trans rfl;have hgk:=h1.lt;have hgkt:gk≠gt:=Bk.ne h1 h4 dC;obtain ⟨H1,H3,H4⟩:=hqq3 h1 h3 h4;clear h1 h3 h4;go_enter Tryz.func58,Tryz.ntmps58;go_wp2_with fail;refine (sE gt T s w H4.out hs hT).mono ?_;rintro e w1 ⟨rfl,ht,hk⟩;have hb1:=hk.bk H1.out hgkt;have hw1:WaveE w1 B own gv L:=by
  obtain ⟨S,v,h⟩:=H3.out;refine ⟨S,v,hk.bk h.blk (Bk.ne h.blk H4.out dC),h.base,fun lv hl=>?_,fun b hb=>⟨(h.bnd b hb).1,zAl (h.bnd b hb).2 hk.size⟩⟩;obtain ⟨G,g1,g2,g3⟩:=h.rows lv hl;exact ⟨G,aA g1 fun b cs _ hk'=>hk.bk hk' (Bk.ne hk' H4.out dC),g2,fun p hp=>(g3 p hp).keep hk fun b t cs hin hk' _ e=>by
   have e':b=gt:=e;subst e';rw [(aR hk' H4.out).1] at hin;exact absurd hin dC⟩
 have hE:WalkE w1 B own gk L (T++ [s]):=⟨gv,gt,hb1,h2,hw1,ht,h5⟩;have hg:Grew w w1 own own:=Grew.of_vb (B:=B) (hk.mono fun b _ e=>by left;rw [show b=gt from e,h5]) fun b hb=>(hbnd b hb).2;obtain ⟨HE,HG⟩:=hqq2 hE hg;clear ht hk hb1 hw1 hE hg;go_wp2_with fail;go_end0;exact ⟨rfl,HE.out,HG.out⟩
theorem lZ (B gk:Nat) (own:Nat->Nat) (L T T':List Nat) (s:Nat) (w:World) (h:WalkE w B own gk L T) (hP:T.Perm (s::T')) (hs:s < 257) (hT:T.length<=1000):
 Calls Tryz.prog 58 #[gk,(s:Int),.int .i64 (-1)] w fun e w'=>e=.returned (.tuple #[])/\WalkE w' B own gk L T'/\Grew w w' own own:=by
 have hbnd:=h.bnd;obtain ⟨gv,gt,h1,h2,h3,h4,h5⟩:=h;have c1:w.cell? ⟨gk,1,none⟩=some (.pointer (some ⟨gt,0,none⟩)):=(h1.cell 1).trans rfl;have hgk:=h1.lt;have hgkt:gk≠gt:=Bk.ne h1 h4 dC;obtain ⟨H1,H3,H4,HP⟩:=hqq4 h1 h3 h4 hP;clear h1 h3 h4 hP;go_enter Tryz.func58,Tryz.ntmps58;go_wp2_with fail;refine (aBL gt T T' s w HP.out H4.out hs hT).mono ?_;rintro e w1 ⟨rfl,ht,hk⟩;have hb1:=hk.bk H1.out hgkt;have hw1:WaveE w1 B own gv L:=by
  obtain ⟨S,v,h⟩:=H3.out;refine ⟨S,v,hk.bk h.blk (Bk.ne h.blk H4.out dC),h.base,fun lv hl=>?_,fun b hb=>⟨(h.bnd b hb).1,zAl (h.bnd b hb).2 hk.size⟩⟩;obtain ⟨G,g1,g2,g3⟩:=h.rows lv hl;exact ⟨G,aA g1 fun b cs _ hk'=>hk.bk hk' (Bk.ne hk' H4.out dC),g2,fun p hp=>(g3 p hp).keep hk fun b t cs hin hk' _ e=>by
   have e':b=gt:=e;subst e';rw [(aR hk' H4.out).1] at hin;exact absurd hin dC⟩
 have hE:WalkE w1 B own gk L T':=⟨gv,gt,hb1,h2,hw1,ht,h5⟩;have hg:Grew w w1 own own:=Grew.of_vb (B:=B) (hk.mono fun b _ e=>by left;rw [show b=gt from e,h5]) fun b hb=>(hbnd b hb).2;obtain ⟨HE,HG⟩:=hqq2 hE hg;clear ht hk hb1 hw1 hE hg;go_wp2_with fail;go_end0;exact ⟨rfl,HE.out,HG.out⟩
theorem aBO (B gl n c gx0 gx1 z0 z1 k:Nat) (C:List (Nat×Nat)) (w:World) (h:w.ownsRow B 170 2 (.slice (some ⟨gl,0,none⟩) n c) n (bS C)) (hk:k < C.length) (hx0:Bk w gx0 3 #[(z0:Int)]) (hx1:Bk w gx1 3 #[(z1:Int)]) (hC:aB C k<=1000000000000):
 Calls Tryz.prog 173 #[.pointer (some ⟨gl,k*2,none⟩),gx0,gx1] w fun e w'=>e=.returned (.tuple #[])/\w'.ownsRow B 170 2 (.slice (some ⟨gl,0,none⟩) n c) n (bS (C.set k (mvR z0 z1 (aB C k),aH C k)))/\Keep (fun b=>b=gl) w w':=by
 obtain ⟨p0,p1⟩:=cF C k hk;have hn:C.length=n:=by have h1:=h.1;rw [dB] at h1;omega
 have d0:=(World.ownsRow.cellAt h (k*2) oM).trans p0;have x0:w.cell? ⟨gx0,0,none⟩=some (.int .i64 (z0:Int)):=(hx0.cell 0).trans rfl;have x1:w.cell? ⟨gx1,0,none⟩=some (.int .i64 (z1:Int)):=(hx1.cell 0).trans rfl;obtain ⟨cur,hcur⟩:=fP h;have fr:=hcur.frozen (k*2);have hgl:=hcur.lt;have hgx0:=hx0.lt;have hgx1:=hx1.lt;have n0:gx0≠gl:=Bk.ne hx0 hcur dC;have n1:gx1≠gl:=Bk.ne hx1 hcur dC;have hself:=lO C k hk;have hset:=fun v=>kV C k v hk;obtain ⟨r,hr⟩:=eqx (aB C k);rw [hr] at d0 hself hC;rw [hr];obtain ⟨H,Hself,Hset⟩:=hqq3 h hself hset;have hst:∀v:Nat,(w.setCell ⟨gl,k*2,none⟩ (.int .i64 (v:Int))).ownsRow B 170 2 (.slice (some ⟨gl,0,none⟩) n c) n (bS (C.set k (v,aH C k))):=fun v=>by have:=(World.ownsRow.stored H.out (k*2) (.int .i64 (v:Int))).1;rwa [Hset.out] at this
 have hst2:∀u v:Nat,((w.setCell ⟨gl,k*2,none⟩ (.int .i64 (u:Int))).setCell ⟨gl,k*2,none⟩ (.int .i64 (v:Int))).ownsRow B 170 2 (.slice (some ⟨gl,0,none⟩) n c) n (bS (C.set k (v,aH C k))):=fun u v=>by have h1:=(World.ownsRow.stored (World.ownsRow.stored H.out (k*2) (.int .i64 (u:Int))).1 (k*2) (.int .i64 (v:Int))).1;rw [List.set_set,Hset.out] at h1;exact h1
 have hkk:∀v:Value,Keep (fun b=>b=gl) w (w.setCell ⟨gl,k*2,none⟩ v):=fun v=>Keep.setCell (F:=fun b=>b=gl) (Keep.refl _ _) (p:=⟨gl,k*2,none⟩) (.inl rfl) _;obtain ⟨Hst,Hst2,Hkk⟩:=hqq3 hst hst2 hkk;clear h hk hx0 hx1 p0 p1 hcur hself hset hn hr hst hst2 hkk;have hgoal:∀v:Nat,mvR z0 z1 r=v->C.set k (mvR z0 z1 r,aH C k)=C.set k (v,aH C k):=fun v e=>by rw [e]
 by_cases c0:r=z0
 · subst c0;have e9:mvR r z1 r=z1:=(by unfold mvR;rw [zBx rfl]);rw [e9];clear hgoal;go_enter Tryz.func173,Tryz.ntmps173;go_wp2_with fail;go_quiet (fail);go_wp2_with fail;refine bodyPost_ret (results_none rfl _ _ _) rfl ?_;exact ⟨rfl,rG (Hst.out z1) rfl,(Keep.setCell (F:=fun b=>b=gl) ((Keep.refl _ _).drewN _) (p:=⟨gl,k*2,none⟩) (.inl rfl) _)⟩
 · have b0:((r:Int)==(z0:Int))=false:=(by rw [zCb];omega);have m0:mvR z0 z1 r=inR (bC r z0) z1:=(by unfold mvR;rw [zBw c0]);by_cases c1:z0 < r
   · obtain ⟨q,hq⟩:∃q,r=q+1:=⟨r - 1,by omega⟩;have b1:decide ((r:Int) > (z0:Int))=true:=zBz oM;have e1:IntKind.i64.wrap ((r:Int) - 1)=(q:Int):=(by rw [IntKind.wrap_i64];omega);have m1:bC r z0=q:=(by unfold bC;rw [zBx c1];omega);rw [m1] at m0;by_cases c2:z1<=q
     · have b2:decide ((q:Int)>=(z1:Int))=true:=zBz oM;have e2:wrap64 ((q:Int)+1)=(r:Int):=(by rw [dI oM oM];omega);have e9:mvR z0 z1 r=r:=(by rw [m0];unfold inR;rw [zBx c2];exact hq.symm);rw [e9];clear hgoal m0 m1 hC hq;go_enter Tryz.func173,Tryz.ntmps173;go_wp2_with fail;go_quiet (fail);go_wp2_with fail;go_quiet (fail);go_wp2_with fail;go_quiet (fail);go_wp2_with fail;go_end0;exact ⟨rfl,rG (Hst2.out q r) rfl,(Keep.setCell (F:=fun b=>b=gl) (Keep.drewN (Keep.setCell (F:=fun b=>b=gl) ((Keep.refl _ _).drewN _) (p:=⟨gl,k*2,none⟩) (.inl rfl) _) _) (p:=⟨gl,k*2,none⟩) (.inl rfl) _)⟩
     · have b2:decide ((q:Int)>=(z1:Int))=false:=zBy oM;have e9:mvR z0 z1 r=q:=(by rw [m0];unfold inR;rw [zBw c2]);rw [e9];clear hgoal m0 m1 hC hq;go_enter Tryz.func173,Tryz.ntmps173;go_wp2_with fail;go_quiet (fail);go_wp2_with fail;go_quiet (fail);go_wp2_with fail;go_quiet (fail);go_wp2_with fail;go_end0;exact ⟨rfl,rG (Hst.out q) rfl,Keep.drewN (Keep.setCell (F:=fun b=>b=gl) ((Keep.refl _ _).drewN _) (p:=⟨gl,k*2,none⟩) (.inl rfl) _) _⟩
   · have b1:decide ((r:Int) > (z0:Int))=false:=zBy oM;by_cases c2:z1<=r
     · have b2:decide ((r:Int)>=(z1:Int))=true:=zBz oM;have e2:wrap64 ((r:Int)+1)=((r+1:Nat):Int):=(by rw [dI oM oM];omega);have e9:mvR z0 z1 r=r+1:=(by rw [m0];unfold bC;rw [zBw c1];unfold inR;rw [zBx c2]);rw [e9];clear hgoal m0;go_enter Tryz.func173,Tryz.ntmps173;go_wp2_with fail;go_quiet (fail);go_wp2_with fail;go_quiet (fail);go_wp2_with fail;go_quiet (fail);go_wp2_with fail;go_end0;exact ⟨rfl,rG (Hst.out (r+1)) rfl,(Keep.setCell (F:=fun b=>b=gl) ((Keep.refl _ _).drewN _) (p:=⟨gl,k*2,none⟩) (.inl rfl) _)⟩
     · have b2:decide ((r:Int)>=(z1:Int))=false:=zBy oM;have e9:mvR z0 z1 r=r:=(by rw [m0];unfold bC;rw [zBw c1];unfold inR;rw [zBw c2]);rw [e9,Hself.out];clear hgoal m0;go_enter Tryz.func173,Tryz.ntmps173;go_wp2_with fail;go_quiet (fail);go_wp2_with fail;go_quiet (fail);go_wp2_with fail;go_quiet (fail);go_wp2_with fail;go_end0;exact ⟨rfl,H.out,(((Keep.refl _ _).drewN _).drewN _).drewN _⟩
theorem vE (B gp ga gx0 gx1 z0 z1:Nat) (vl vo vt vf:Value) (R P:Nat) (ks:List Nat) (C:List (Nat×Nat)) (tk:List Bool) (fr:List Nat) (w:World) (h:PermAt w B gp ga vl vo vt vf R P ks C tk fr) (hnd:ks.Nodup) (hl:ks.length<=1000000) (hx0:Bk w gx0 3 #[(z0:Int)]) (hgx0:∀b,vl.ownBlock=some b->b≠gx0) (hx1:Bk w gx1 3 #[(z1:Int)]) (hgx1:∀b,vl.ownBlock=some b->b≠gx1) (hC:∀k,k∈ks->aB C k<=1000000000000/\aH C k<=1000000000000):
 Calls Tryz.prog 118 #[gp,.func (.func 173) #[] #[gx0,gx1]] w fun e w'=>e=.returned (.tuple #[])/\Keep (fun b=>vl.ownBlock=some b) w w'/\∃C',C'.length=C.length/\(∀k,k∈ks->(aB C' k,aH C' k)=(mvR z0 z1 (aB C k),aH C k))/\PermAt w' B gp ga vl vo vt vf R P ks C' tk fr:=by
 obtain ⟨A2,c2,hvo,_,_⟩:=aV h.orow;have c2':w.cell? ⟨gp,2,none⟩=some (.slice A2 ks.length c2):=(h.blk.cell 2).trans (by rw [hvo];rfl);have hgp:=h.blk.lt;obtain ⟨n,hn⟩:=eqx ks.length;rw [hn] at c2' hl;obtain ⟨H,Hn,Hvo,Hnd,HC⟩:=hqq5 h hn hvo hnd hC;clear h hn hvo hnd hC;go_enter Tryz.func118,Tryz.ntmps118;go_wp2_with fail;go_loopw [11] (fun i wr=>∃(j:Nat) (Cj:List (Nat×Nat)),j<=n/\i=.int .i64 (j:Int)/\Cj.length=C.length/\(∀k,k∈ks.take j->(aB Cj k,aH Cj k)=(mvR z0 z1 (aB C k),aH C k))/\(∀k,k∈ks.drop j->(aB Cj k,aH Cj k)=(aB C k,aH C k))/\PermAt wr B gp ga vl vo vt vf R P ks Cj tk fr/\Keep (fun b=>vl.ownBlock=some b) w wr) (fun i _=>n -(intOf i).toNat)
 case atStart=>exact ⟨0,C,zAp _,rfl,rfl,fun k hk=>by simp at hk,fun k _=>rfl,H.out,Keep.refl _ _⟩
 case round=>
  obtain ⟨j,Cj,hj,rfl,hlen,hd1,hd2,hp,hk⟩:=hrel;by_cases hlt:j < n
  · have hjl:j < ks.length:=(by rw [Hn.out];exact hlt);obtain ⟨k,hkj⟩:∃k,ks[j]?=some k:=⟨_,zAa hjl⟩;have hkm:=zAd hkj;have hkC:k < Cj.length:=hp.lt k hkm;have ho2:=hp.orow;rw [Hvo.out] at ho2;obtain ⟨g2,k2,e2,_,hg2⟩:=World.ownsRow.form ho2 oM;injection e2 with e2a _ e2c;subst e2a e2c;have hlr:=hp.lrow;obtain ⟨g1,k1,e1,_,hg1⟩:=World.ownsRow.form hlr oM;rw [e1] at hlr;have d2:wr.cell? ⟨g2,j,none⟩=some (.int .i64 (k:Int)):=(World.ownsRow.cellAt ho2 j oM).trans (by rw [zAf,hkj];rfl);have d1:wr.cell? ⟨gp,1,none⟩=some (.slice (some ⟨g1,0,none⟩) Cj.length k1):=(hp.blk.cell 1).trans (by rw [e1];rfl);have hgpr:=hp.blk.lt;have hsz:=hk.size;have hkd:k∈ks.drop j:=(by rw [zAx hjl,List.getElem_eq_getElem?_get];simp [hkj]);have hCk:(aB Cj k,aH Cj k)=(aB C k,aH C k):=hd2 k hkd;injection hCk with hCr hCp;have hxr:=fun (b:Nat) (e:Value.ownBlock vl=some b)=>(World.ownsRow.lt hp.lrow b e).2;obtain ⟨N,hN⟩:=eqx Cj.length;rw [hN] at hlr d1 hkC;have hxr0:=hk.bk hx0 (fun e=>hgx0 _ e rfl);have hxr1:=hk.bk hx1 (fun e=>hgx1 _ e rfl);have hkI:(k:Int) < (N:Int):=oM;obtain ⟨Hp,Hk,Hlr,Hkj,Hd1,Hd2,HN,Hlen,He1⟩:=hqq9 hp hk hlr hkj hd1 hd2 hN hlen e1;obtain ⟨HCr,HCp,Hkm⟩:=hqq3 hCr hCp hkm;clear hp hk hlr hkj hd1 hd2 hN hlen e1 hCr hCp hkm hkd ho2 hxr;go_wp2_with fail;refine (aBO B g1 N k1 gx0 gx1 z0 z1 k Cj wr Hlr.out (by rw [HN.out];exact hkC) hxr0 hxr1 (by rw [HCr.out];exact (HC.out k Hkm.out).1)).mono ?_;rintro e w1 ⟨rfl,hl1,hk1⟩
    have hC':PermAt w1 B gp ga vl vo vt vf R P ks (Cj.set k (mvR z0 z1 (aB Cj k),aH Cj k)) tk fr:=by
        have hp:=Hp.out;have hne:∀b t cs,t≠170->Bk wr b t cs->b≠g1:=fun b t cs ht hb e=>by subst e;obtain ⟨cu,hcu⟩:=fP Hlr.out;exact ht (aR hb hcu).1
        refine ⟨hk1.bk hp.blk (hne _ _ _ dC hp.blk),?_,aA hp.orow fun b cs _ hb=>hk1.bk hb (hne _ _ _ dC hb),hk1.bk hp.ar (hne _ _ _ dC hp.ar),aA hp.trow fun b cs _ hb=>hk1.bk hb (hne _ _ _ dC hb),aA hp.frow fun b cs _ hb=>hk1.bk hb (hne _ _ _ dC hb),hp.apart,fun x hx=>by rw [zAt];exact hp.lt x hx,hp.lo⟩;rw [zAt,HN.out,He1.out,HN.out];exact hl1
    have hk':Keep (fun b=>vl.ownBlock=some b) w w1:=Hk.out.trans (hk1.mono fun b _ e=>by rw [He1.out,show b=g1 from e];rfl)
    have hget:∀x,(aB (Cj.set k (mvR z0 z1 (aB Cj k),aH Cj k)) x,aH (Cj.set k (mvR z0 z1 (aB Cj k),aH Cj k)) x)=if x=k then (mvR z0 z1 (aB Cj k),aH Cj k) else (aB Cj x,aH Cj x):=fun x=>by
        unfold aB aH;rw [zAb,zBm];by_cases cx:k=x;subst cx;rw [zBx rfl,zBx rfl,zBx (by rw [HN.out];exact hkC)];rfl
        · rw [zBw cx,zBw (fun e=>cx e.symm),zAb]
    have hrel:∃(j':Nat) (Cj':List (Nat×Nat)),j'<=n/\Value.int .i64 ((j+1:Nat):Int)=.int .i64 (j':Int)/\Cj'.length=C.length/\(∀k,k∈ks.take j'->(aB Cj' k,aH Cj' k)=(mvR z0 z1 (aB C k),aH C k))/\(∀k,k∈ks.drop j'->(aB Cj' k,aH Cj' k)=(aB C k,aH C k))/\PermAt w1 B gp ga vl vo vt vf R P ks Cj' tk fr/\Keep (fun b=>vl.ownBlock=some b) w w1:=by
        refine ⟨j+1,_,by omega,rfl,by rw [zAt];exact Hlen.out,fun x hx=>?_,fun x hx=>?_,hC',hk'⟩
        · rw [hget];by_cases cx:x=k
          · subst cx;rw [zBx rfl,HCr.out,HCp.out]
          rw [zBw cx];refine Hd1.out x ?_;rw [zAv,Hkj.out] at hx;simp at hx;rcases hx with hx | hx;exact hx;exact absurd hx cx
        · rw [hget];have hxk:x≠k:=fun e=>by subst e;have hd:ks.drop j=x::ks.drop (j+1):=(by have hjl:j < ks.length:=(by rw [Hn.out];exact hlt);rw [zAx hjl];have h9:=Hkj.out;rw [zAa hjl] at h9;injection h9 with h9;rw [h9]);have hnd:=(List.drop_sublist j ks).nodup Hnd.out;rw [hd,List.nodup_cons] at hnd;exact hnd.1 hx
          rw [zBw hxk];exact Hd2.out x (List.mem_of_mem_drop (by rw [<-List.drop_drop] at hx;exact hx:x∈(ks.drop j).drop 1))
    have Hrel:=lhd hrel;clear hC' hk' hget hrel hk1 hl1 d1 d2;go_wp2_with fail;go_roundw
    case rel=>exact Hrel.out
    case measure=>simp [intOf];omega
  · obtain rfl:j=n:=oM;obtain ⟨Hp,Hk,Hd1⟩:=hqq3 hp hk hd1;clear hp hk hd1 hd2;go_wp2_with fail;go_end0;refine ⟨rfl,Hk.out,Cj,hlen,fun k hk=>Hd1.out k ?_,Hp.out⟩;rw [zAg (by rw [Hn.out];exact zAs _)];exact hk
end
section
open Go.RowKit Go.Shelf
theorem pI:∀ {l m:List Nat},l.Nodup->(∀x∈l,x∈m)->l.length<=m.length
 | [],m,_,_=>zAp _
 | x::l,m,hn,hs=>by
   obtain ⟨h1,h2⟩:=List.nodup_cons.1 hn;have hxm:=hs x (by simp);have:=pI (l:=l) (m:=m.erase x) h2 fun y hy=>by have hne:y≠x:=fun e=>h1 (by rw [<-e];exact hy);exact (List.mem_erase_of_ne hne).2 (hs y (by simp [hy]))
   have hl:=List.length_erase_of_mem hxm;have hp:=List.length_pos_of_mem hxm;rw [zCg];omega
theorem aEB {l:List Nat} {f:Nat->Nat} (h:l.Pairwise (fun a b=>f a < f b)) (k:Nat) (hk:∀x∈l,f x≠f k):(aU l (l.countP fun x=>decide (f x < f k)) k).Pairwise (fun a b=>f a < f b):=by
 unfold aU;have hlt:=fun (j x:Nat) (hj:l[j]?=some x)=>aEQ h (f k) j x hj;obtain ⟨c,hc⟩:∃c,(l.countP fun x=>decide (f x < f k))=c:=⟨_,rfl⟩;rw [hc] at hlt⊢;rw [List.pairwise_append];refine ⟨h.sublist (List.take_sublist c l),List.pairwise_cons.2 ⟨fun x hx=>?_,h.sublist (List.drop_sublist c l)⟩,fun x hx y hy=>?_⟩;obtain ⟨j,hj,rfl⟩:=List.getElem_of_mem hx;rw [zAw] at hj;rw [List.getElem_drop];have h1:=hlt (c+j) l[c+j] (zAa oM);have h2:=hk l[c+j] (zBj oM);omega;have hxk:f x < f k:=(by obtain ⟨j,hj,rfl⟩:=List.getElem_of_mem hx;rw [zAj] at hj;rw [List.getElem_take];exact (hlt j l[j] (zAa oM)).2 oM);rcases List.mem_cons.1 hy with rfl | hy;exact hxk;have:=List.pairwise_append.1 (show (l.take c++l.drop c).Pairwise (fun a b=>f a < f b) by rw [zAu];exact h);exact this.2.2 x hx y hy
theorem aC4 (tk:List Bool) (x:Nat) (b:Bool):(tk++ [true])[x]?=some b↔tk[x]?=some b∨(x=tk.length/\b=true):=by
 by_cases c:x < tk.length;rw [zAn c];constructor;exact .inl;rintro (h |⟨h,_⟩);exact h;omega
 · rw [zAo oM,zBg (show tk.length<=x by omega)];by_cases c2:x=tk.length
   · subst c2;cases b <;> simp
   · rw [zBg (by simp;omega)];simp [c2]
section
variable {w : World} {F : Nat -> Prop} {gp ga : Nat} {vl vo vt vf : Value} {R P : Nat} {ks : List Nat} {C : List (Nat × Nat)} {tk : List Bool} {fr : List Nat}
theorem PermX.af (h:PermX w F gp ga vl vo vt vf R P ks C tk fr) {b:Nat} (hb:AF ga vt vf b):F b:=by
 rcases hb with rfl | hb | hb;exact h.fa;exact h.ft b hb;exact h.ff b hb
theorem PermX.af_lt (h:PermX w F gp ga vl vo vt vf R P ks C tk fr) {b:Nat} (hb:AF ga vt vf b):b < w.heap.size:=by
 rcases hb with rfl | hb | hb;exact h.at_.ar.lt;exact (h.at_.trow.lt b hb).2;exact (h.at_.frow.lt b hb).2
theorem PermX.gp_af (h:PermX w F gp ga vl vo vt vf R P ks C tk fr):¬AF ga vt vf gp:=by
 have a:=h.at_;rintro (e | e | e);exact Bk.ne a.blk a.ar dC e;obtain ⟨cs,hc⟩:=eW a.trow e;exact absurd (aR hc a.blk).1 dC;obtain ⟨cs,hc⟩:=eW a.frow e;exact absurd (aR hc a.blk).1 dC
theorem PermX.pair_af (h:PermX w F gp ga vl vo vt vf R P ks C tk fr) {b:Nat} {cs:Array Value} (hb:Bk w b 170 cs):¬AF ga vt vf b:=by
 have a:=h.at_;rintro (e | e | e);exact Bk.ne hb a.ar dC e;obtain ⟨cs',hc⟩:=eW a.trow e;exact absurd (aR hc hb).1 dC;obtain ⟨cs',hc⟩:=eW a.frow e;exact absurd (aR hc hb).1 dC
theorem PermX.ord_af (h:PermX w F gp ga vl vo vt vf R P ks C tk fr) {b:Nat} (hb:vo.ownBlock=some b):¬AF ga vt vf b:=by
 have a:=h.at_;obtain ⟨cs,hc⟩:=eW a.orow hb;rintro (e | e | e);exact Bk.ne hc a.ar dC e;obtain ⟨cs',hc'⟩:=eW a.trow e;exact absurd (aR hc hc').1 dC
 · rcases a.apart with f | f
   · rw [f] at hb;cases hb
   exact f (hb.trans e.symm)
end
def aDg (ga N:Nat) (vt vf:Value) (ks:List Nat) (w:World) (e:Ending) (w':World):Prop:=
 ∃(k:Nat) (tk:List Bool) (fr:List Nat),e=.returned (.tuple #[(k:Int),.int .i64 0])/\k∉ks/\ArenaE w' (Gw (AF ga vt vf) w.heap.size) ga tk fr/\((k < N/\tk.length=N)∨(k=N/\tk.length=N+1/\N<=ks.length))/\(∀x,tk[x]?=some true↔x∈ks∨x=k)/\fr.Nodup/\(∀x,x∈fr↔tk[x]?=some false)/\Keep (AF ga vt vf) w w'
theorem aBS (F:Nat->Prop) (gp ga R P:Nat) (vl vo vt vf:Value) (ks:List Nat) (C:List (Nat×Nat)) (tk:List Bool) (fr:List Nat) (w:World) (h:PermX w F gp ga vl vo vt vf R P ks C tk fr):
 Calls Tryz.prog 150 #[ga] w (aDg ga C.length vt vf ks w):=by
 have hA:=h.arena;have a:=h.at_;have hsz:=h.sz;have hfl:∀x∈fr,x < tk.length:=fun x hx=>(zAc.1 ((h.frk x).1 hx)).1;rcases List.eq_nil_or_concat fr with hf0 |⟨fr0,k,hfk⟩
 · subst hf0;obtain ⟨At,ct,e1,_⟩:=aV a.trow;obtain ⟨Af,cf,e2,_⟩:=aV a.frow;have har:=a.ar;have htr:=a.trow;rw [e1,e2] at har;rw [e1] at htr;have hT:=sF 0 ga At ct Af cf tk.length tk w har htr (zAp _) (by have:=h.tkl;omega);refine hT.mono ?_;rintro e w' ⟨rfl,hk,vt',hb',ho',hfr'⟩;have hn:tk.length∉ks:=fun hm=>by have:=(h.tkk _).2 hm;rw [zBg nL] at this;cases this
   obtain ⟨At',ct',e1',_⟩:=aV ho';have hkA:Keep (AF ga vt vf) w w':=hk.mono fun b _ f=>by rcases f with f | f;exact .inl f;exact .inr (.inl (by rw [e1];exact f))
   have hfo:w'.ownsRow 0 3 1 vf 0 []:=by
    have:=aA (w':=w') (bF a.frow (zAp _)) fun b cs _ hb=>hk.bk hb fun f=>by rcases f with f | f;exact Bk.ne hb a.ar dC f;obtain ⟨cs',hc'⟩:=eW htr f;exact absurd (aR hb hc').1 dC
    exact this
   rw [e2] at hfo;have hl1:(tk++ [true]).length=tk.length+1:=(by simp);have htl:=h.tkl;have hall:C.length<=ks.length:=by
    have h9:=pI (l:=List.range C.length) (m:=ks) List.nodup_range fun x hx=>by
        rw [zCj,<-htl] at hx;cases hb:tk[x] with
        | true=>exact (h.tkk x).1 (by rw [zAa hx,hb])
        | false=>exact absurd ((h.frk x).2 (by rw [zAa hx,hb])) (by simp)
    simpa using h9
   refine ⟨tk.length,tk++ [true], [],rfl,hn,⟨.inl (.inl rfl),At',ct',Af,cf,?_,?_,hfo,?_,?_⟩,.inr ⟨htl,by rw [hl1,htl],hall⟩,fun x=>?_,List.nodup_nil,fun x=>?_,hkA⟩;rw [hl1,<-e1'];exact hb';rw [hl1,<-e1'];exact ho';intro b hb;rw [hl1,<-e1'] at hb;rcases hfr' with f |⟨g,f,f'⟩;rw [f] at hb;exact .inl (.inr (.inl (by rw [e1];exact hb)));rw [f] at hb;injection hb with hb;subst hb;exact .inr f';intro b hb;exact .inl (.inr (.inr (by rw [e2];exact hb)))
   · rw [<-h.tkk x,aC4];simp
   · rw [h.frk x,aC4];simp
 · have hfk':fr=fr0++ [k]:=(by simpa using hfk);subst hfk';have hk:=(h.frk k).1 (by simp);have hkl:=hfl k (by simp);have hnd:=h.frn;have hlen:(fr0++ [k]).length<=tk.length:=iA hnd hfl;have hT:=uS (AF ga vt vf) ga k tk fr0 w hA hkl (by have:=h.tkl;omega) (by simp at hlen;omega);refine hT.mono ?_;rintro e w' ⟨rfl,hA',hk'⟩;have hnk:k∉ks:=fun hm=>by have:=(h.tkk k).2 hm;rw [hk] at this;cases this
   have hnd0:=List.nodup_append.1 hnd;have hget:∀x,(tk.set k true)[x]?=if x=k then some true else tk[x]?:=fun x=>by
    rw [zBm];by_cases c:k=x
    · subst c;simp [hkl]
    · rw [zBw c,zBw (fun e=>c e.symm)]
   refine ⟨k,tk.set k true,fr0,rfl,hnk,hA'.mono fun b _ f=>.inl f,.inl ⟨by rw [<-h.tkl];exact hkl,by rw [zAt,h.tkl]⟩,fun x=>?_,hnd0.1,fun x=>?_,hk'⟩
   · rw [hget,<-h.tkk x];by_cases c:x=k
     · simp [c]
     · simp [c]
   · rw [hget];by_cases c:x=k
     · subst c;rw [zBx rfl];constructor;intro hx;exact absurd rfl (hnd0.2.2 x hx x (by simp))
       · intro hx;cases hx
     · rw [zBw c,<-h.frk x];simp [c]
theorem PermX.stow {w w':World} {F:Nat->Prop} {gp ga R P k row pos i n0:Nat} {vl' vo':Value} {ks:List Nat} {C C9:List (Nat×Nat)} {tk:List Bool} {fr:List Nat} {AFF:Nat->Prop}
 (hks:∀x∈ks,x < C.length) (hnd:ks.Nodup) (hnk:k∉ks) (hk9:k < C9.length) (hC9:C.length<=C9.length) (hsz:C9.length<=1000) (htkl:tk.length=C9.length)
 (hget:∀x∈ks,(aB C9 x,aH C9 x)=(aB C x,aH C x)) (hs:ks.Pairwise (fun a b=>aB C a < aB C b)) (hi:i=ks.countP fun x=>decide (aB C x < row)) (hne:∀x∈ks,aB C x≠row)
 (hb:Bk w' gp 166 #[ga,vl',vo',.int .i64 (R:Int),(P:Int)])
 (hl:w'.ownsRow 0 170 2 vl' C9.length (bS (C9.set k (row,pos)))) (ho:w'.ownsRow 0 3 1 vo' (ks.length+1) ((aU ks i k).map sv))
 (ha:ArenaE w' AFF ga tk fr) (haf:∀b,AFF b->F b) (hga:F ga) (hgp:F gp) (hvl:OwnF F vl') (hvo:OwnF F vo') (hap:∀b,vo'.ownBlock=some b->¬AFF b)
 (htk:∀x,tk[x]?=some true↔x∈ks∨x=k) (hfn:fr.Nodup) (hfk:∀x,x∈fr↔tk[x]?=some false):
 ∃vt vf,PermX w' F gp ga vl' vo' vt vf R P (aU ks i k) (C9.set k (row,pos)) tk fr/\((aU ks i k).map fun x=>(aB (C9.set k (row,pos)) x,aH (C9.set k (row,pos)) x))=aU (ks.map fun x=>(aB C x,aH C x)) i (row,pos)/\(aU ks i k).Pairwise (fun a b=>aB (C9.set k (row,pos)) a < aB (C9.set k (row,pos)) b):=by
 obtain ⟨hAg,At,ct,Af,cf,h1,h2,h3,h4,h5⟩:=ha;have hile:i<=ks.length:=by rw [hi];exact zBh
 have hg:∀x,(aB (C9.set k (row,pos)) x,aH (C9.set k (row,pos)) x)=if x=k then (row,pos) else (aB C9 x,aH C9 x):=fun x=>by
  unfold aB aH;rw [zAb,zBm];by_cases cx:k=x;subst cx;rw [zBx rfl,zBx rfl,zBx hk9];rfl
  · rw [zBw cx,zBw (fun e=>cx e.symm),zAb]
 have hgk:∀x∈ks,(aB (C9.set k (row,pos)) x,aH (C9.set k (row,pos)) x)=(aB C x,aH C x):=fun x hx=>by rw [hg,zBw (fun e=>hnk (by rw [<-e];exact hx)),hget x hx]
 have hkk:=hg k;rw [zBx rfl] at hkk;have hperm:(aU ks i k).Perm (k::ks):=fI _ _ _;have hmem:∀x,x∈aU ks i k↔x=k∨x∈ks:=fun x=>by rw [hperm.mem_iff,List.mem_cons]
 refine ⟨_,_,⟨⟨hb,by rw [zAt];exact hl,by rw [gD _ _ hile];exact ho,h1,h2,h3,?_,fun x hx=>?_,⟨zAp _,zAp _⟩⟩,hgp,hga,hvl,hvo,fun b hb'=>haf b (h4 b hb'),fun b hb'=>haf b (h5 b hb'),hperm.nodup_iff.2 (List.nodup_cons.2 ⟨hnk,hnd⟩),by rw [zAt];exact htkl,fun x=>by rw [htk x,hmem x];exact Or.comm,hfn,hfk,by rw [zAt];exact hsz⟩,?_,?_⟩
 · cases hvb:vo'.ownBlock with
   | none=>exact .inl rfl
   | some b=>exact .inr fun e=>hap b hvb (h5 b e.symm)
 rw [zAt];rcases (hmem x).1 hx with rfl | hx;exact hk9;exact zAl (hks x hx) hC9;rw [nT,hkk];congr 1;exact List.map_congr_left fun x hx=>hgk x hx
 · have hrow:∀x∈ks,aB (C9.set k (row,pos)) x=aB C x:=fun x hx=>(Prod.mk.inj (hgk x hx)).1;have hrk:aB (C9.set k (row,pos)) k=row:=(Prod.mk.inj hkk).1;have hs':ks.Pairwise (fun a b=>aB (C9.set k (row,pos)) a < aB (C9.set k (row,pos)) b):=(by refine List.Pairwise.imp_of_mem (fun {a b} ha hb hab=>?_) hs;rw [hrow a ha,hrow b hb];exact hab);have:=aEB (f:=aB (C9.set k (row,pos))) hs' k fun x hx=>by rw [hrow x hx,hrk];exact hne x hx
   have he:(ks.countP fun x=>decide (aB (C9.set k (row,pos)) x < aB (C9.set k (row,pos)) k))=i:=(by rw [hi,hrk];refine List.countP_congr fun x hx=>?_;rw [hrow x hx]);rw [he] at this;exact this
def wZ (w:World) (gp:Nat):Nat:=match w.cell? ⟨gp,1,none⟩ with
 | some (.slice _ n _)=>n
 | _=>0
structure AddL (F:Nat->Prop) (gp ga R P k:Nat) (vo:Value) (ks:List Nat) (C:List (Nat×Nat)) (tk:List Bool) (fr9:List Nat) (AFF:Nat->Prop) (n3:Nat) (w2 wr:World) (A9:Option Addr) (M c9:Nat) (C9:List (Nat×Nat)):Prop where
 blk:Bk wr gp 166 #[ga,.slice A9 M c9,vo,(R:Int),(P:Int)]
 own:wr.ownsRow 0 170 2 (.slice A9 M c9) M (bS C9)
 len:C9.length=M
 lo:C.length<=M
 hi:M<=max C.length (k+1)
 get:∀x∈ks,(aB C9 x,aH C9 x)=(aB C x,aH C x)
 ord:wr.ownsRow 0 3 1 vo ks.length (ks.map sv)
 ar:ArenaE wr AFF ga tk fr9
 keep:Keep F w2 wr
 fl:OwnF (Gw F w2.heap.size) (.slice A9 M c9)
 k3:n3<=wr.heap.size
theorem aB0 (F:Nat->Prop) (gp R P row pos:Nat) (pr:List (Nat×Nat)) (w:World) (h:PermE w F gp R P pr) (hrow:row < R) (hpos:pos < P) (hnr:∀x∈pr,x.1≠row) (hnp:∀x∈pr,x.2≠pos) (hlen:pr.length<=900):
 Calls Tryz.prog 90 #[gp,(row:Int),(pos:Int)] w fun e w'=>e=.returned (.int .i64 0)/\(∃pr',pr'.Perm ((row,pos)::pr)/\PermE w' (Gw F w.heap.size) gp R P pr')/\Keep F w w':=by
 obtain ⟨⟨ga,vl,vo,vt,vf,ks,C,tk,fr,hx,rfl⟩,hsort,hbd⟩:=h;obtain ⟨i0,hi0,hz0,hz1,hz2⟩:=info_parts tM;have a:=hx.at_;have hs0:=List.pairwise_map.1 hsort;have hs:ks.Pairwise (fun a b=>aB C a < aB C b):=hs0;have hnr':∀k∈ks,aB C k≠row:=fun k hk=>hnr _ (zAy.2 ⟨k,hk,rfl⟩);have hnp':∀k∈ks,aH C k≠pos:=fun k hk=>hnp _ (zAy.2 ⟨k,hk,rfl⟩);have hbd':∀k∈ks,aB C k < R/\aH C k < P:=fun k hk=>hbd _ (zAy.2 ⟨k,hk,rfl⟩);have hkl:ks.length<=900:=by simpa using hlen
 obtain ⟨i,hi⟩:∃i,(ks.countP fun k=>decide (aB C k < row))=i:=⟨_,rfl⟩;have hile:i<=ks.length:=by rw [<-hi];exact zBh
 have hfnd:decide (∃k∈ks,aB C k=row)=false:=by rw [decide_eq_false_iff_not];rintro ⟨k,hk,e⟩;exact hnr' k hk e
 have hhas:jL (fun k=>decide (aH C k=pos)) ks 0=-1:=kY (fun k hk=>by simpa using hnp' k hk) 0;have hat:=kN 0 gp ga vl vo vt vf R P ks C tk fr row w a hs oM;rw [hi,hfnd] at hat;have hhs:=fun W hW=>jJ 0 gp ga vl vo vt vf R P ks C tk fr pos W hW oM;simp only [hhas] at hhs;have c3:w.cell? ⟨gp,3,none⟩=some (.int .i64 (R:Int)):=(a.blk.cell 3).trans rfl;have c4:w.cell? ⟨gp,4,none⟩=some (.int .i64 (P:Int)):=(a.blk.cell 4).trans rfl;obtain ⟨n,hn⟩:=eqx ks.length;obtain ⟨N,hN⟩:∃n,C.length=n:=⟨_,rfl⟩;have hn9:n<=900:=oM;have hN9:N<=1000:=by rw [<-hN];exact hx.sz
 obtain ⟨Hhs,HX,Hs,Hnr,Hbd,Hi,Hn,HN⟩:=hqq8 hhs hx hs hnr' hbd' hi hn hN;rw [hn] at hile;clear hs0 hfnd hhas hhs hsort hbd hnr hnp hnr' hnp' hbd' hx a hs hi hlen hkl hn hN;go_enter Tryz.func90,Tryz.ntmps90;go_wp2_with fail;refine hat.mono ?_;clear hat;rintro e w1 ⟨rfl,hb1⟩;have h1:=HX.out.at_.below hb1;obtain ⟨H1,Hb1⟩:=hqq2 h1 hb1;clear h1 hb1 c3 c4;go_wp2_with fail;refine (Hhs.out w1 H1.out).mono ?_;rintro e w2 ⟨rfl,hb2⟩;have hb12:=Hb1.out.trans (hb2.mono Hb1.out.size);have hx2:PermX w2 F gp ga vl vo vt vf R P ks C tk fr:= { HX.out with at_:=H1.out.below hb2 };have c0:w2.cell? ⟨gp,0,none⟩=some (.pointer (some ⟨ga,0,none⟩)):=(hx2.at_.blk.cell 0).trans rfl;obtain ⟨H2,Hb2⟩:=hqq2 hx2 hb12;clear hx2 hb12 hb2 H1 Hb1 Hhs HX;go_wp2_with fail;have hT:=aBS F gp ga R P vl vo vt vf ks C tk fr w2 H2.out;unfold aDg at hT;refine hT.mono ?_;clear hT;rintro e w3 ⟨k,tk3,fr3,rfl,hnk,hA3,hcase,htk3,hfn3,hfk3,hk3⟩;have hgp3:=hk3.bk H2.out.at_.blk H2.out.gp_af;have hvl3:=aA (w':=w3) H2.out.at_.lrow fun b cs _ hb=>hk3.bk hb (H2.out.pair_af hb);have hvo3:=aA (w':=w3) H2.out.at_.orow fun b cs hb hk=>hk3.bk hk (H2.out.ord_af hb);obtain ⟨Al,cl,hvl,_⟩:=aV hvl3;obtain ⟨Ao,co,hvo,_⟩:=aV hvo3;have hvl':vl=.slice Al N cl:=by rw [hvl,HN.out]
 have hvo':vo=.slice Ao n co:=by rw [hvo,Hn.out]
 rw [HN.out] at hvl3;rw [Hn.out] at hvo3;have d1:w3.cell? ⟨gp,1,none⟩=some (.slice Al N cl):=(hgp3.cell 1).trans (by rw [hvl'];rfl);have fp:=hgp3.frozen 1;have hgp3l:=hgp3.lt;have hkN:k<=N:=by have:=HN.out;omega
 have hkF3:Keep F w2 w3:=hk3.mono fun b _ f=>H2.out.af f;obtain ⟨Hk3,HkF3⟩:=hqq2 hk3 hkF3;have HA3:=lhd (hA3.mono (G:=fun b=>Gw (AF ga vt vf) w2.heap.size b/\b < w3.heap.size) fun b hb f=>⟨f,hb⟩);obtain ⟨Hcase,Hgp3,Hvl3,Hvo3,Hvl,Hvo,Hnk,Htk3,Hfn3⟩:=hqq9 hcase hgp3 hvl3 hvo3 hvl' hvo' hnk htk3 hfn3;have Hfk3:=lhd hfk3;have e1:=(World.cell?_alloc_lt w3 (Obj.cells #[.int .i64 0,.int .i64 0] 170) ⟨gp,1,none⟩ hgp3l).trans d1;clear hk3 hkF3 hA3 hcase hgp3 hvl3 hvo3 hvl hvo hvl' hvo' hnk htk3 hfn3 hfk3 c0;have hinit:AddL F gp ga R P k vo ks C tk3 fr3 (fun b=>Gw (AF ga vt vf) w2.heap.size b/\b < w3.heap.size) w3.heap.size w2 w3 Al N cl C:=
  ⟨by have:=Hgp3.out;rwa [Hvl.out] at this,by have:=Hvl3.out;rwa [Hvl.out] at this,HN.out,by rw [HN.out];exact zAs _,by have:=HN.out;omega,fun x _=>rfl,by rw [Hn.out];exact Hvo3.out,HA3.out,HkF3.out,fun b hb=>.inl (H2.out.fl b (by rw [Hvl.out];exact hb)),zAs _⟩
 have Hinit:=lhd hinit;clear hinit d1 fp e1;go_wp2_with fail;go_loopw [] (fun wr=>∃A9 M c9 C9,AddL F gp ga R P k vo ks C tk3 fr3 (fun b=>Gw (AF ga vt vf) w2.heap.size b/\b < w3.heap.size) w3.heap.size w2 wr A9 M c9 C9) (fun wr=>k+1 - wZ wr gp)
 case atStart=>exact ⟨_,_,_,_,Hinit.out⟩
 case round=>
  obtain ⟨A9,M,c9,C9,hL⟩:=hrel;clear Hinit Hgp3 Hvl3 Hvo3 HA3 HkF3 Hk3;have d1:wr.cell? ⟨gp,1,none⟩=some (.slice A9 M c9):=(hL.blk.cell 1).trans rfl;have fp:=hL.blk.frozen 1;have hgpl:=hL.blk.lt;have hM:=hL.len;have hM1:=hL.lo;have hM2:=hL.hi;rw [HN.out] at hM1 hM2;by_cases hlt:M<=k
  · have hltB:decide (M<=k)=true:=zBz hlt;have hltI:(M:Int)<=(k:Int):=oM;obtain rfl:M=N:=oM;have e1:=(World.cell?_alloc_lt wr (Obj.cells #[.int .i64 0,.int .i64 0] 170) ⟨gp,1,none⟩ hgpl).trans d1;have hrl:wZ wr gp=M:=(by unfold wZ;rw [d1]);obtain ⟨HL,Hrl⟩:=hqq2 hL hrl;clear hL hrl;go_wp2_with (at_builtin;refine bP _ rfl (.tmp 72) (.tmp 74) _ rfl 0 170 i0 (.agg #[.int .i64 0,.int .i64 0]) 2 16 Tryz.underlying109 hi0 hz0 hz1 hz2 rfl dC (.slice A9 M c9) M _ rfl HL.out.own rfl rfl (by simp [Value.oneCell']) (by unfold maxLen;omega) oM (zAp _) ?_;intro v5 w5 hown5 hg5 hs5 hat5;have hbk5:=HL.out.blk.grown hg5 (aY HL.out.own HL.out.blk dC);have d5:w5.cell? ⟨gp,1,none⟩=some (.slice A9 M c9):=(hbk5.cell 1).trans rfl;have f5:=hbk5.frozen 1;obtain ⟨A8,c8,rfl,hm8⟩:=aS hown5;obtain ⟨Hbk5,Hown5,Hg5,Hat5⟩:=hqq4 hbk5 hown5 hg5 hat5;clear hm8 hown5 hg5 hat5 hbk5);have hkA:Keep (fun b=>(Value.slice A9 M c9).ownBlock=some b) wr w5:=⟨Hg5.out.os,Hg5.out.tape,Hg5.out.output,Hg5.out.size,fun b hb hne=>Hg5.out.block b hb fun e=>hne e.symm⟩
    have hL':AddL F gp ga R P k vo ks C tk3 fr3 (fun b=>Gw (AF ga vt vf) w2.heap.size b/\b < w3.heap.size) w3.heap.size w2 (w5.setCell ⟨gp,1,none⟩ (.slice A8 (M+1) c8)) A8 (M+1) c8 (C9++ [(0,0)]):=by
        have L:=HL.out;have hfar:∀b t cs,t≠166->Bk w5 b t cs->Bk (w5.setCell ⟨gp,1,none⟩ (.slice A8 (M+1) c8)) b t cs:=fun b t cs ht hb=>hb.far (p:=⟨gp,1,none⟩) (Bk.ne hb Hbk5.out ht) _;have hpa:∀b,(Value.slice A9 M c9).ownBlock=some b->Gw F w2.heap.size b:=fun b hb=>L.fl b hb;have hne:∀b t cs,t≠170->Bk wr b t cs->¬((Value.slice A9 M c9).ownBlock=some b):=fun b t cs ht hb e=>by obtain ⟨cs',hc⟩:=eW L.own e;exact ht (aR hb hc).1
        refine ⟨Hbk5.out.set 1 _,?_,by rw [zAi,L.len];rfl,by have:=L.lo;omega,by omega,fun x hx=>?_,?_,?_,?_,?_,?_⟩;rw [kU];exact aA Hown5.out fun b cs _ hb=>hfar _ _ _ dC hb
        · rw [<-L.get x hx];have hxl:=H2.out.at_.lt x hx;unfold aB aH;rw [zAb,zAb,zAn (by have:=L.lo;have:=L.len;omega)]
        exact aA L.ord fun b cs _ hb=>hfar _ _ _ dC (hkA.bk hb (hne _ _ _ dC hb));refine (L.ar.keep hkA fun b t cs ht hb _=>hne b t cs (fun e=>by subst e;revert ht;decide) hb).keep (G:=fun b=>b=gp) (Keep.setCell (F:=fun b=>b=gp) (Keep.refl _ _) (p:=⟨gp,1,none⟩) (.inl rfl) _) fun b t cs ht hb _ e=>?_;have e':b=gp:=e;subst e';rw [(aR hb Hbk5.out).1] at ht;revert ht;decide;refine Keep.setCell (F:=F) (L.keep.trans' hkA fun b hb f=>?_) (p:=⟨gp,1,none⟩) (.inl H2.out.fp) _;rcases L.fl b f with g | g;exact g;omega;intro b hb;rcases Hat5.out with e | e;rw [e] at hb;exact L.fl b hb;rw [e] at hb;injection hb with hb;subst hb;exact .inr (by have:=L.keep.size;omega);have h1:=L.k3;have h2:=hkA.size;have h3:(w5.setCell ⟨gp,1,none⟩ (.slice A8 (M+1) c8)).heap.size=w5.heap.size:=(by simp [World.setCell]);omega
    have hrl':wZ (w5.setCell ⟨gp,1,none⟩ (.slice A8 (M+1) c8)) gp=M+1:=(by have d9:(w5.setCell ⟨gp,1,none⟩ (.slice A8 (M+1) c8)).cell? ⟨gp,1,none⟩=some (.slice A8 (M+1) c8):=(hL'.blk.cell 1).trans rfl;unfold wZ;rw [d9]);obtain ⟨HL',Hrl'⟩:=hqq2 hL' hrl';clear hL' hrl' hkA Hbk5 Hown5 Hg5 Hat5 HL;go_roundw
    case rel=>exact ⟨_,_,_,_,HL'.out⟩
    case measure=>rw [Hrl.out,Hrl'.out];omega
  · have hltB:decide (M<=k)=false:=zBy hlt;have hltI:¬(M:Int)<=(k:Int):=oM;have hkM:k < M:=oM;have hkMI:(k:Int) < (M:Int):=oM;obtain ⟨g9,k9,hs9,_,hg9⟩:=World.ownsRow.form hL.own oM;injection hs9 with hs9 _ hs9c;subst hs9 hs9c;obtain ⟨cur9,hb9⟩:=fP hL.own;have hgpn:gp≠g9:=Bk.ne hL.blk hb9 dC;have y0:=hb9.frozen (k*2);have y1:=hb9.frozen (k*2+1);obtain ⟨p0,p1⟩:=cF C9 k (by rw [hM];exact hkM);have x0:=(World.ownsRow.cellAt hL.own (k*2) oM).trans p0;have x1:=(World.ownsRow.cellAt hL.own (k*2+1) oM).trans p1;generalize aB C9 k=u0 at x0 p0;generalize aH C9 k=u1 at x1 p1;obtain ⟨Ao,co,hvo,_⟩:=aV hL.ord;rw [Hn.out] at hvo;have d2:wr.cell? ⟨gp,2,none⟩=some (.slice Ao n co):=(hL.blk.cell 2).trans (by rw [hvo];rfl);obtain ⟨HL,Hb9,Hvo2⟩:=hqq3 hL hb9 hvo;clear hL hb9 hvo p0 p1;go_wp2_with fail;have hvl7:((wr.setCell ⟨g9,k*2,none⟩ (.int .i64 (row:Int))).setCell ⟨g9,k*2+1,none⟩ (.int .i64 (pos:Int))).ownsRow 0 170 2 (.slice (some ⟨g9,0,none⟩) M c9) M (bS (C9.set k (row,pos))):=(by have s1:=(World.ownsRow.stored HL.out.own (k*2) (.int .i64 (row:Int))).1;rw [kV C9 k row (by rw [HL.out.len];exact hkM)] at s1;have s2:=(World.ownsRow.stored s1 (k*2+1) (.int .i64 (pos:Int))).1;rw [nQ _ k pos (by rw [zAt,HL.out.len];exact hkM)] at s2;rw [List.set_set] at s2;have e9:aB (C9.set k (row,aH C9 k)) k=row:=(by unfold aB;rw [zAb,List.getElem?_set_self (by rw [HL.out.len];exact hkM)];rfl);rw [e9] at s2;exact s2);have hkk:Keep (fun b=>b=g9) wr ((wr.setCell ⟨g9,k*2,none⟩ (.int .i64 (row:Int))).setCell ⟨g9,k*2+1,none⟩ (.int .i64 (pos:Int))):=((Keep.refl (fun b=>b=g9) wr).setCell (p:=⟨g9,k*2,none⟩) (.inl rfl) _).setCell (p:=⟨g9,k*2+1,none⟩) (.inl rfl) _;have hsz7:((wr.setCell ⟨g9,k*2,none⟩ (.int .i64 (row:Int))).setCell ⟨g9,k*2+1,none⟩ (.int .i64 (pos:Int))).heap.size=wr.heap.size:=(by simp [World.setCell]);rw [<-hsz7];clear x0 x1 y0 y1 d1 d2 fp;generalize (wr.setCell ⟨g9,k*2,none⟩ (.int .i64 (row:Int))).setCell ⟨g9,k*2+1,none⟩ (.int .i64 (pos:Int))=w7 at hvl7 hkk hsz7⊢;have hn9':∀b t cs,t≠170->Bk wr b t cs->¬(b=g9):=fun b t cs ht hb e=>by subst e;exact ht (aR hb Hb9.out).1
    have hgp7:=hkk.bk HL.out.blk (hn9' _ _ _ dC HL.out.blk);have hvo7:=aA (w':=w7) HL.out.ord fun b cs _ hb=>hkk.bk hb (hn9' _ _ _ dC hb);have har7:=HL.out.ar.keep hkk fun b t cs ht hb _=>hn9' b t cs (fun e=>by subst e;revert ht;decide) hb;have hkF7:Keep F w2 w7:=HL.out.keep.trans' hkk fun b hb f=>by have f':b=g9:=f;rcases HL.out.fl b (by rw [f'];rfl) with g | g;exact g;omega
    have hb78:Below w7.heap.size w7 (w7.alloc (.cells #[(k:Int)] 3)):=bR.alloc nL _;have hgx8:=Bk.new w7 3 #[(k:Int)];have hvo8:=aP hvo7 hb78;have hvl8:=aP hvl7 hb78;have hgp8:=hgp7.below hb78 hgp7.lt;have har8:=har7.keep (G:=fun _=>False) (Keep.of_below hb78) fun _ _ _ _ _ _ f=>f;have hkF8:Keep F w2 (w7.alloc (.cells #[(k:Int)] 3)):=hkF7.alloc _;obtain ⟨g7,hg7⟩:∃g,w7.heap.size=g:=⟨_,rfl⟩;rw [hg7] at hgx8;rw [hg7];have hvolt:∀b,vo.ownBlock=some b->b < w7.heap.size:=fun b hb=>(hvo7.lt b hb).2;rw [Hn.out,Hvo2.out] at hvo8;have hw78:wr.heap.size<=(w7.alloc (.cells #[(k:Int)] 3)).heap.size:=(by simp;omega);have Hw78:=lhd hw78;clear hw78;generalize w7.alloc (.cells #[(k:Int)] 3)=w8 at Hw78 hgx8 hvo8 hvl8 hgp8 har8 hkF8⊢;have hins:=aAl 0 Ao n co i ks g7 k w8 hvo8 hgx8 (fun b hb e=>by have:=hvolt b (by rw [Hvo2.out];exact hb);omega) (zAp _) hile oM;unfold sW at hins;refine hins.mono ?_;clear hins;rintro e w9 ⟨A',c',rfl,hown9,hk9,hat9⟩;rw [<-Hvo2.out] at hk9 hat9 hvo8;have hv9:∀b t cs,t≠3->Bk w8 b t cs->¬(vo.ownBlock=some b):=fun b t cs ht hb e=>by obtain ⟨cs',hc⟩:=eW hvo8 e;exact ht (aR hb hc).1
    have hgp9:=hk9.bk hgp8 (hv9 _ _ _ dC hgp8);have hvl9:=aA (w':=w9) hvl8 fun b cs _ hb=>hk9.bk hb (hv9 _ _ _ dC hb);have hvoaf:∀b,vo.ownBlock=some b->¬(Gw (AF ga vt vf) w2.heap.size b/\b < w3.heap.size):=fun b hb f=>by rcases f.1 with f | f;exact H2.out.ord_af hb f;have:=(H2.out.at_.orow.lt b hb).2;omega
    have har9:=har8.keep hk9 fun b t cs _ _ f e=>hvoaf b e f;have hkF9:Keep F w2 w9:=hkF8.trans' hk9 fun b _ f=>H2.out.fo b f;have d2:w9.cell? ⟨gp,2,none⟩=some vo:=(hgp9.cell 2).trans rfl;rw [Hvo2.out] at d2;have f2:=hgp9.frozen 2;have hgp9l:=hgp9.lt;obtain ⟨Hgp9,Hvl9,Har9,HkF9,Hown9,Hat9,Hk8⟩:=hqq7 hgp9 hvl9 har9 hkF9 hown9 hat9 hkF8;clear hgp9 hvl9 har9 hkF9 hown9 hat9 hkF8 hk9 hvo8 hvl8 hgp8 har8 hgx8 hb78 hkF7 har7 hvo7 hgp7 hkk hvl7 hsz7 hg7 hvolt hv9 hn9';go_wp2_with fail;go_ret;have hset:Keep (fun b=>b=gp) w9 (w9.setCell ⟨gp,2,none⟩ (.slice A' (n+1) c')):=Keep.setCell (F:=fun b=>b=gp) (Keep.refl _ _) (p:=⟨gp,2,none⟩) (.inl rfl) _;have hfar:∀b t cs,t≠166->Bk w9 b t cs->¬(b=gp):=fun b t cs ht hb e=>by subst e;exact ht (aR hb Hgp9.out).1
    have hs2:=Hb2.out.size;have hw28:=Hk8.out.size;have hw78:=Hw78.out;have hM9:M<=1000:=(by rcases Hcase.out with c | c;have:=HN.out;omega;have:=HN.out;have:=Hn.out;omega);have hmono:∀b,Gw F w2.heap.size b->Gw F w.heap.size b:=fun b f=>by rcases f with f | f;exact .inl f;exact .inr oM
    have L:=HL.out
    obtain ⟨vt',vf',hX,hpr,hsr⟩:=PermX.stow (w:=w) (w':=w9.setCell ⟨gp,2,none⟩ (.slice A' (n+1) c')) (F:=Gw F w.heap.size) (gp:=gp) (ga:=ga) (R:=R) (P:=P) (k:=k) (row:=row) (pos:=pos) (i:=i) (n0:=0) (vl':=.slice (some ⟨g9,0,none⟩) M c9) (vo':=.slice A' (n+1) c') (ks:=ks) (C:=C) (C9:=C9) (tk:=tk3) (fr:=fr3) (AFF:=fun b=>Gw (AF ga vt vf) w2.heap.size b/\b < w3.heap.size)
        H2.out.at_.lt H2.out.nd Hnk.out (by rw [L.len];exact hkM) (by rw [L.len];exact L.lo) (by rw [L.len];exact hM9) (by
         rw [L.len];rcases Hcase.out with c | c;have:=L.lo;have:=L.hi;omega
         · have:=L.lo;have:=L.hi;omega) L.get Hs.out Hi.out.symm Hnr.out (Hgp9.out.set 2 _)
        (by rw [L.len];exact aA Hvl9.out fun b cs _ hb=>hset.bk hb (hfar _ _ _ dC hb))
        (by rw [Hn.out];exact aA Hown9.out fun b cs _ hb=>hset.bk hb (hfar _ _ _ dC hb))
        (Har9.out.keep hset fun b t cs ht hb _=>hfar b t cs (fun e=>by subst e;revert ht;decide) hb)
        (fun b f=>by
         rcases f.1 with g | g;exact .inl (H2.out.af g)
         · exact .inr oM)
        (.inl H2.out.fa) (.inl H2.out.fp) (fun b hb=>hmono b (L.fl b hb))
        (fun b hb=>by
         rcases Hat9.out with e |⟨g,e,e'⟩;exact .inl (H2.out.fo b (by rw [<-e];exact hb))
         · rw [e] at hb;injection hb with hb;subst hb;exact .inr oM)
        (fun b hb f=>by
         rcases Hat9.out with e |⟨g,e,e'⟩;exact hvoaf b (by rw [<-e];exact hb) f
         · rw [e] at hb;injection hb with hb;subst hb;have h1:=f.2;have h2:=L.k3;omega)
        Htk3.out Hfn3.out Hfk3.out
    refine ⟨rfl,⟨_,?_,⟨ga,_,_,vt',vf',_,_,tk3,fr3,hX,rfl⟩,List.pairwise_map.2 hsr,fun x hx=>?_⟩,(Keep.of_below Hb2.out).trans (Keep.setCell (F:=F) HkF9.out (p:=⟨gp,2,none⟩) (.inl H2.out.fp) _)⟩;rw [hpr];exact fI _ _ _;rw [hpr] at hx;rcases List.mem_cons.1 ((fI _ _ _).subset hx) with rfl | hx;exact ⟨hrow,hpos⟩;obtain ⟨y,hy,rfl⟩:=zAy.1 hx;exact Hbd.out y hy
end
end Go.Proofs.YthldmddkfbijhaaGreatDoor
