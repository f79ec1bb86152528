/- Lemmas of the walk. Conditions: each its own. -/
import Derived.Test.YtcoooelofcejbaaGreatDoorPd26
import Derived.Test.YtcoooelofcejbaaGreatDoorPd29
import Derived.Test.YtcoooelofcejbaaGreatDoorProg
import Derived.Test.YtcoooelofcejbaaGreatDoorShl
import Derived.Test.YtcoooelofcejbaaGreatDoorSht
import Derived.Test.YtcoooelofcejbaaGreatDoorShi
set_option linter.all false
set_option maxRecDepth 100000
set_option maxHeartbeats 8000000
open Go.Proofs.Tryz
namespace Go.Proofs.YtcoooelofcejbaaGreatDoor
section
open Go.RowKit
def rD (most rate a:Nat):Array Value:=#[.int .i64 (most:Int),.int .i64 (rate:Int),.int .i64 (a:Int)]
def aCe {P:Program} {fn:Func} {a p b:Tmp} {ty:TypeId} (i:fn.results=#[.tmp a,.cell p ty,.tmp b]) (c:Array Value) (w:World) (e:Nat) (t:TypeId) (d:Array Value) (g:Nat×Nat) (f:TypeDesc)
 (m:c.getD p undef=.pointer (some e)) (k:w.heap[e]?=some (.cells d t g))
 (o:P.underlying ty=some f) (j:(match f with | .struct _ | .array _ _=>true | _=>false)=true) (l:(P.info? ty).map (·.size)=some d.size):
 (results fn c).run P w=.ok (.tuple #[c.getD a undef,.agg d,c.getD b undef]) w:=by
 have n:c[p]?.getD undef=.pointer (some e):=by simpa using m
 simp [results,i,n,asAddr,run_loadVar_row w e t ty d g f k o j l]
def xW (w:World) (t:List UInt8) (rate most:Nat) (a:Ending) (w':World):Prop:=
 ∃gl,a=.returned (.tuple #[.pointer (some ⟨gl,0,none⟩),.agg (rD most rate t.length),.int .i64 0])/\(∃own,LiveE w' w.heap.size own gl t rate (cY rate t.length))/\VB w.heap.size w w'
def aJM {w:World} {b:Nat} {t d:TypeId} {e f:Array Value} (c:Bk w b t e) (a:Bk w b d f):t=d:=by
 unfold Bk at c a;rw [c] at a;injection a with a;injection a with _ ht
def aH7 {w w':World} {c:Array Value} {e gl rate most d:Nat} {t:List UInt8} {g:Nat->Prop} (n:c.getD 3 undef=.pointer (some e)) (k:c.getD 2 undef=.pointer (some ⟨gl,0,none⟩)) (l:c.getD 4 undef=.int .i64 0) (m:Bk w' e 133 (rD most rate d))
 (o:∃own,LiveE w' w.heap.size own gl t rate g) (q:VB w.heap.size w w'):
 bodyPost prog f94 (fun j w'=>∃gl,j=.returned (.tuple #[.pointer (some ⟨gl,0,none⟩),.agg (rD most rate d),.int .i64 0])/\(∃own,LiveE w' w.heap.size own gl t rate g)/\VB w.heap.size w w') .ret ⟨c, []⟩ w':=by
 have i:=aCe (P:=prog) (fn:=f94) (a:=2) (p:=3) (b:=4) (ty:=133) rfl c w' e 133 (rD most rate d) (0,0) _ n m underlying133 rfl kR;rw [k,l] at i;exact bodyPost_ret i rfl ⟨gl,rfl,o,q⟩
def aBq (f:Option Addr) (a:Nat) {F:Nat} (most:Nat) {rate:Nat} {t:List UInt8} {j:List Nat} (w:World) (T:IsSuf (aF t) j) (cv:t.length<=127) (cy:1<=rate) (cz:rate<=64) (dh:t.length<=most) (di:most<=2147483648) (S:Rd w F 1 f (dN (aD (aF t) j) j most rate t.length).length ((dN (aD (aF t) j) j most rate t.length).map bv)) (X:F<=w.heap.size) (b8:(dN (aD (aF t) j) j most rate t.length).length<=a) (a1:a<=maxLen):
 Calls prog 94 #[.slice f (dN (aD (aF t) j) j most rate t.length).length a] w (xW w t rate most):=by
 obtain ⟨u,Z⟩:=eqx (aD (aF t) j);rw [Z] at S b8⊢;have bm:=cL (rs:=j) (dM t);have bl:u.length=t.length+1:=by rw [<-Z,bF,T.len,aK]
 rw [Z] at bm;obtain ⟨d,b3⟩:=eqx t.length;unfold xW;rw [b3] at S b8 bl dh cv⊢;obtain ⟨x,al⟩:=eqx (oS u j most rate d);obtain ⟨cI,cJ,cK,cM,i,z,R⟩:=SnAt.of u j most rate d;rw [al] at z R;have a2:dN u j most rate d=x++rH (lD x):=by unfold dN;rw [al]
 have bC:(dN u j most rate d).length=i+4:=by rw [a2,zAi,R,nB]
 rw [bC] at S b8⊢;have dX:4<=i:=by have:=z.h1;have:=z.h2;have:=z.h3;have:=z.h4;have:=z.h5;omega
 have dQ:¬(i+4 < 8):=oM;have dY:i<=100000:=by have ae:=z.h1;have aZ:=z.h2;have af:=z.h3;have da:=z.h4;have db:=z.h5;have d7:=bZ most;have dF:=bZ rate;have dG:=bZ d;have dH:=bZ (fG u).length;have dI:=bZ (uI j rate d).length;have dJ:=lX u;have d8:=mR j rate (d / rate+1);have dK:d / rate<=d:=Nat.div_le_self _ _;rw [<-qJ] at d8;rw [gR] at da db;omega
 have bz:=(S.cut_hi0 (k:=i) (cap:=a) oM);have ci:=rM x;have cH:((dN u j most rate d).map bv).take (i*1)=x.map bv:=by rw [<-List.map_take,a2,zBl,List.take_left' R]
 rw [cH] at bz;have ar:=aJp (n:=(lD x)) x [] ci;rw [List.append_nil,<-a2,R] at ar;have b9:∀(f V:Option Addr) (y a aX:Nat) (w:World),Rd w w.heap.size 1 f y (x.map bv)->y<=1099511627776->Rd w w.heap.size 1 V 1 [.slice f y a]->Calls prog 48 #[.slice V 1 aX] w fun r w'=>r=.returned (.int .u32 ((lD x:Nat):Int))/\Below w.heap.size w w':=fun f V y a aX w ae aZ af=>lL (A:=f) (AP:=V) (n:=y) (c:=a) (b:=x) (w:=w) aX ae aZ af;obtain ⟨dA,cC⟩:=eqx (lD x);rw [cC] at ar b9;have bM:=lhd b9;clear b9;obtain ⟨c2,c9,M,cY,ab,a8,G,ca,dD⟩:=hqq9 S bz z bm bl Z b3 T a2;obtain ⟨dB,d0,cZ,d1⟩:=hqq4 al R ar bC;clear S bz z bm bl Z b3 T a2 al R cH ar bC ci cC;have e3:=aDG (P:=prog) 34 5 1 underlying34 (fun w=>by kernel_rfl) f (i+4) a i oM;have d7:IntKind.i64.wrap (((i+4:Nat):Int) - 4)=(i:Int):=by rw [IntKind.wrap_i64];omega
 go_enter func94,ntmps94;go_wp2_with fail;obtain ⟨e,an⟩:=eqx w.heap.size;have be:Bk (w.alloc (.cells #[.int .i64 0,.int .i64 0,.int .i64 0] 133)) e 133 #[.int .i64 0,.int .i64 0,.int .i64 0]:=an ▸ Bk.new _ _ _;have am:Below w.heap.size w (w.alloc (.cells #[.int .i64 0,.int .i64 0,.int .i64 0] 133)):=bR.alloc nL _;have bB:(w.alloc (.cells #[.int .i64 0,.int .i64 0,.int .i64 0] 133)).heap.size=e+1:=by simp [an]
 rw [an] at am X⊢;generalize w.alloc (.cells #[.int .i64 0,.int .i64 0,.int .i64 0] 133)=W0 at be am bB⊢;obtain ⟨aS,a9⟩:=hqq2 be am;clear be am;refine (aKT (A:=f) (m:=(i+4)) (l:=(dN u j most rate d)) (at_:=(i:Int)) (B:=F) (w:=W0) (n:=dA) (k:=0) a cZ.out (c2.out.below (a9.out.mono X)) (by unfold maxLen;omega)).mono ?_;rintro r w1 ⟨rfl,rfl⟩;go_wp2_with fail;have cf:=c9.out.below (a9.out.mono X);refine (bM.out (gO f a 0 1) _ i a _ _ (((cf.mono (by omega:F<=W0.heap.size)).alloc nL _).mono (by simp)) oM (Rd.made' _ _ 1 1 _ _ rfl bB.symm)).mono ?_;rintro r aA ⟨rfl,cg⟩;have ah:=((Below.refl W0.heap.size W0).alloc nL (.cells #[.slice (gO f a 0 1) i a] 34)).trans (cg.mono (by simp));have dn:=ah.size;obtain ⟨bK,bO⟩:=hqq2 (a9.out.trans (ah.mono oM)) (aS.out.below ah aS.out.lt);clear cg ah a9 aS cf;go_wp2_with fail;have cA:∀I,Below e w I->Rd I F 1 (gO f a 0 1) i (x.map bv):=fun I d9=>c9.out.below (d9.mono X);have J:=lhd cA;obtain ⟨o,bd⟩:=eqx aA.heap.size;have au:Bk (aA.alloc (.cells #[.slice (gO f a 0 1) i a,.int .i64 4,.bool false] 188)) o 188 (aHD (gO f a 0 1) i a 4):=bd ▸ Bk.new _ _ _;have b6:=bK.out.alloc oM (.cells #[.slice (gO f a 0 1) i a,.int .i64 4,.bool false] 188);have bf:=bO.out.alloc (.cells #[.slice (gO f a 0 1) i a,.int .i64 4,.bool false] 188);have bD:o < (aA.alloc (.cells #[.slice (gO f a 0 1) i a,.int .i64 4,.bool false] 188)).heap.size:=au.lt;have dW:e < o:=oM;rw [bd];generalize aA.alloc (.cells #[.slice (gO f a 0 1) i a,.int .i64 4,.bool false] 188)=W2 at au b6 bf bD⊢;obtain ⟨c3,aN,bP⟩:=hqq3 au b6 bf;have cp:∀(I bG:World),Below e w I->o < I.heap.size->Keep (fun s=>s=o) I bG->Below e w bG:=fun I bG ae aZ af=>ae.trans (af.to_below oM (fun s ag r=>by omega));have O:=lhd cp;clear cA bd au b6 bf cp bK bO bM dn bB;have Q:i<=a:=oM;refine (mF (gr:=o) (A:=(gO f a 0 1)) (n:=i) (c:=a) (B:=F) (at_:=4) (to_:=cI) (v:=most) (l:=x) (w:=W2) 2147483648 c3.out (J.out _ aN.out) Q a1 (M.out.n1 oM) oM oM).mono ?_;rintro r cP ⟨rfl,bt,bh⟩;obtain ⟨c4,aO,bQ⟩:=hqq3 bt (O.out _ _ aN.out bD bh) (bh.bk bP.out oM);have cD:o < cP.heap.size:=bt.lt;clear bt bh c3 aN bP bD;go_wp2_with fail;refine (mF (gr:=o) (A:=(gO f a 0 1)) (n:=i) (c:=a) (B:=F) (at_:=cI) (to_:=cJ) (v:=rate) (l:=x) (w:=cP) 64 c4.out (J.out _ aO.out) Q a1 (M.out.n2 oM) oM oM).mono ?_;rintro r cQ ⟨rfl,bu,bi⟩;obtain ⟨c5,aP,bS⟩:=hqq3 bu (O.out _ _ aO.out cD bi) (bi.bk bQ.out oM);have cE:o < cQ.heap.size:=bu.lt;clear bu bi c4 aO bQ cD;go_wp2_with fail;refine (mF (gr:=o) (A:=(gO f a 0 1)) (n:=i) (c:=a) (B:=F) (at_:=cJ) (to_:=cK) (v:=d) (l:=x) (w:=cQ) 2147483648 c5.out (J.out _ aP.out) Q a1 (M.out.n3 oM) oM oM).mono ?_;rintro r aB ⟨rfl,bw,bj⟩;obtain ⟨c6,bL,bT⟩:=hqq3 bw (O.out _ _ aP.out cE bj) (bj.bk bS.out oM);have dr:o < aB.heap.size:=bw.lt;clear bw bj c5 aP bS cE;go_wp2_with fail;obtain ⟨gH,bb⟩:=eqx aB.heap.size;have b0:Bk (aB.alloc (.cells #[(most:Int),(rate:Int),(d:Int)] 133)) gH 133 (rD most rate d):=bb ▸ Bk.new _ _ _;have b7:=bL.out.alloc oM (.cells #[(most:Int),(rate:Int),(d:Int)] 133);have bg:=bT.out.alloc (.cells #[(most:Int),(rate:Int),(d:Int)] 133);have L:=c6.out.alloc (.cells #[(most:Int),(rate:Int),(d:Int)] 133);have dT:o < gH:=oM;rw [bb];generalize aB.alloc (.cells #[(most:Int),(rate:Int),(d:Int)] 133)=W5 at b0 b7 bg L⊢;have cF:o < W5.heap.size:=L.lt;obtain ⟨bH,aQ,bU,c8⟩:=hqq4 b0 b7 bg L;clear bb b0 b7 bg L bL bT c6 dr;obtain ⟨ay,cn⟩:=eqx ((fG u).length);obtain ⟨dt,co⟩:=eqx ((uI j rate d).length);have de:=lX u;have dg:=mR j rate (d / rate+1);have df:=aJa j rate (d / rate+1);have dR:d / rate<=d:=Nat.div_le_self _ _;rw [<-qJ,co] at dg df;rw [cn,ab.out] at de;obtain ⟨a4,bq,cw,br,dj⟩:=M.out.f1 oM;obtain ⟨dw,bs,dk,cx,dl⟩:=M.out.f2 oM;rw [cn] at bq cw br;rw [co] at bs dk cx;rw [d0.out] at dj dl;refine (rY (gr:=o) (A:=(gO f a 0 1)) (n:=i) (c:=a) (B:=F) (at_:=cK) (q:=a4) (k:=ay) (l:=x) (w:=W5) cM c8.out (J.out _ aQ.out) Q a1 oM bq cw oM).mono ?_;rintro r cR ⟨rfl,bx,ap⟩;obtain ⟨c7,aR,bV,bJ⟩:=hqq4 bx (O.out _ _ aQ.out cF ap) (ap.bk bU.out oM) (ap.bk bH.out oM);have cG:o < cR.heap.size:=bx.lt;clear bx ap c8 aQ bU bH cF;go_wp2_with fail;refine (rY (gr:=o) (A:=(gO f a 0 1)) (n:=i) (c:=a) (B:=F) (at_:=cM) (q:=dw) (k:=dt) (l:=x) (w:=cR) i c7.out (J.out _ aR.out) Q a1 oM bs oM oM).mono ?_;rintro r U ⟨rfl,L,aq⟩;have d5:U.cell? ⟨o,2,none⟩=some (.bool false):=L.cell 2;obtain ⟨W,aV⟩:=hqq2 (O.out _ _ aR.out cG aq) (aq.bk bV.out oM);have Y:=aq.bk bJ.out oM;have a7:=lhd Y;have ac:U.cell? gH=some (.int .i64 (most:Int)):=Y.cell 0;have ad:U.cell? ⟨gH,1,none⟩=some (.int .i64 (rate:Int)):=Y.cell 1;have cb:U.cell? ⟨gH,2,none⟩=some (.int .i64 (d:Int)):=Y.cell 2;clear L aq c7 aR bV bJ cG Y;have cN:¬((rate:Int) < 1):=oM;have dx:decide ((rate:Int) < 1)=false:=zBy cN;have cO:¬((d:Int) > (most:Int)):=oM;have dy:decide ((d:Int) > (most:Int))=false:=zBy cO;have dz:decide (most < d)=false:=zBy oM;go_wp2_with fail;have bA:=((J.out _ W.out).cut (k:=a4) (cap:=a) oM Q).cut_hi (k:=ay) oM;have ck:((x.map bv).drop (a4*1)).take (ay*1)=(fG u).map bv:=by rw [zBl,zBl,<-List.map_drop,<-List.map_take,br]
 rw [ck] at bA;have bc:=aA5 (l:=(iM u)) (aBT cY.out) (by rw [nR,ab.out];omega) ((d:Int)+1) (by rw [nR,ab.out];omega) [];rw [List.append_nil,zBx rfl] at bc;refine (aGH (A:=(gO (gO f a 0 1) a a4 1)) (m:=ay) (c:=(a - a4)) (B:=F) (b:=(fG u)) (most:=((d:Int)+1)) (w:=U) (l:=(iM u)) (k:=0) (d+1) bc (by rw [nR,ab.out]) bA (by have:=W.out.size;omega) oM oM oM oM).mono ?_;rintro r cS ⟨cU,d4,rfl,ct,ai⟩;have bn:=ct.rd;rw [<-aJY] at bn;have b5:=xQ (B:=cS.heap.size) (t:=t) (rs:=j) (w:=cS) cU d4 ca.out (by rw [a8.out,G.out];exact bn) nL (by rw [G.out];omega);rw [G.out] at b5;have dc:gH < U.heap.size:=a7.out.lt;have aI:=lhd (W.out.trans (ai.mono (by have:=W.out.size;omega)));obtain ⟨aT,aE⟩:=hqq2 (aV.out.below ai aV.out.lt) (a7.out.below ai a7.out.lt);clear ct ai bn bc ck bA ac ad cb d5 cN dx cO dy dz bq bs br cx a7 aV W J O M dc;go_wp2_with fail;refine b5.mono ?_;clear b5;rintro r E ⟨aC,aW,rfl,cu,aj⟩;have b1:=aE.out.below aj aE.out.lt;have aJ:=lhd (aI.out.trans (aj.mono (by have:=aI.out.size;omega)));obtain ⟨aa,a6,c1⟩:=hqq3 (aT.out.below aj aT.out.lt) b1 cu.rd;have ad:E.cell? ⟨gH,1,none⟩=some (.int .i64 (rate:Int)):=b1.cell 1;clear aj cu b1 aI aT aE;go_wp2_with fail
 have bp:=sF (A0:=(some ⟨E.heap.size,0,none⟩)) (m0:=1) (B:=(E.heap.size+1)) (ss:=[(⟨aC,d,aW,t⟩:Sl)]) (t:=t) (N:=d) (w:=(E.alloc (.cells #[.slice aC d aW] 34))) rate 1 (by simp [gK]) G.out ((Rd.made E _ 1 1 _ rfl).mono (by simp)) (by
  intro e5 T;simp at T;subst T;exact (c1.out.alloc nL _).mono oM) (by simp) oM cv cy cz
 rw [G.out] at bp;refine bp.mono ?_;clear bp;rintro r az ⟨gl,du,rfl,dd,K,b4⟩;have c0:=lhd K;obtain ⟨gk,cc,e4,dE,bE,dv,a3,_,_⟩:=K;have av:=a3.suf;have cB:=a3.right;have dm:=av.unique ca.out;subst dm;have K:=a3.live.g a3.tal;rw [a8.out,G.out] at K;have ak:=((Below.refl E.heap.size E).alloc nL (.cells #[.slice aC d aW] 34)).trans (b4.mono (by simp));have b2:=a6.out.below ak a6.out.lt;have aL:=lhd (aJ.out.trans (ak.mono (by have:=aJ.out.size;omega)));obtain ⟨bN,bI⟩:=hqq2 (aa.out.below ak aa.out.lt) b2;have ac:az.cell? gH=some (.int .i64 (most:Int)):=b2.cell 0;have dV:gH < E.heap.size:=a6.out.lt;have dU:e < E.heap.size:=aa.out.lt;have bW:=c0;have dC:=lhd av;rw [World.size_alloc] at K;have dp:E.heap.size+1<=az.heap.size:=by have:=b4.size;simpa using this
 have aw:=rU (Bw:=(E.heap.size+1)) (gl:=gl) (gk:=gk) (gp:=cc) (rate:=rate) (most:=most) (t:=t) (rs:=bE) (C:=dv) (w:=az) (by rw [a8.out,G.out];exact K) cB av (by rw [G.out];omega) cy cz (by rw [G.out];omega) di;unfold eY at aw;rw [a8.out,G.out,d1.out] at aw;have dS:=aL.out.size;clear K av a3 cB c0 b4 ak b2 ad aJ aa a6 c1 dd;go_wp2_with fail;refine aw.mono ?_;clear aw;rintro r a5 ⟨cT,d3,rfl,cs,ax⟩;have ao:Below (E.heap.size+1) az a5:=ax.2.to_below dp (fun s ag r=>by omega);have dZ:=ax.1.size;have cd:Bk a5 gH 133 (rD most rate d):=bI.out.below ao oM;have cl:Bk a5 e 133 #[.int .i64 0,.int .i64 0,.int .i64 0]:=bN.out.below ao oM;have aM:=lhd (aL.out.trans (ao.mono oM));have ba:=yB (A:=cT) (A2:=f) (n:=(i+4)) (n2:=(i+4)) (B:=a5.heap.size) (l:=(dN u bE most rate d)) (l2:=(dN u bE most rate d)) (w:=a5) d3 a cs.rd ((c2.out.below (aM.out.mono X)).mono oM);rw [beq_self_eq_true] at ba;obtain ⟨aG,aU,bX⟩:=hqq3 cd cl (bW.out.vis ax.1);clear cs ax ao cd cl aL bN bI ac bW;go_wp2_with fail;refine ba.mono ?_;clear ba;rintro r D ⟨rfl,a0⟩;have ce:=aG.out.below a0 aG.out.lt;have cm:=aU.out.below a0 aU.out.lt;obtain ⟨cW,bY,aH,H⟩:=hqq4 (aM.out.trans (a0.mono oM)) (bX.out.vis (Vis.of_below a0)) ce cm;clear a0 ce cm aM aG aU bX;go_wp2_with fail;have ac:D.cell? gH=some (.int .i64 (most:Int)):=aH.out.cell 0;have ad:D.cell? ⟨gH,1,none⟩=some (.int .i64 (rate:Int)):=aH.out.cell 1;have cb:D.cell? ⟨gH,2,none⟩=some (.int .i64 (d:Int)):=aH.out.cell 2;have e0:D.cell? e=some (.int .i64 0):=H.out.cell 0;have e1:D.cell? ⟨e,1,none⟩=some (.int .i64 0):=H.out.cell 1;have e2:D.cell? ⟨e,2,none⟩=some (.int .i64 0):=H.out.cell 2;have dL:=H.out.frozen 0;have dO:=H.out.frozen 1;have dP:=H.out.frozen 2;have cj:Bk ((((D.setCell e (.int .i64 (most:Int))).setCell ⟨e,1,none⟩ (.int .i64 (rate:Int))).setCell ⟨e,2,none⟩ (.int .i64 (d:Int))).drew) e 133 (rD most rate d):=by have:=(((H.out.set 0 (.int .i64 (most:Int))).set 1 (.int .i64 (rate:Int))).set 2 (.int .i64 (d:Int))).drew;simpa [rD] using this
 have ch:Below e w ((((D.setCell e (.int .i64 (most:Int))).setCell ⟨e,1,none⟩ (.int .i64 (rate:Int))).setCell ⟨e,2,none⟩ (.int .i64 (d:Int))).drew):=
  (((cW.out.setCell (p:=e) nL _).setCell (p:=⟨e,1,none⟩) nL _).setCell (p:=⟨e,2,none⟩) nL _).drew
 have dq:∀s t aY,t≠133->Bk D s t aY->Bk ((((D.setCell e (.int .i64 (most:Int))).setCell ⟨e,1,none⟩ (.int .i64 (rate:Int))).setCell ⟨e,2,none⟩ (.int .i64 (d:Int))).drew) s t aY:=fun s t aY ds ag=>by
  have bo:s≠e:=fun r=>by subst r;exact ds (aJM ag H.out)
  exact (((ag.far (p:=e) bo _).far (p:=⟨e,1,none⟩) bo _).far (p:=⟨e,2,none⟩) bo _).drew
 have cq:Keep (fun s=>s=e) D ((((D.setCell e (.int .i64 (most:Int))).setCell ⟨e,1,none⟩ (.int .i64 (rate:Int))).setCell ⟨e,2,none⟩ (.int .i64 (d:Int))).drew):=
  (((((Keep.refl (fun s=>s=e) D).setCell (p:=e) (.inl rfl) _).setCell (p:=⟨e,1,none⟩) (.inl rfl) _).setCell (p:=⟨e,2,none⟩) (.inl rfl) _)).drew
 have cr:=(bY.out.far0 cq fun s r=>by
  have d6:s=e:=r;subst d6;by_cases a:du s=0;exact a
  · have:=(bY.out.bnd s a).1;rw [World.size_alloc] at this;omega).low (B':=e) (by rw [World.size_alloc];omega)
 obtain ⟨cX,cV,d2⟩:=hqq3 cj ch cr;clear cj ch dq cr cq
 go_region
 go_wp2_with fail;subst an;refine aH7 rfl rfl rfl cX.out ⟨_,d2.out⟩ (VisK.of_below cV.out)
end
section
open Go.RowKit
open Classical in
def VisF.split {d:Nat->Prop} {w w':World} (f:VisF d w w'):∃w1,Keep d w w1/\Vis w1 w':=by
 let c:Array Obj:=Array.ofFn (n:=w'.heap.size) fun k=>if g:k.val < w.heap.size/\¬d k.val then w.heap[k.val]'g.1 else w'.heap[k.val]
 have x:c.size=w'.heap.size:=Array.size_ofFn;have q:∀a,a < w'.heap.size->c[a]?=if a < w.heap.size/\¬d a then w.heap[a]? else w'.heap[a]?:=fun a g=>by
  rw [zAq oM,Array.getElem_ofFn];by_cases b:a < w.heap.size/\¬d a
  · rw [zBx b,dif_pos b,zAq b.1]
  · rw [zBw b,dif_neg b,zAq g]
 refine ⟨{ w' with heap:=c },⟨f.os,f.tape,f.output,?_,fun j r v=>?_⟩,⟨rfl,rfl,rfl,?_,fun a g _=>?_⟩⟩;show w.heap.size<=c.size;rw [x];exact f.size
 · show c[j]?=w.heap[j]?;rw [q j (zAl r f.size),zBx ⟨r,v⟩]
 show c.size<=w'.heap.size;omega;have u:a < w'.heap.size:=(by have:a < c.size:=g;omega);have i:({ w' with heap:=c }:World).heap[a]?=if a < w.heap.size/\¬d a then w.heap[a]? else w'.heap[a]?:=q a u;by_cases b:a < w.heap.size/\¬d a;rw [zBx b] at i;have p:∀t e,Bk w a t e->Bk { w' with heap:=c } a t e:=fun t e j=>i.trans j;rcases f.block a b.1 b.2 with s |⟨e,o,l,m⟩|⟨e,o,l,m⟩;exact .inl (by rw [i];exact s);exact .inr (.inl ⟨e,o,p _ _ l,m⟩);exact .inr (.inr ⟨e,o,p _ _ l,m⟩);rw [zBw b] at i;exact .inl i.symm
def LiveE.visF {w w':World} {B:Nat} {own:Nat->Nat} {gl:Nat} {t:List UInt8} {rate:Nat} {b a:Nat->Prop} (d:LiveE w B own gl t rate b) (i:VisF a w w') (g:∀c,a c->own c=0):LiveE w' B own gl t rate b:=by
 obtain ⟨w1,e,f⟩:=i.split;exact (d.far0 e g).vis f
end
section
open Go.RowKit
structure StAt (w:World) (B:Nat) (own:Nat->Nat) (gs gl most rate:Nat) (t:List UInt8) (Q:Nat->Prop):Prop where
 blk:Bk w gs 47 #[gl,(most:Int)]
 low:B<=gs
 col:own gs=0
 live:LiveE w B own gl t rate Q
 n127:t.length<=127
 len:t.length<=most
 max:most<=2147483648
 r1:1<=rate
 r2:rate<=64
section
variable {w w' : World} {B gs gl most rate : Nat} {own own' : Nat -> Nat} {t : List UInt8}
def StAt.tp {b:Nat->Prop} (a:StAt w B own gs gl most rate t b):TpAt w B gl t rate:=a.live.tp a.n127
def StAt.vb {b:Nat->Prop} (a:StAt w B own gs gl most rate t b) (c:Vis w w'):StAt w' B own gs gl most rate t b:=
 ⟨c.bk a.blk dC dC,a.low,a.col,a.live.vis c,a.n127,a.len,a.max,a.r1,a.r2⟩
def StAt.size {b:Nat->Prop} (a:StAt w B own gs gl most rate t b):B<=w.heap.size:=by have:=a.low;have:=a.blk.lt;omega
def StAt.fresh {b:Nat->Prop} (c:StAt w B own gs gl most rate t b) {a:Nat} (e:w.heap.size<=a):own a=0:=Nat.eq_zero_of_not_pos fun d=>by have:=(c.live.bnd a oM).2;omega
def StAt.llen {b:Nat->Prop} {a:Nat} (d:StAt w B own gs gl most rate t b) (e:t.length=a):Calls prog 42 #[gl] w fun c w'=>c=.returned (.int .i64 (a:Int))/\w=w':=by
 obtain ⟨o,gk,i,m,g,f,k,l,j⟩:=d.tp;exact bM (n:=a) f.lvw (by rw [bF,g.len,aK,e]) oM
end
structure LFS (B gs:Nat) (w w':World) (own own':Nat->Nat):Prop where
 old:∀b,b < w.heap.size->own' b≠0->own b≠0
 vis:VisF (fun b=>own b≠0∨b=gs) w w'
 keep:Keep (fun b=>B<=b) w w'
section
variable {B gs : Nat} {w w1 w' : World} {own own1 own' : Nat -> Nat}
def LFS.refl (B gs:Nat) (w:World) (own:Nat->Nat):LFS B gs w w own own:=⟨fun _ _ a=>a,VisF.of_vis (Vis.refl w),Keep.refl _ _⟩
def LFS.size (a:LFS B gs w w' own own'):w.heap.size<=w'.heap.size:=a.keep.size
def LFS.trans (b:LFS B gs w w1 own own1) (e:LFS B gs w1 w' own1 own'):LFS B gs w w' own own':=by
 have f:=b.keep.size;refine ⟨fun c d a=>b.old c d (e.old c oM a),b.vis.trans' e.vis fun c d a=>?_,b.keep.trans e.keep⟩;rcases a with a | a;exact .inl (b.old c d a);exact .inr a
def LFS.of_lf (gs:Nat) (b:LF B w w' own own'):LFS B gs w w' own own':=⟨fun c d a=>by rw [<-b.old c d];exact a,b.vis.mono fun c _ a=>.inl a,b.keep⟩
def LFS.of_vb (gs:Nat) (own:Nat->Nat) (a:VB B w w'):LFS B gs w w' own own:=⟨fun _ _ b=>b,VisF.of_vis a.1,a.2⟩
def LFS.of_below (B gs:Nat) (own:Nat->Nat) (a:Below w.heap.size w w'):LFS B gs w w' own own:=LFS.of_vb gs own (VisK.of_below a)
def LFS.below (d:LFS B gs w w' own own') (c:B<=w.heap.size):Below B w w':=d.keep.to_below c fun a f b=>by have e:B<=a:=b;omega
def LFS.zero (e:LFS B gs w w' own own') {a:Nat} (d:a < w.heap.size) (c:own a=0):own' a=0:=by
 by_cases b:own' a=0;exact b;exact absurd c (e.old a d b)
def LFS.bk (j:LFS B gs w w' own own') {a:Nat} {t:TypeId} {c:Array Value} (d:Bk w a t c) (e:own a=0) (i:a≠gs) (f:t≠266) (g:t≠206):Bk w' a t c:=
 j.vis.bk d f g fun b=>b.elim (fun b=>b e) i
structure Ap (own:Nat->Nat) (gs b:Nat):Prop where
 col:own b=0
 ne:b≠gs
def Ap.step {a:Nat} (b:Ap own gs a) (d:LFS B gs w w' own own') (c:a < w.heap.size):Ap own' gs a:=⟨d.zero c b.col,b.ne⟩
def MadeZ (w:World) (own:Nat->Nat) (gs:Nat) (d:TypeId) (b:Option Addr) (e c:Nat) (f:List Value):Prop:=Made w 0 d 1 b e c f/\∀a,b=some a->a.block < w.heap.size/\Ap own gs a.block
def MadeZ.step {a:TypeId} {c:Option Addr} {e f:Nat} {i:List Value} (b:MadeZ w own gs a c e f i) (g:LFS B gs w w' own own') (n:a≠266) (o:a≠206):MadeZ w' own' gs a c e f i:=by
 have j:w'.ownsRow 0 a 1 (.slice c e f) e i:=aA b.1.own fun l r k q=>by
  rcases c with _ | d
  · cases k
  have m:d.block=l:=(by simpa [Value.ownBlock] using k);have:=(b.2 d rfl).2;rw [m] at this;exact g.bk q this.col this.ne n o
 refine ⟨⟨j,Rd.of_own j,b.1.cap,b.1.max⟩,fun d p=>?_⟩;have:=b.2 d p;exact ⟨zAl this.1 g.size,this.2.step g this.1⟩
def ArgZ (w:World) (B:Nat) (own:Nat->Nat) (gs:Nat) (b:Option Addr) (c:Nat) (d:List UInt8):Prop:=
 Rd w w.heap.size 1 b c (d.map bv)/\(0 < c->∀a,b=some a->a.block < B∨(Ap own gs a.block/\∃e f,w.heap[a.block]?=some (.cells e 5 f)))
def VisF.same {d:Nat->Prop} {b:Nat} {e:Array Value} {t:TypeId} {j:Nat×Nat} (n:VisF d w w') (c:w.heap[b]?=some (.cells e t j)) (m:¬d b) (k:t≠266) (l:t≠206):w'.heap[b]?=w.heap[b]?:=by
 rcases n.block b (lt_of_block c) m with g |⟨f,o,a,i⟩|⟨f,o,a,i⟩;exact g;exfalso;unfold Bk at a;rw [c] at a;injection a with a;injection a with _ a;exact k a;exfalso;unfold Bk at a;rw [c] at a;injection a with a;injection a with _ a;exact l a
def ArgZ.step {l:Option Addr} {k:Nat} {f:List UInt8} (c:ArgZ w B own gs l k f) (e:LFS B gs w w' own own'):ArgZ w' B own' gs l k f:=by
 have z:=e.size;rcases zBa k with d | d;subst d;have:f= []:=(by simpa using c.1.1);subst this;exact ⟨Rd.nil _ _ _ _,fun r=>absurd r oM⟩;obtain ⟨b,v,rfl,o,q⟩:=c.1.2 d;have p:w'.heap[b]?=w.heap[b]?:=(by rcases c.2 d _ rfl with a |⟨a,m,n,g⟩;exact e.keep.block b o (by have A:b < B:=a;omega);exact e.vis.same g (fun i=>i.elim (fun i=>i a.col) a.ne) dC dC);refine ⟨⟨c.1.1,fun _=>⟨b,v,rfl,by omega,fun u x s=>by rw [<-q u x s];exact World.cell?_of_block p⟩⟩,fun _ y j=>?_⟩;injection j with j;subst j;rcases c.2 d _ rfl with a |⟨a,m,n,g⟩;exact .inl a;exact .inr ⟨a.step e o,m,n,p.trans g⟩
def ArgZ.old {c:Nat} {b:Option Addr} {f:Nat} {d:List UInt8} (e:Rd w c 1 b f (d.map bv)) (m:c<=B) (l:B<=w.heap.size):ArgZ w B own gs b f d:=
 ⟨e.mono oM,fun j k a=>by
  obtain ⟨g,o,i,n,_⟩:=e.2 j;rw [i] at a;injection a with a;subst a;exact .inl (by show g < B;omega)⟩
def ArgZ.made {d:Option Addr} {f i:Nat} {e:List UInt8} (c:MadeZ w own gs 5 d f i (e.map bv)):ArgZ w B own gs d f e:=
 ⟨c.1.rd,fun p g a=>by
   have l:=(c.2 g a).2
   obtain ⟨o,n,j,b,_,k,_⟩:=c.1.own.2.resolve_left (fun m=>by
     have:=m.1;injection this with q1;rw [q1] at a;cases a)
   injection b with b;rw [b] at a;injection a with a;subst a;exact .inr ⟨l,j,_,k⟩⟩
def ArgZ.vis {a:Option Addr} {c:Nat} {b:List UInt8} (d:ArgZ w B own gs a c b) (e:Below w.heap.size w w'):ArgZ w' B own gs a c b:=d.step (LFS.of_below B gs own e)
def StAt.far {d:Nat->Prop} {gl most rate:Nat} {t:List UInt8} {H:Nat->Prop} (a:StAt w B own gs gl most rate t d) (f:Keep H w w') (e:∀b,H b->Ap own gs b):StAt w' B own gs gl most rate t d:=
 ⟨f.bk a.blk fun c=>(e _ c).ne rfl,a.low,a.col,a.live.far0 f fun b c=>(e b c).col,a.n127,a.len,a.max,a.r1,a.r2⟩
def Two (own1:Nat->Nat) (b:Nat) (d:Nat->Nat) (c:Nat):Prop:=∀a,own1 a≠0∨a=b->Ap d c a
end
def StAt.other {k:Nat->Prop} {w w':World} {B q i d l m o:Nat} {own1 n f:Nat->Nat} {p:List UInt8} (a:StAt w B f d l m o p k) (j:LFS q i w w' own1 n) (e:Two own1 i f d):StAt w' B f d l m o p k/\Two n i f d:=by
 refine ⟨⟨j.vis.bk a.blk dC dC fun g=>(e _ g).ne rfl,a.low,a.col,a.live.visF j.vis fun b g=>(e b g).col,a.n127,a.len,a.max,a.r1,a.r2⟩,fun b c=>?_⟩;rcases c with c | c;by_cases r:b < w.heap.size;exact e b (.inl (j.old b r c));exact ⟨a.fresh oM,by have:=a.blk.lt;omega⟩;exact e b (.inr c)
def Two.symm {own1 e:Nat->Nat} {c d:Nat} (g:Two own1 c e d) (j:own1 c=0) (k:e d=0):Two e d own1 c:=fun b a=>by
 refine ⟨?_,fun i=>?_⟩;by_cases f:own1 b=0;exact f;have:=g b (.inl f);rcases a with a | a;exact absurd this.col a;exact absurd a this.ne;have:=g b (.inr i);rcases a with a | a;exact a this.col;exact this.ne a
def oO {m:Nat->Prop} {B:Nat} {own:Nat->Nat} {gs gl most rate N:Nat} {t:List UInt8} (a b:Int) {w:World} (d:StAt w B own gs gl most rate t m) (o:t.length=N):
 Calls prog 83 #[gs,.int .i64 a,.int .i64 b] w fun c w'=>c=.returned (.bool (jO N a b))/\w=w':=by
 have l:=d.llen o;have r:N<=127:=by have:=d.n127;omega
 have p:=d.blk.cell 0;have f:=lhd l;clear l d;unfold jO;by_cases e:0<=a
 · by_cases i:0<=b
   · by_cases k:a<=(N:Int)
     · have q:IntKind.i64.wrap ((N:Int) - a)=(N:Int) - a:=(by rw [IntKind.wrap_i64];omega);have g:decide (0<=a)=true:=zBz e;have j:decide (0<=b)=true:=zBz i;have n:decide (a<=(N:Int))=true:=zBz k;go_enter func83,ntmps83;go_wp2_with fail;refine f.out.mono ?_;rintro c w1 ⟨rfl,rfl⟩;go_wp2_with fail;refine f.out.mono ?_;rintro c w1 ⟨rfl,rfl⟩;go_wp2_with fail;go_ret;refine ⟨?_,rfl⟩
       first | rfl |(show Ending.returned (Value.bool (decide (b<=(N:Int) - a)))=_;congr 2;exact decide_eq_decide.2 oM)
     · have g:decide (0<=a)=true:=zBz e;have j:decide (0<=b)=true:=zBz i;have n:decide (a<=(N:Int))=false:=zBy k;go_enter func83,ntmps83;go_wp2_with fail;refine f.out.mono ?_;rintro c w1 ⟨rfl,rfl⟩;go_wp2_with fail;go_ret;refine ⟨?_,rfl⟩;show Ending.returned (Value.bool false)=_;rw [zBy oM]
   · have g:decide (0<=a)=true:=zBz e;have j:decide (0<=b)=false:=zBy i;go_enter func83,ntmps83;go_wp2_with fail;go_ret;exact ⟨rfl,rfl⟩
 · have g:decide (0<=a)=false:=zBy e;go_enter func83,ntmps83;go_wp2_with fail;go_ret;exact ⟨rfl,rfl⟩
def qH (a c:Int) (b:Nat):Int:=if a=1 then 0 else if a=3 then (b:Int) else c
def mE {u:Nat->Prop} {B:Nat} {own:Nat->Nat} {gs gl most rate:Nat} (q:Nat) {t:List UInt8} (b g f:Int) (j:Option Addr) (e m:Nat) {w:World} (r:StAt w B own gs gl most rate t u) (v:t.length=q) (a:jO q g (qH b f e)=false):
 Calls prog 49 #[gs,.agg #[.int .i64 b,.int .i64 g,.int .i64 f,.slice j e m]] w fun i w'=>i=.returned (.int .i64 2)/\Below w.heap.size w w':=by
 have p:Below w.heap.size w (w.alloc (.cells #[.int .i64 b,.int .i64 g,.int .i64 f,.slice j e m] 57)):=bR.alloc nL _;have s:=fun x=>oO g x (r.vb (Vis.of_below p)) v;have l:=lhd p;have d:=Bk.new w 57 #[.int .i64 b,.int .i64 g,.int .i64 f,.slice j e m];have z:=d.cell 0;have A:=d.cell 1;have C:=d.cell 2;have D:=d.cell 3;have k:=lhd s;clear r p d s;unfold qH at a;by_cases n:b=1
 · subst n;rw [zBx rfl] at a;have c:=lhd a;clear a;go_enter func49,ntmps49;go_wp2_with fail;refine (k.out 0).mono ?_;rintro i w1 ⟨rfl,rfl⟩;rw [c.out];go_wp2_with fail;go_ret;exact ⟨rfl,l.out⟩
 · rw [zBw n] at a;by_cases o:b=3
   · subst o;rw [zBx rfl] at a;have c:=lhd a;clear a;go_enter func49,ntmps49;go_wp2_with fail;refine (k.out (e:Int)).mono ?_;rintro i w1 ⟨rfl,rfl⟩;rw [c.out];go_wp2_with fail;go_ret;exact ⟨rfl,l.out⟩
   · rw [zBw o] at a;have c:=lhd a;have b1:(b==1)=false:=zCb.2 n;have y:(b==3)=false:=zCb.2 o;clear a;go_enter func49,ntmps49;go_wp2_with fail;refine (k.out f).mono ?_;rintro i w1 ⟨rfl,rfl⟩;rw [c.out];go_wp2_with fail;go_ret;exact ⟨rfl,l.out⟩
end
section
open Go.RowKit Go.Shelf
def aFP {b:List Nat} {c a d:Nat} (e:b[c]?=some d):(b.set c a).Perm (a::aG b c):=by
 have f:=vK (s:=a) e;have g:=(eE e).symm.cons a;have i:(d::b.set c a).Perm (d::a::aG b c):=(f.trans g).trans (List.Perm.swap d a _);exact i.cons_inv
def aGm {c:List Nat} {b a f k l:Nat} (g:c[a]?=some k) (i:c[b]?=some l) (m:b≠a):(aG (c.set a f) b)[aU a b]?=some f:=by
 have j:=(zAc.1 i).1;have e:=(zAc.1 g).1;rw [dQ (by rw [zAt];exact j)];unfold aU;by_cases d:a > b
 · rw [zBx d,zBw oM,show a - 1+1=a by omega,List.getElem?_set_self e]
 · rw [zBw d,zBx oM,List.getElem?_set_self e]
def aDY {c:List Nat} {d row e:Nat} {o:List (Nat×Nat)} (j:c.Nodup) (i:c[d]?=some e) (q:row < c.length) (p:∀b∈o,c[b.1]?=some b.2):∀b∈o.map (fun b=>(mvR d row b.1,b.2)),(aP (aG c d) row e)[b.1]?=some b.2:=fun b r=>by
 obtain ⟨a,s,rfl⟩:=zAy.1 r;have n:=p a s;have k:ro c a.2=a.1:=fF j n;have l:=zAd n;have m:=fF j i;obtain ⟨v,x,y⟩:=uR j (t:=row) i q;show (aP (aG c d) row e)[mvR d row a.1]?=some a.2;have u:mvR d row a.1=ro (aP (aG c d) row e) a.2:=by
  unfold mvR;by_cases g:a.1=d
  · have f:a.2=e:=eH l (zAd i) (by rw [k,g,m]);rw [zBx g,f,x]
  · have f:a.2≠e:=fun f=>g (by rw [<-k,f,m]);rw [zBw g,y _ l f,k]
 rw [u];exact bT (v.mem_iff.2 l)
def LiveM.mv01 {w a:World} {B gl gk i rate f e:Nat} {own:Nat->Nat} {d g:List Nat} {j:List (Nat×Nat)} (b:LiveM w B own gl gk i rate 0 f e d g j) (k:a=w∨a=w.setCell ⟨gl,3,none⟩ (.int .i64 1)):∃c:Int,(0<=c/\c<=1)/\LiveM a B own gl gk i rate c f e d g j/\LF B w a own own:=by
 rcases k with rfl | rfl;exact ⟨0,by omega,b,LF.of_vb (own:=own) vR⟩;exact ⟨1,by omega,(b.setMv 1).1,(b.setMv 1).2⟩
def aIQ {w:World} {B:Nat} {own:Nat->Nat} {gl:Nat} {t:List UInt8} {rate:Nat} {bU:Nat->Prop} (b:Nat) (y:UInt8) (a8:LiveE w B own gl t rate bU) (cb:TabW w) (bX:7 < B) (dL:t.length<=127) (ay:b < t.length) (ef:1<=rate) (eg:rate<=64):
 Calls prog 85 #[gl,(b:Int),.int .u8 (y.toNat:Int)] w (aBG w B own gl (t.set b y) rate bU):=by
 obtain ⟨gk,U,ej,aO,q,aj,p,be,⟨rfl,b0⟩,_⟩:=a8;obtain ⟨o,ad⟩:∃o,t.length=o+1:=⟨t.length - 1,by omega⟩;have c8:=ad;rw [ad] at p b0 dL ay;have ay:b<=o:=oM;obtain ⟨ab,cc,dP⟩:=p.len ad;have K:=eK t;rw [ad] at K;obtain ⟨c,bd⟩:=eqx (y.toNat+1);have cP:c < 257:=by have:=y.toNat_lt;omega
 have dS:0 < c:=oM;obtain ⟨I,H⟩:=eqx (aF t);have aR:aF (t.set b y)=I.set b c:=by rw [aHa t y oM,H,bd]
 have aT:=K.len;have aS:∀n∈I,n < 257:=by rw [<-H];exact dM t
 rw [H] at K ab aT;have L:=p.suf;rw [H] at L;have O:∀C,C<=o+1->C∈q:=fun C ee=>L.mem oM;have b7:q.Nodup:=L.nodup;have cF:q.Perm (List.range (o+1+1)):=by have:=L.perm;rwa [aT] at this
 have ah:ro q b≠ro q (b+1):=fun d=>by have:=eH (O b oM) (O (b+1) oM) d;omega
 have ci:=nJ L K (show 0 < b+1 by omega) (show b+1<=o+1 by omega);rw [zBb] at ci;obtain ⟨W,D⟩:=ci;have a0:=fun f row bV=>aI8 (s:=c) (n0:=f) (row:=row) (a:=bV) L K ay dS;have ac:=fun row=>aF8 (S:=I) (s:=c) (row:=row) cF K ay;obtain ⟨e,ag⟩:=eqx (ro q b);obtain ⟨j,az⟩:=eqx (ro q (b+1));have Z:q[e]?=some b:=by rw [<-ag];exact bT (O b oM)
 have cJ:q[j]?=some (b+1):=by rw [<-az];exact bT (O (b+1) oM)
 have ed:e < o+2:=by have:=(zAc.1 Z).1;omega
 have ch:j < o+2:=by have:=(zAc.1 cJ).1;omega
 rw [ag] at ah W;rw [az] at ah W D;rw [ag,az] at a0 ac;obtain ⟨r,J⟩:=eqx (aD I q);rw [J] at ab W D a0 ac;obtain ⟨u,bi⟩:=eqx (bE I b);rw [bi] at a0 ac;obtain ⟨F,aX⟩:=eqx (I.getD b 0);rw [aX] at W D a0;have aa:r[e]?=some u:=by rw [<-J,<-bi];unfold aD;rw [zAf,Z];rfl
 have V:∀n∈r,n < 257:=by rw [<-J];exact cL aS
 have dQ:u < 257:=V u (zAd aa);have dF:F < 257:=V F (zAd D);have Y:=p.live;rw [H,J] at Y;have a1:=p.tal;rw [H,J] at a1;have bg:∀n∈r.set j c,n < 257:=fun n aC=>by rcases List.mem_or_eq_of_mem_set aC with a9 | a9;exact V n a9;omega
 have cl:∀n∈aG (r.set j c) e,n < 257:=oI bg;have bh:(r.set j c)[e]?=some u:=by rw [List.getElem?_set_ne (fun d=>ah d.symm),aa]
 have aY:=cM (l:=(r.set j c)) (k:=e) (by rw [zAt];omega);rw [zAt] at aY;have cn:=cM (l:=r) (k:=j) oM;have cm:(aG (r.set j c) e)[aU j e]?=some c:=aGm D aa ah;have cS:aO.Perm (F::aG r j):=a1.trans (eE D).symm;obtain ⟨f,b6⟩:=eqx (qU (aG (r.set j c) e) (aG r j) c (aU j e));obtain ⟨M,N⟩:∃M:Int,(if b=0 then -1 else ((ro q (b - 1):Nat):Int))=M:=⟨_,rfl⟩;obtain ⟨i,ax⟩:∃i:Int,aAU M (e:Int)=i:=⟨_,rfl⟩;have aV:i=if b=0 then -1 else ((aU (ro q (b - 1)) e:Nat):Int):=by
  rw [<-ax,<-N];by_cases m:b=0
  · rw [zBx m,zBx m,aCj]
  · rw [zBw m,zBw m,kX]
 obtain ⟨row,aB⟩:∃row,(if u=c/\i<=(f:Int) then f+1 else f)=row:=⟨_,rfl⟩;have cB:f+(if F < c then 1 else 0)=r.countP (fun n=>decide (n < c))+((aG (r.set j c) e).take (aU j e)).count c:=by rw [<-b6];unfold qU;rw [<-(eE D).countP_eq,zBn];simp only [zCa];omega
 obtain ⟨eh,b8⟩:=a0 f row i aV cB aB.symm;have aw:=ac row;obtain ⟨dV,cV,cW⟩:=uR b7 (t:=row) Z oM;have bb:=aDY (row:=row) b7 Z oM p.right;have bc:ro (aP (aG q e) row b) b=row:=cV;have aW:inI i (row:Int)=aOf (aP (aG q e) row b) b:=by
  rw [aV];unfold aOf;by_cases m:b=0
  · rw [zBx m,zBx m,aE7]
  · rw [zBw m,zBw m,uU];rw [cW (b - 1) (O _ oM) oM]
 obtain ⟨dq,ca⟩:=eqx (aP (aG q e) row b);rw [ca] at b8 aw bb bc aW;have cT:(aG r j++ [c]).Perm (aD (I.set b c) dq):=by rw [aw];refine (List.perm_append_comm).trans ?_;refine (aFP D).symm.trans ?_;exact (eE bh).symm.trans (eO _ _ _).symm
 have cH:aj≠ []:=fun d=>by obtain ⟨n,aC,_⟩:=be;rw [d] at aC;cases aC
 have cj:=Y.bnd;have cf:∀a2,LiveM a2 B own gl gk U rate 0 (o+1+1) (o+1+1) r aO aj->Calls prog 138 #[gl,(b:Int),(e:Int)] a2 fun d w'=>d=.returned (.int .i64 M)/\VB B a2 w':=fun a2 dB=>by by_cases m:b=0;rw [zBx m] at N;subst m N;refine (nO e a2 gl).mono ?_;rintro d w' ⟨rfl,rfl⟩;exact ⟨rfl,VisK.refl _ _⟩;rw [zBw m] at N;obtain ⟨b1,b2⟩:=nJ L K (show 0 < b by omega) oM;rw [J,ag] at b1 b2;have:=pZ b dB oM b2 V oM oM;rw [kZ a1,b1,N] at this;exact this
 have dD:-1000000<=M/\M<=1000000:=by rw [<-N];by_cases m:b=0;rw [zBx m];omega;rw [zBw m];have ei:ro q (b - 1) < q.length:=List.idxOf_lt_length_iff.2 (O (b - 1) oM);omega
 have dC:-1000000<=i/\i<=1000000:=by rw [<-ax];unfold aAU;split <;> omega
 have cC:f<=row/\row<=f+1:=by rw [<-aB];split <;> omega
 have b5:=bM (Y.g a1).lvw ab oM;have dx:IntKind.i64.wrap (((o+1:Nat):Int) - 1)=(o:Int):=by rw [IntKind.wrap_i64];omega
 have cQ:F=c->aF (t.set b y)=aF t:=fun d=>by
  rw [aR,H];apply List.ext_getElem?;intro dU;rw [zBm];by_cases m:b=dU;subst m;rw [zBx rfl,zBx oM,<-d,<-aX,zAb,zAa oM];rfl
  · rw [zBw m]
 obtain ⟨bP,bS,bO,bG,bN,bQ,bt,bI,bR⟩:=hqq9 cQ p be b0 p.right p.suf Y.blk Y a1;obtain ⟨a5,br,d4,x,d7,aE,e6,aH,da⟩:=hqq9 c8 H aR ab cc V aa D W;obtain ⟨dh,dk,bu,aI,bv,db,dl,d3,dn⟩:=hqq9 Z bg cl aY cn cm bh aw cS;obtain ⟨dp,dg,bK,df,d9,di,bJ,de,bL⟩:=hqq9 cT bb cH b8 aW bc b6 cC aB;obtain ⟨bs,d5,bq,e8,d6,dj,d8⟩:=hqq7 cf aS J cj cb bd ax;have dE:(b:Int)<=(o:Int):=oM;obtain ⟨e9,aQ⟩:=eqx (o+1);rw [aQ] at b5 dx;have e7:=lhd aQ;unfold aBG;clear p Y a1 ad c8 H aR ab cc V aa Z bg bh aw cS bb b8 aW cf aS b0 be L O K cF b7 ca bi dP aT ag N J cj cb W D az cJ aX ah aQ cQ a0 ac cl aY cn cm cT cH bc b6 cC aB bd ax aV cB dV cV cW;go_enter func85,ntmps85;go_wp2_with fail;refine b5.mono ?_;clear b5;rintro d w1 ⟨rfl,rfl⟩;go_wp2_with fail;refine (aBM bt.out oM dE).mono ?_;rintro d w1 ⟨rfl,rfl⟩;obtain ⟨cw,co⟩:=bI.out.setMv 0;obtain ⟨am,aJ⟩:=hqq2 cw co;clear cw co bt bI;generalize w.setCell ⟨gl,3,none⟩ (.int .i64 0)=w1 at am aJ⊢;have cO:Calls prog 87 #[gl,(b:Int)] w1 fun d w'=>d=.returned (.int .i64 (e:Int))/\VB B w1 w':=by have dG:=am.out.g bR.out;exact fE B gl gk U rate w1 (by rw [a5.out,br.out];rw [bq.out];exact dG) bN.out bQ.out (by rw [a5.out];omega) dh.out
 go_wp2_with fail;refine cO.mono ?_;clear cO;rintro d cY ⟨rfl,bk⟩;have bH:=lhd (am.out.vis bk.1);have bw:=lhd (aJ.out.trans (LF.of_vb (own:=own) bk));clear bk am aJ;go_wp2_with fail;refine (oN y cY).mono ?_;rintro d e2 ⟨rfl,cg⟩;rw [dj.out];have bl:VB B cY e2:=VisK.of_below cg;have an:=lhd (bH.out.vis bl.1);have aK:=lhd (bw.out.trans (LF.of_vb (own:=own) bl));clear bl cg bH bw;have v:=an.out.blk.cell 0;have cE:=pU (an.out.walk.at bR.out) aH.out da.out aE.out (by rw [x.out];omega) (d6.out.keepLF aK.out bX) bX;go_wp2_with fail;refine cE.mono ?_;clear cE;rintro d e3 ⟨rfl,bm⟩;have aM:=lhd (an.out.vis bm.1);have bx:=lhd (aK.out.trans (LF.of_vb (own:=own) bm));clear bm v an aK;have ce:=bs.out e3 aM.out;clear bs;go_wp2_with fail;refine ce.mono ?_;clear ce;rintro d a2 ⟨rfl,bn⟩;have ao:=lhd (aM.out.vis bn.1);have bz:=lhd (bx.out.trans (LF.of_vb (own:=own) bn));clear bn aM bx;obtain ⟨eb,ea,cu,cU⟩:=ao.out.gw;have v:=ao.out.blk.cell 0;have ak:=cu.cell 0;have ct:=dR j F cU (by rw [x.out];exact ch) (by have G:=aH.out;rw [zAa (by rw [x.out];exact ch)] at G;injection G) aE.out (by rw [x.out];omega);clear cu cU;go_wp2_with fail;refine ct.mono ?_;clear ct;rintro d em ⟨rfl,bo⟩;have a7:=lhd (ao.out.vis bo.1);have aL:=lhd (bz.out.trans (LF.of_vb (own:=own) bo));clear bo v ak ao bz;by_cases bW:F=c
 · have dw:((F:Int)==(c:Int))=true:=(by rw [bW];simp);go_wp2_with fail;go_ret;have X:(t.set b y).length=t.length:=zAt ..;refine ⟨rfl,own,⟨gk,U,0,aO,q,aj,?_,bO.out,⟨rfl,by rw [X,a5.out];exact bG.out⟩,by decide,by omega⟩,aL.out⟩;rw [bP.out bW,X,a5.out];refine ⟨bQ.out,?_,bS.out.tal,bN.out⟩;have:=a7.out;rw [br.out,bq.out];exact this
 have dw:((F:Int)==(c:Int))=false:=by rw [zCb];omega
 clear bS bP;have v:=a7.out.blk.cell 0;have ck:=jH a7.out.walk aH.out cP aE.out (by rw [x.out];omega);go_wp2_with fail;refine ck.mono ?_;clear ck;rintro d en ⟨rfl,own1,bY,c3⟩;obtain ⟨cx,cp⟩:=a7.out.walkOp bY c3;obtain ⟨ap,bA⟩:=hqq2 cx (aL.out.trans cp);clear cx cp bY c3 v a7 aL;have v:=ap.out.blk.cell 0;have hcut:=fX ap.out.walk dl.out dk.out (by rw [zAt,x.out];omega);go_wp2_with fail;refine hcut.mono ?_;clear hcut;rintro d eo ⟨rfl,dX,bZ,c4⟩;obtain ⟨ai,af⟩:=ap.out.walkOp bZ c4;obtain ⟨E,a6⟩:=hqq2 ai (bA.out.trans af);clear ai af bZ c4 v ap bA;have v:=E.out.blk.cell 0;have ae:=lI E.out.walk dn.out dF (by rw [d7.out];omega);go_wp2_with fail;refine ae.mono ?_;clear ae;rintro d e4 ⟨rfl,c0,c5⟩;obtain ⟨cy,cq⟩:=E.out.walkOp c0 c5;obtain ⟨aN,bB⟩:=hqq2 cy (a6.out.trans cq);clear cy cq c0 c5 v E a6;have bj:=vB aN.out db.out bu.out (by have:=aI.out;have:=x.out;omega) (by have:=bv.out;have:=x.out;omega);rw [bJ.out] at bj;have b9:=lJ (j:Int) (e:Int) e4 oM;rw [kX] at b9;go_wp2_with fail;refine b9.mono ?_;clear b9;rintro d a3 ⟨rfl,rfl⟩;go_wp2_with fail;refine bj.mono ?_;clear bj;rintro d cZ ⟨rfl,bp⟩;have aq:=lhd (aN.out.vis bp.1);have bC:=lhd (bB.out.trans (LF.of_vb (own:=dX) bp));clear bp aN bB;have ba:=lJ M (e:Int) cZ dD;rw [d8.out] at ba;go_wp2_with fail;refine ba.mono ?_;clear ba;rintro d a3 ⟨rfl,rfl⟩;go_upto_region 13 with fail;go_cut [90] from 83 to 129 (fun al a4=>al=.bool (decide (u=c/\i<=(f:Int)))/\a4=cZ)
 case first=>
  by_cases R:u=c
  · have ds:((u:Int)==(c:Int))=true:=(by rw [R];simp);by_cases T:i<=(f:Int)
    · have dt:decide ((f:Int)>=i)=true:=zBz T;have z:decide (u=c/\i<=(f:Int))=true:=zBz ⟨R,T⟩;clear R T;go_wp2_with fail;go_meet;exact ⟨by rw [z],rfl⟩
    · have dt:decide ((f:Int)>=i)=false:=zBy T;have z:decide (u=c/\i<=(f:Int))=false:=zBy fun a8=>T a8.2;clear R T;go_wp2_with fail;go_meet;exact ⟨by rw [z],rfl⟩
  · have ds:((u:Int)==(c:Int))=false:=(by rw [zCb];omega);have z:decide (u=c/\i<=(f:Int))=false:=zBy fun a8=>R a8.1;clear R;go_wp2_with fail;go_meet;exact ⟨by rw [z],rfl⟩
 case rest=>
 obtain ⟨rfl,rfl⟩:=hcut;go_upto_if 90 with fail;go_cut [15] from 83 to 129 (fun al a4=>al=.int .i64 (row:Int)/\a4=wc)
 case first=>
  have G:=bL.out;by_cases Q:u=c/\i<=(f:Int)
  · rw [zBx Q] at G;have z:decide (u=c/\i<=(f:Int))=true:=zBz Q;have dy:wrap64 ((f:Int)+1)=(row:Int):=(by rw [<-G,dK oM oM];omega);rw [z];clear G Q z;go_wp2_with fail;go_meet;exact ⟨by first | rfl | rw [dy],rfl⟩
  · rw [zBw Q] at G;have z:decide (u=c/\i<=(f:Int))=false:=zBy Q;have d1:=lhd G;rw [z];clear G Q z;go_wp2_with fail;go_meet;exact ⟨by rw [d1.out],rfl⟩
 case rest=>
 obtain ⟨rfl,rfl⟩:=hcut;clear bL bJ de;have v:=aq.out.blk.cell 0;have cI:=fW row aq.out.walk dQ (by have:=aI.out;have:=x.out;omega) bu.out (by have:=aI.out;have:=x.out;omega);go_wp2_with fail;refine cI.mono ?_;clear cI;rintro d ep ⟨rfl,dY,c1,c6⟩;obtain ⟨cz,cr⟩:=aq.out.walkOp c1 c6;obtain ⟨ar,bD⟩:=hqq2 cz (bC.out.trans cr);clear cz cr c1 c6 v aq bC;have v:=ar.out.blk.cell 0;have ae:=mM ar.out.walk cP (by have:=bv.out;have:=x.out;omega);go_wp2_with fail;refine ae.mono ?_;clear ae;rintro d a3 ⟨rfl,c2,c7⟩;obtain ⟨cA,cs⟩:=ar.out.walkOp c2 c7;obtain ⟨P,bF⟩:=hqq2 cA (bD.out.trans cs);clear cA cs c2 c7 v ar bD;have e1:a3.cell? ⟨gl,3,none⟩=some (.int .i64 0):=(P.out.blk.cell 3).trans rfl;have dA:=P.out.blk.frozen 3;have dH:=P.out.blk.lt;have ak:a3.cell? ⟨gl,1,none⟩=some (.pointer (some U)):=(P.out.blk.cell 1).trans rfl;have dN:row < o+1+1:=oM;have dO:e < o+1+1:=oM;have cK:o+1+1<=100000:=oM;go_upto_if 108 with fail;go_cut [16] from 109 to 129 (fun al a4=>al=.int .i64 i/\(a4=a3∨a4=a3.setCell ⟨gl,3,none⟩ (.int .i64 1)))
 case first=>
  by_cases av:row=e
  · have du:((row:Int)==(e:Int))=true:=(by rw [av];simp);have dv:((row:Int)!=(e:Int))=false:=(by rw [av];simp);clear av;go_wp2_with fail;go_meet;exact ⟨rfl,.inl rfl⟩
  · have du:((row:Int)==(e:Int))=false:=(by rw [zCb];omega);have dv:((row:Int)!=(e:Int))=true:=(by rw [bne_iff_ne];omega);clear av;go_wp2_with fail;go_meet;exact ⟨rfl,.inr rfl⟩
 case rest=>
 obtain ⟨rfl,cd⟩:=hcut;obtain ⟨ek,dJ,ai,af⟩:=P.out.mv01 cd;obtain ⟨E,a6⟩:=hqq2 ai (bF.out.trans af);clear cd;clear ai af e1 dA dH ak P bF;have ak:wc.cell? ⟨gl,1,none⟩=some (.pointer (some U)):=(E.out.blk.cell 1).trans rfl;have cN:=fN e E.out.perm dO dN cK cK bK.out;go_wp2_with fail;refine cN.mono ?_;clear cN;rintro d d0 ⟨rfl,⟨e0,cG,c9⟩,cv⟩;obtain ⟨b4,aZ⟩:=E.out.permOp (c9.mono fun y _ dz=>.inl dz) cv;obtain ⟨el,cD⟩:=eqx (dI dY wc.heap.size d0.heap.size 1);rw [cD] at b4 aZ;obtain ⟨dd,dc,au⟩:=hqq3 b4 (a6.out.trans aZ) cG;clear b4 aZ c9 cv cG cD ak E a6;have b3:=vC (row:Int) d0 dC;rw [d9.out] at b3;go_wp2_with fail;refine b3.mono ?_;clear b3;rintro d eq ⟨rfl,rfl⟩;have cR:∀C,Smp e0 C↔Smp aj C:=fun C=>by constructor;rintro ⟨n,p,rfl⟩;obtain ⟨e5,dT,d⟩:=zAy.1 (au.out.subset p);exact ⟨e5,dT,by rw [<-d]⟩;rintro ⟨n,p,rfl⟩;exact ⟨_,au.out.symm.subset (zAy.2 ⟨n,p,rfl⟩),rfl⟩
 have aA:=nN ⟨df.out,by rw [d3.out];exact dd.out,dp.out,fun n p=>dg.out n (au.out.subset p),fun C=>Iff.rfl,fun ec d=>by
  subst d;have:=au.out.length_eq;simp at this;exact bK.out (zBk this.symm),dc.out,⟨dJ.1,by omega⟩⟩ oM oM (fun n p=>by
  rcases List.mem_or_eq_of_mem_set p with a9 | a9;exact d5.out n a9
  · omega)
 rw [di.out] at aA;unfold rX at aA;have dm:=lhd cR;clear cR;go_wp2_with fail;refine aA.mono ?_;clear aA;rintro d er ⟨rfl,dZ,dW,dr,cX,A⟩;have d2:=lhd A;clear A;go_wp2_with fail;go_ret;have A:=d2.out;have X:(t.set b y).length=o+1:=by rw [zAt,a5.out]
 have bf:Smp cX=Smp aj:=funext fun C=>propext ((A.plc C).trans (dm.out C));refine ⟨rfl,dZ,⟨gk,U,dW,aG r j++ [c],dr,cX,?_,by rw [bf];exact bO.out,⟨bf,by rw [bf,X];exact bG.out⟩,A.mvb.1,by rw [X];have:=A.mvb.2;omega⟩,A.lf⟩;rw [d4.out,X];exact ⟨A.near.sorted,A.live,A.tal,A.right⟩
end
end Go.Proofs.YtcoooelofcejbaaGreatDoor
