/- Lemmas of the walk. Conditions: each its own. -/
import Derived.Test.YthldmddkfbijhaaGreatDoorPsl19
import Derived.Test.YthldmddkfbijhaaGreatDoorProg
import Derived.Test.YthldmddkfbijhaaGreatDoorSht
import Derived.Test.YthldmddkfbijhaaGreatDoorShl
import Derived.Test.YthldmddkfbijhaaGreatDoorShi
set_option linter.all false
set_option maxRecDepth 100000
set_option maxHeartbeats 4000000
open Go.Proofs.Tryz
namespace Go.Proofs.YthldmddkfbijhaaGreatDoor
section
open Go.RowKit
def rB (most rate a:Nat):Array Value:=#[.int .i64 (most:Int),.int .i64 (rate:Int),.int .i64 (a:Int)]
def tL {P:Program} {fn:Func} {a p b:Tmp} {ty:TypeId} (i:fn.results=#[.tmp a,.cell p ty,.tmp b]) (c:Array Value) (w:World) (e:Nat) (t:TypeId) (d:Array Value) (g:Nat×Nat) (f:TypeDesc)
 (m:c.getD p undef=.pointer (some e)) (k:w.heap[e]?=some (.cells d t g))
 (o:P.underlying ty=some f) (j:(match f with | .struct _ | .array _ _=>true | _=>false)=true) (l:(P.info? ty).map (·.size)=some d.size):
 (results fn c).run P w=.ok (.tuple #[c.getD a undef,.agg d,c.getD b undef]) w:=by
 have n:c[p]?.getD undef=.pointer (some e):=by simpa using m
 simp [results,i,n,asAddr,run_loadVar_row w e t ty d g f k o j l]
def yH (w:World) (t:List UInt8) (rate most:Nat) (a:Ending) (w':World):Prop:=
 ∃gl,a=.returned (.tuple #[.pointer (some ⟨gl,0,none⟩),.agg (rB most rate t.length),.int .i64 0])/\(∃own,LiveE w' w.heap.size own gl t rate)/\VB w.heap.size w w'
def aJx {w:World} {b:Nat} {t d:TypeId} {e f:Array Value} (c:Bk w b t e) (a:Bk w b d f):t=d:=by
 unfold Bk at c a;rw [c] at a;injection a with a;injection a with _ ht
def aH7 {w w':World} {c:Array Value} {e gl rate most d:Nat} {t:List UInt8} (m:c.getD 3 undef=.pointer (some e)) (j:c.getD 2 undef=.pointer (some ⟨gl,0,none⟩)) (k:c.getD 4 undef=.int .i64 0) (l:Bk w' e 30 (rB most rate d))
 (n:∃own,LiveE w' w.heap.size own gl t rate) (o:VB w.heap.size w w'):
 bodyPost prog f11 (fun i w'=>∃gl,i=.returned (.tuple #[.pointer (some ⟨gl,0,none⟩),.agg (rB most rate d),.int .i64 0])/\(∃own,LiveE w' w.heap.size own gl t rate)/\VB w.heap.size w w') .ret ⟨c, []⟩ w':=by
 have g:=tL (P:=prog) (fn:=f11) (a:=2) (p:=3) (b:=4) (ty:=30) rfl c w' e 30 (rB most rate d) (0,0) _ m l underlying30 rfl kR;rw [j,k] at g;exact bodyPost_ret g rfl ⟨gl,rfl,n,o⟩
def aBv (e:Option Addr) (a s most rate:Nat) (t:List UInt8) (f:List Nat) (w:World) (H:IsSuf (aG t) f) (ci:t.length<=127) (cm:1<=rate) (cn:rate<=64) (d5:t.length<=most) (d6:most<=2147483648)
 (G:Rd w s 1 e (eI (aE (aG t) f) f most rate t.length).length ((eI (aE (aG t) f) f most rate t.length).map bv)) (K:s<=w.heap.size) (aY:(eI (aE (aG t) f) f most rate t.length).length<=a) (O:a<=maxLen):
 Calls prog 11 #[.slice e (eI (aE (aG t) f) f most rate t.length).length a] w (yH w t rate most):=by
 obtain ⟨j,M⟩:=eqx (aE (aG t) f);rw [M] at G aY⊢;have bb:=dR (rs:=f) (eU t);have ba:j.length=t.length+1:=by rw [<-M,bZ,H.len,aM]
 rw [M] at bb;obtain ⟨b,aT⟩:=eqx t.length;unfold yH;rw [aT] at G aY ba d5 ci⊢;obtain ⟨l,ab⟩:=eqx (oR j f most rate b);obtain ⟨cw,cx,cy,cz,d,o,F⟩:=SnAt.of j f most rate b;rw [ab] at o F;have Q:eI j f most rate b=l++rG (nE l):=by unfold eI;rw [ab]
 have bp:(eI j f most rate b).length=d+4:=by rw [Q,zAi,F,rF]
 rw [bp] at G aY⊢;have dJ:4<=d:=by have:=o.h1;have:=o.h2;have:=o.h3;have:=o.h4;have:=o.h5;omega
 have dC:¬(d+4 < 8):=oM;have dK:d<=10000:=by have a4:=o.h1;have aP:=o.h2;have a5:=o.h3;have cY:=o.h4;have cZ:=o.h5;have cU:=dL most;have dt:=dL rate;have du:=dL b;have dv:=dL (gE j).length;have dw:=dL (vO f rate b).length;have dx:=pP j;have cV:=qJ f rate (b / rate+1);have dy:b / rate<=b:=Nat.div_le_self _ _;rw [<-uT] at cV;rw [jF] at cY cZ;omega
 have bm:=(G.cut_hi0 (k:=d) (cap:=a) oM);have c5:=aFA l;have cv:((eI j f most rate b).map bv).take (d*1)=l.map bv:=by rw [<-List.map_take,Q,zBl,List.take_left' F]
 rw [cv] at bm;have ah:=aJf l [] (nE l) c5;rw [List.append_nil,<-Q,F] at ah;have aZ:∀(e V:Option Addr) (S a aN:Nat) (w:World),Rd w w.heap.size 1 e S (l.map bv)->S<=1099511627776->Rd w w.heap.size 1 V 1 [.slice e S a]->Calls prog 44 #[.slice V 1 aN] w fun i w'=>i=.returned (.int .u32 ((nE l:Nat):Int))/\Below w.heap.size w w':=fun e V S a aN w a4 aP a5=>tF e V S a aN l w a4 aP a5;obtain ⟨dn,cq⟩:=eqx (nE l);rw [cq] at ah aZ;have bA:=lhd aZ;clear aZ;obtain ⟨bO,bW,C,cL,a1,Y,u,bX,dr⟩:=hqq9 G bm o bb ba M aT H Q;obtain ⟨dp,cN,cM,cO⟩:=hqq4 ab F ah bp;clear G bm o bb ba M aT H Q ab F cv ah bp c5 cq;have dQ:=vQ (P:=prog) 26 5 1 underlying26 (fun w=>by kernel_rfl) e (d+4) a d oM;have cU:IntKind.i64.wrap (((d+4:Nat):Int) - 4)=(d:Int):=by rw [IntKind.wrap_i64];omega
 go_enter func11,ntmps11;go_wp2_with fail;obtain ⟨c,ad⟩:=eqx w.heap.size;have b4:Bk (w.alloc (.cells #[.int .i64 0,.int .i64 0,.int .i64 0] 30)) c 30 #[.int .i64 0,.int .i64 0,.int .i64 0]:=ad ▸ Bk.new _ _ _;have ac:Below w.heap.size w (w.alloc (.cells #[.int .i64 0,.int .i64 0,.int .i64 0] 30)):=bR.alloc nL _;have bo:(w.alloc (.cells #[.int .i64 0,.int .i64 0,.int .i64 0] 30)).heap.size=c+1:=by simp [ad]
 rw [ad] at ac K⊢;generalize w.alloc (.cells #[.int .i64 0,.int .i64 0,.int .i64 0] 30)=W0 at b4 ac bo⊢;obtain ⟨aH,Z⟩:=hqq2 b4 ac;clear b4 ac;refine (aKC e (d+4) a (eI j f most rate b) (d:Int) s W0 dn 0 cM.out (bO.out.below (Z.out.mono K)) (by unfold maxLen;omega)).mono ?_;rintro i w1 ⟨rfl,rfl⟩;go_wp2_with fail;have c2:=bW.out.below (Z.out.mono K);refine (bA.out (fT e a 0 1) _ d a _ _ (((c2.mono (by omega:s<=W0.heap.size)).alloc nL _).mono (by simp)) oM (Rd.made' _ _ 1 1 _ _ rfl bo.symm)).mono ?_;rintro i ao ⟨rfl,c3⟩;have a7:=((Below.refl W0.heap.size W0).alloc nL (.cells #[.slice (fT e a 0 1) d a] 26)).trans (c3.mono (by simp));have db:=a7.size;obtain ⟨bx,bC⟩:=hqq2 (Z.out.trans (a7.mono oM)) (aH.out.below a7 aH.out.lt);clear c3 a7 Z aH c2;go_wp2_with fail;have co:∀x,Below c w x->Rd x s 1 (fT e a 0 1) d (l.map bv):=fun x cX=>bW.out.below (cX.mono K);have y:=lhd co;obtain ⟨m,b3⟩:=eqx ao.heap.size;have ai:Bk (ao.alloc (.cells #[.slice (fT e a 0 1) d a,.int .i64 4,.bool false] 82)) m 82 (aHE (fT e a 0 1) d a 4):=b3 ▸ Bk.new _ _ _;have aW:=bx.out.alloc oM (.cells #[.slice (fT e a 0 1) d a,.int .i64 4,.bool false] 82);have b5:=bC.out.alloc (.cells #[.slice (fT e a 0 1) d a,.int .i64 4,.bool false] 82);have bq:m < (ao.alloc (.cells #[.slice (fT e a 0 1) d a,.int .i64 4,.bool false] 82)).heap.size:=ai.lt;have dI:c < m:=oM;rw [b3];generalize ao.alloc (.cells #[.slice (fT e a 0 1) d a,.int .i64 4,.bool false] 82)=W2 at ai aW b5 bq⊢;obtain ⟨bP,aA,bD⟩:=hqq3 ai aW b5;have cc:∀(x bs:World),Below c w x->m < x.heap.size->Keep (fun n=>n=m) x bs->Below c w bs:=fun x bs a4 aP a5=>a4.trans (a5.to_below oM (fun n a6 i=>by omega));have D:=lhd cc;clear co b3 ai aW b5 cc bx bC bA db bo;have E:d<=a:=oM;refine (mG m (fT e a 0 1) d a s 4 cw most 2147483648 l W2 bP.out (y.out _ aA.out) E O (C.out.n1 oM) oM oM).mono ?_;rintro i cC ⟨rfl,bh,b7⟩;obtain ⟨bQ,aB,bE⟩:=hqq3 bh (D.out _ _ aA.out bq b7) (b7.bk bD.out oM);have cr:m < cC.heap.size:=bh.lt;clear bh b7 bP aA bD bq;go_wp2_with fail;refine (mG m (fT e a 0 1) d a s cw cx rate 64 l cC bQ.out (y.out _ aB.out) E O (C.out.n2 oM) oM oM).mono ?_;rintro i cD ⟨rfl,bi,b8⟩;obtain ⟨bS,aC,bF⟩:=hqq3 bi (D.out _ _ aB.out cr b8) (b8.bk bE.out oM);have cs:m < cD.heap.size:=bi.lt;clear bi b8 bQ aB bE cr;go_wp2_with fail;refine (mG m (fT e a 0 1) d a s cx cy b 2147483648 l cD bS.out (y.out _ aC.out) E O (C.out.n3 oM) oM oM).mono ?_;rintro i ap ⟨rfl,bj,b9⟩;obtain ⟨bT,bz,bG⟩:=hqq3 bj (D.out _ _ aC.out cs b9) (b9.bk bF.out oM);have de:m < ap.heap.size:=bj.lt;clear bj b9 bS aC bF cs;go_wp2_with fail;obtain ⟨gH,b1⟩:=eqx ap.heap.size;have aQ:Bk (ap.alloc (.cells #[(most:Int),(rate:Int),(b:Int)] 30)) gH 30 (rB most rate b):=b1 ▸ Bk.new _ _ _;have aX:=bz.out.alloc oM (.cells #[(most:Int),(rate:Int),(b:Int)] 30);have b6:=bG.out.alloc (.cells #[(most:Int),(rate:Int),(b:Int)] 30);have A:=bT.out.alloc (.cells #[(most:Int),(rate:Int),(b:Int)] 30);have dF:m < gH:=oM;rw [b1];generalize ap.alloc (.cells #[(most:Int),(rate:Int),(b:Int)] 30)=W5 at aQ aX b6 A⊢;have ct:m < W5.heap.size:=A.lt;obtain ⟨bt,aD,bH,bV⟩:=hqq4 aQ aX b6 A;clear b1 aQ aX b6 A bz bG bT de;obtain ⟨am,ca⟩:=eqx ((gE j).length);obtain ⟨dg,cb⟩:=eqx ((vO f rate b).length);have d2:=pP j;have d4:=qJ f rate (b / rate+1);have d3:=aI4 f rate (b / rate+1);have dD:b / rate<=b:=Nat.div_le_self _ _;rw [<-uT,cb] at d4 d3;rw [ca,a1.out] at d2;obtain ⟨T,be,ck,bf,d7⟩:=C.out.f1 oM;obtain ⟨dj,bg,d8,cl,d9⟩:=C.out.f2 oM;rw [ca] at be ck bf;rw [cb] at bg d8 cl;rw [cN.out] at d7 d9;refine (rT m (fT e a 0 1) d a s cy T am cz l W5 bV.out (y.out _ aD.out) E O oM be ck oM).mono ?_;rintro i cE ⟨rfl,bl,af⟩;obtain ⟨bU,aF,bI,bw⟩:=hqq4 bl (D.out _ _ aD.out ct af) (af.bk bH.out oM) (af.bk bt.out oM);have cu:m < cE.heap.size:=bl.lt;clear bl af bV aD bH bt ct;go_wp2_with fail;refine (rT m (fT e a 0 1) d a s cz dj dg d l cE bU.out (y.out _ aF.out) E O oM bg oM oM).mono ?_;rintro i I ⟨rfl,A,ag⟩;have cS:I.cell? ⟨m,2,none⟩=some (.bool false):=A.cell 2;obtain ⟨J,aK⟩:=hqq2 (D.out _ _ aF.out cu ag) (ag.bk bI.out oM);have L:=ag.bk bw.out oM;have X:=lhd L;have a2:I.cell? gH=some (.int .i64 (most:Int)):=L.cell 0;have a3:I.cell? ⟨gH,1,none⟩=some (.int .i64 (rate:Int)):=L.cell 1;have bY:I.cell? ⟨gH,2,none⟩=some (.int .i64 (b:Int)):=L.cell 2;clear A ag bU aF bI bw cu L;have cA:¬((rate:Int) < 1):=oM;have dk:decide ((rate:Int) < 1)=false:=zBy cA;have cB:¬((b:Int) > (most:Int)):=oM;have dl:decide ((b:Int) > (most:Int))=false:=zBy cB;have dm:decide (most < b)=false:=zBy oM;go_wp2_with fail;have bn:=((y.out _ J.out).cut (k:=T) (cap:=a) oM E).cut_hi (k:=am) oM;have c7:((l.map bv).drop (T*1)).take (am*1)=(gE j).map bv:=by rw [zBl,zBl,<-List.map_drop,<-List.map_take,bf]
 rw [c7] at bn;have b2:=aA9 (jA j) (aB3 cL.out) (by rw [nO,a1.out];omega) ((b:Int)+1) (by rw [nO,a1.out];omega) [];rw [List.append_nil,zBx rfl] at b2;refine (aGN (fT (fT e a 0 1) a T 1) am (a - T) s (gE j) ((b:Int)+1) I (jA j) (b+1) 0 b2 (by rw [nO,a1.out]) bn (by have:=J.out.size;omega) oM oM oM oM).mono ?_;rintro i cF ⟨cH,cR,rfl,cg,a8⟩;have bc:=cg.rd;rw [<-aJK] at bc;have aV:=yB cH cR cF.heap.size t f cF bX.out (by rw [Y.out,u.out];exact bc) nL (by rw [u.out];omega);rw [u.out] at aV;have d0:gH < I.heap.size:=X.out.lt;have aw:=lhd (J.out.trans (a8.mono (by have:=J.out.size;omega)));obtain ⟨aI,ar⟩:=hqq2 (aK.out.below a8 aK.out.lt) (X.out.below a8 X.out.lt);clear cg a8 bc b2 c7 bn a2 a3 bY cS cA dk cB dl dm be bg bf cl X aK J y D C d0;go_wp2_with fail;refine aV.mono ?_;clear aV;rintro i r ⟨aq,aL,rfl,ch,a9⟩;have aR:=ar.out.below a9 ar.out.lt;have ax:=lhd (aw.out.trans (a9.mono (by have:=aw.out.size;omega)));obtain ⟨a0,W,bN⟩:=hqq3 (aI.out.below a9 aI.out.lt) aR ch.rd;have a3:r.cell? ⟨gH,1,none⟩=some (.int .i64 (rate:Int)):=aR.cell 1;clear a9 ch aR aw aI ar;go_wp2_with fail
 have cj:=rY rate (some ⟨r.heap.size,0,none⟩) 1 1 (r.heap.size+1) [(⟨aq,b,aL,t⟩:Sl)] t b (by simp [gX]) u.out (r.alloc (.cells #[.slice aq b aL] 26)) ((Rd.made r _ 1 1 _ rfl).mono (by simp)) (by
  intro dT H;simp at H;subst H;exact (bN.out.alloc nL _).mono oM) (by simp) oM ci cm cn
 refine cj.mono ?_;clear cj;rintro i an ⟨gl,dh,rfl,d1,z,aU⟩;have bM:=lhd z;obtain ⟨gk,cW,dS,ds,br,di,R,_,_⟩:=z;have aj:=R.suf;have cp:=R.right;have da:=aj.unique bX.out;subst da;have z:=R.live.g R.tal;rw [Y.out,u.out] at z;have aa:=((Below.refl r.heap.size r).alloc nL (.cells #[.slice aq b aL] 26)).trans (aU.mono (by simp));have aS:=W.out.below aa W.out.lt;have ay:=lhd (ax.out.trans (aa.mono (by have:=ax.out.size;omega)));obtain ⟨bB,bu⟩:=hqq2 (a0.out.below aa a0.out.lt) aS;have a2:an.cell? gH=some (.int .i64 (most:Int)):=aS.cell 0;have dH:gH < r.heap.size:=W.out.lt;have dG:c < r.heap.size:=a0.out.lt;have bJ:=bM;have dq:=lhd aj;rw [World.size_alloc] at z;have dc:r.heap.size+1<=an.heap.size:=by have:=aU.size;simpa using this
 have ak:=rR (r.heap.size+1) gl gk cW rate most t br di an (by rw [Y.out,u.out];exact z) cp aj (by rw [u.out];omega) cm cn (by rw [u.out];omega) d6;unfold fB at ak;rw [Y.out,u.out,cO.out] at ak;have dE:=ay.out.size;clear z aj R cp bM aU aa aS a3 ax a0 W bN d1;go_wp2_with fail;refine ak.mono ?_;clear ak;rintro i U ⟨cG,cQ,rfl,cf,al⟩;have ae:Below (r.heap.size+1) an U:=al.2.to_below dc (fun n a6 i=>by omega);have dM:=al.1.size;have c0:Bk U gH 30 (rB most rate b):=bu.out.below ae oM;have c8:Bk U c 30 #[.int .i64 0,.int .i64 0,.int .i64 0]:=bB.out.below ae oM;have az:=lhd (ay.out.trans (ae.mono oM));have b0:=yL cG e (d+4) (d+4) cQ a U.heap.size (eI j br most rate b) (eI j br most rate b) U cf.rd ((bO.out.below (az.out.mono K)).mono oM);rw [beq_self_eq_true] at b0;obtain ⟨au,aJ,bK⟩:=hqq3 c0 c8 (bJ.out.vis al.1);clear cf al ae c0 c8 ay bB bu a2 bJ;go_wp2_with fail;refine b0.mono ?_;clear b0;rintro i q ⟨rfl,N⟩;have c1:=au.out.below N au.out.lt;have c9:=aJ.out.below N aJ.out.lt;obtain ⟨cJ,bL,av,v⟩:=hqq4 (az.out.trans (N.mono oM)) (bK.out.vis (Vis.of_below N)) c1 c9;clear N c1 c9 az au aJ bK;go_wp2_with fail;have a2:q.cell? gH=some (.int .i64 (most:Int)):=av.out.cell 0;have a3:q.cell? ⟨gH,1,none⟩=some (.int .i64 (rate:Int)):=av.out.cell 1;have bY:q.cell? ⟨gH,2,none⟩=some (.int .i64 (b:Int)):=av.out.cell 2;have dN:q.cell? c=some (.int .i64 0):=v.out.cell 0;have dO:q.cell? ⟨c,1,none⟩=some (.int .i64 0):=v.out.cell 1;have dP:q.cell? ⟨c,2,none⟩=some (.int .i64 0):=v.out.cell 2;have dz:=v.out.frozen 0;have dA:=v.out.frozen 1;have dB:=v.out.frozen 2;have c6:Bk ((((q.setCell c (.int .i64 (most:Int))).setCell ⟨c,1,none⟩ (.int .i64 (rate:Int))).setCell ⟨c,2,none⟩ (.int .i64 (b:Int))).drew) c 30 (rB most rate b):=by have:=(((v.out.set 0 (.int .i64 (most:Int))).set 1 (.int .i64 (rate:Int))).set 2 (.int .i64 (b:Int))).drew;simpa [rB] using this
 have c4:Below c w ((((q.setCell c (.int .i64 (most:Int))).setCell ⟨c,1,none⟩ (.int .i64 (rate:Int))).setCell ⟨c,2,none⟩ (.int .i64 (b:Int))).drew):=
  (((cJ.out.setCell (p:=c) nL _).setCell (p:=⟨c,1,none⟩) nL _).setCell (p:=⟨c,2,none⟩) nL _).drew
 have dd:∀n t aO,t≠30->Bk q n t aO->Bk ((((q.setCell c (.int .i64 (most:Int))).setCell ⟨c,1,none⟩ (.int .i64 (rate:Int))).setCell ⟨c,2,none⟩ (.int .i64 (b:Int))).drew) n t aO:=fun n t aO df a6=>by
  have bd:n≠c:=fun i=>by subst i;exact df (aJx a6 v.out)
  exact (((a6.far (p:=c) bd _).far (p:=⟨c,1,none⟩) bd _).far (p:=⟨c,2,none⟩) bd _).drew
 have cd:Keep (fun n=>n=c) q ((((q.setCell c (.int .i64 (most:Int))).setCell ⟨c,1,none⟩ (.int .i64 (rate:Int))).setCell ⟨c,2,none⟩ (.int .i64 (b:Int))).drew):=
  (((((Keep.refl (fun n=>n=c) q).setCell (p:=c) (.inl rfl) _).setCell (p:=⟨c,1,none⟩) (.inl rfl) _).setCell (p:=⟨c,2,none⟩) (.inl rfl) _)).drew
 have ce:=(bL.out.far0 cd fun n i=>by
  have cT:n=c:=i;subst cT;by_cases a:dh n=0;exact a
  · have:=(bL.out.bnd n a).1;rw [World.size_alloc] at this;omega).low (B':=c) (by rw [World.size_alloc];omega)
 obtain ⟨cK,cI,cP⟩:=hqq3 c6 c4 ce;clear c6 c4 dd ce cd
 go_region
 go_wp2_with fail;subst ad;refine aH7 rfl rfl rfl cK.out ⟨_,cP.out⟩ (VisK.of_below cI.out)
end
section
open Go.RowKit
open Classical in
def VisF.split {d:Nat->Prop} {w w':World} (f:VisF d w w'):∃w1,Keep d w w1/\Vis w1 w':=by
 let c:Array Obj:=Array.ofFn (n:=w'.heap.size) fun k=>if g:k.val < w.heap.size/\¬d k.val then w.heap[k.val]'g.1 else w'.heap[k.val]
 have x:c.size=w'.heap.size:=Array.size_ofFn;have q:∀a,a < w'.heap.size->c[a]?=if a < w.heap.size/\¬d a then w.heap[a]? else w'.heap[a]?:=fun a g=>by
  rw [zAq oM,Array.getElem_ofFn];by_cases b:a < w.heap.size/\¬d a
  · rw [zBx b,dif_pos b,zAq b.1]
  · rw [zBw b,dif_neg b,zAq g]
 refine ⟨{ w' with heap:=c },⟨f.os,f.tape,f.output,?_,fun j r v=>?_⟩,⟨rfl,rfl,rfl,?_,fun a g _=>?_⟩⟩;show w.heap.size<=c.size;rw [x];exact f.size
 · show c[j]?=w.heap[j]?;rw [q j (zAl r f.size),zBx ⟨r,v⟩]
 show c.size<=w'.heap.size;omega;have u:a < w'.heap.size:=(by have:a < c.size:=g;omega);have i:({ w' with heap:=c }:World).heap[a]?=if a < w.heap.size/\¬d a then w.heap[a]? else w'.heap[a]?:=q a u;by_cases b:a < w.heap.size/\¬d a;rw [zBx b] at i;have p:∀t e,Bk w a t e->Bk { w' with heap:=c } a t e:=fun t e j=>i.trans j;rcases f.block a b.1 b.2 with s |⟨e,o,l,m⟩|⟨e,o,l,m⟩;exact .inl (by rw [i];exact s);exact .inr (.inl ⟨e,o,p _ _ l,m⟩);exact .inr (.inr ⟨e,o,p _ _ l,m⟩);rw [zBw b] at i;exact .inl i.symm
def LiveE.visF {w w':World} {B:Nat} {own:Nat->Nat} {gl:Nat} {t:List UInt8} {rate:Nat} {a:Nat->Prop} (c:LiveE w B own gl t rate) (g:VisF a w w') (f:∀b,a b->own b=0):LiveE w' B own gl t rate:=by
 obtain ⟨w1,d,e⟩:=g.split;exact (c.far0 d f).vis e
end
section
open Go.RowKit
structure StAt (w:World) (B:Nat) (own:Nat->Nat) (gs gl most rate:Nat) (t:List UInt8):Prop where
 blk:Bk w gs 115 #[gl,(most:Int)]
 low:B<=gs
 col:own gs=0
 live:LiveE w B own gl t rate
 n127:t.length<=127
 len:t.length<=most
 max:most<=2147483648
 r1:1<=rate
 r2:rate<=64
section
variable {w w' : World} {B gs gl most rate : Nat} {own own' : Nat -> Nat} {t : List UInt8}
def StAt.tp (a:StAt w B own gs gl most rate t):TpAt w B gl t rate:=a.live.tp a.n127
def StAt.vb (a:StAt w B own gs gl most rate t) (b:Vis w w'):StAt w' B own gs gl most rate t:=
 ⟨b.bk a.blk dC dC,a.low,a.col,a.live.vis b,a.n127,a.len,a.max,a.r1,a.r2⟩
def StAt.size (a:StAt w B own gs gl most rate t):B<=w.heap.size:=by have:=a.low;have:=a.blk.lt;omega
def StAt.fresh (b:StAt w B own gs gl most rate t) {a:Nat} (d:w.heap.size<=a):own a=0:=Nat.eq_zero_of_not_pos fun c=>by have:=(b.live.bnd a oM).2;omega
def StAt.llen {a:Nat} (c:StAt w B own gs gl most rate t) (d:t.length=a):Calls prog 37 #[gl] w fun b w'=>b=.returned (.int .i64 (a:Int))/\w=w':=by
 obtain ⟨m,gk,g,l,f,e,j,k,i⟩:=c.tp;exact cF B gl _ a w e.lvw (by rw [bZ,f.len,aM,d]) oM
end
structure LFS (B gs:Nat) (w w':World) (own own':Nat->Nat):Prop where
 old:∀b,b < w.heap.size->own' b≠0->own b≠0
 vis:VisF (fun b=>own b≠0∨b=gs) w w'
 keep:Keep (fun b=>B<=b) w w'
section
variable {B gs : Nat} {w w1 w' : World} {own own1 own' : Nat -> Nat}
def LFS.refl (B gs:Nat) (w:World) (own:Nat->Nat):LFS B gs w w own own:=⟨fun _ _ a=>a,VisF.of_vis (Vis.refl w),Keep.refl _ _⟩
def LFS.size (a:LFS B gs w w' own own'):w.heap.size<=w'.heap.size:=a.keep.size
def LFS.trans (b:LFS B gs w w1 own own1) (e:LFS B gs w1 w' own1 own'):LFS B gs w w' own own':=by
 have f:=b.keep.size;refine ⟨fun c d a=>b.old c d (e.old c oM a),b.vis.trans' e.vis fun c d a=>?_,b.keep.trans e.keep⟩;rcases a with a | a;exact .inl (b.old c d a);exact .inr a
def LFS.of_lf (gs:Nat) (b:LF B w w' own own'):LFS B gs w w' own own':=⟨fun c d a=>by rw [<-b.old c d];exact a,b.vis.mono fun c _ a=>.inl a,b.keep⟩
def LFS.of_vb (gs:Nat) (own:Nat->Nat) (a:VB B w w'):LFS B gs w w' own own:=⟨fun _ _ b=>b,VisF.of_vis a.1,a.2⟩
def LFS.of_below (B gs:Nat) (own:Nat->Nat) (a:Below w.heap.size w w'):LFS B gs w w' own own:=LFS.of_vb gs own (VisK.of_below a)
def LFS.below (d:LFS B gs w w' own own') (c:B<=w.heap.size):Below B w w':=d.keep.to_below c fun a f b=>by have e:B<=a:=b;omega
def LFS.zero (e:LFS B gs w w' own own') {a:Nat} (d:a < w.heap.size) (c:own a=0):own' a=0:=by
 by_cases b:own' a=0;exact b;exact absurd c (e.old a d b)
def LFS.bk (j:LFS B gs w w' own own') {a:Nat} {t:TypeId} {c:Array Value} (d:Bk w a t c) (e:own a=0) (i:a≠gs) (f:t≠202) (g:t≠154):Bk w' a t c:=
 j.vis.bk d f g fun b=>b.elim (fun b=>b e) i
structure Ap (own:Nat->Nat) (gs b:Nat):Prop where
 col:own b=0
 ne:b≠gs
def Ap.step {a:Nat} (b:Ap own gs a) (d:LFS B gs w w' own own') (c:a < w.heap.size):Ap own' gs a:=⟨d.zero c b.col,b.ne⟩
def MadeZ (w:World) (own:Nat->Nat) (gs:Nat) (d:TypeId) (b:Option Addr) (e c:Nat) (f:List Value):Prop:=Made w 0 d 1 b e c f/\∀a,b=some a->a.block < w.heap.size/\Ap own gs a.block
def MadeZ.step {a:TypeId} {c:Option Addr} {e f:Nat} {i:List Value} (b:MadeZ w own gs a c e f i) (g:LFS B gs w w' own own') (n:a≠202) (o:a≠154):MadeZ w' own' gs a c e f i:=by
 have j:w'.ownsRow 0 a 1 (.slice c e f) e i:=aA b.1.own fun l r k q=>by
  rcases c with _ | d
  · cases k
  have m:d.block=l:=(by simpa [Value.ownBlock] using k);have:=(b.2 d rfl).2;rw [m] at this;exact g.bk q this.col this.ne n o
 refine ⟨⟨j,Rd.of_own j,b.1.cap,b.1.max⟩,fun d p=>?_⟩;have:=b.2 d p;exact ⟨zAl this.1 g.size,this.2.step g this.1⟩
def ArgZ (w:World) (B:Nat) (own:Nat->Nat) (gs:Nat) (b:Option Addr) (c:Nat) (d:List UInt8):Prop:=
 Rd w w.heap.size 1 b c (d.map bv)/\(0 < c->∀a,b=some a->a.block < B∨(Ap own gs a.block/\∃e f,w.heap[a.block]?=some (.cells e 5 f)))
def VisF.same {d:Nat->Prop} {b:Nat} {e:Array Value} {t:TypeId} {j:Nat×Nat} (n:VisF d w w') (c:w.heap[b]?=some (.cells e t j)) (m:¬d b) (k:t≠202) (l:t≠154):w'.heap[b]?=w.heap[b]?:=by
 rcases n.block b (lt_of_block c) m with g |⟨f,o,a,i⟩|⟨f,o,a,i⟩;exact g;exfalso;unfold Bk at a;rw [c] at a;injection a with a;injection a with _ a;exact k a;exfalso;unfold Bk at a;rw [c] at a;injection a with a;injection a with _ a;exact l a
def ArgZ.step {l:Option Addr} {k:Nat} {f:List UInt8} (c:ArgZ w B own gs l k f) (e:LFS B gs w w' own own'):ArgZ w' B own' gs l k f:=by
 have z:=e.size;rcases zBa k with d | d;subst d;have:f= []:=(by simpa using c.1.1);subst this;exact ⟨Rd.nil _ _ _ _,fun r=>absurd r oM⟩;obtain ⟨b,v,rfl,o,q⟩:=c.1.2 d;have p:w'.heap[b]?=w.heap[b]?:=(by rcases c.2 d _ rfl with a |⟨a,m,n,g⟩;exact e.keep.block b o (by have A:b < B:=a;omega);exact e.vis.same g (fun i=>i.elim (fun i=>i a.col) a.ne) dC dC);refine ⟨⟨c.1.1,fun _=>⟨b,v,rfl,by omega,fun u x s=>by rw [<-q u x s];exact World.cell?_of_block p⟩⟩,fun _ y j=>?_⟩;injection j with j;subst j;rcases c.2 d _ rfl with a |⟨a,m,n,g⟩;exact .inl a;exact .inr ⟨a.step e o,m,n,p.trans g⟩
def ArgZ.old {c:Nat} {b:Option Addr} {f:Nat} {d:List UInt8} (e:Rd w c 1 b f (d.map bv)) (m:c<=B) (l:B<=w.heap.size):ArgZ w B own gs b f d:=
 ⟨e.mono oM,fun j k a=>by
  obtain ⟨g,o,i,n,_⟩:=e.2 j;rw [i] at a;injection a with a;subst a;exact .inl (by show g < B;omega)⟩
def ArgZ.made {d:Option Addr} {f i:Nat} {e:List UInt8} (c:MadeZ w own gs 5 d f i (e.map bv)):ArgZ w B own gs d f e:=
 ⟨c.1.rd,fun p g a=>by
   have l:=(c.2 g a).2
   obtain ⟨o,n,j,b,_,k,_⟩:=c.1.own.2.resolve_left (fun m=>by
     have:=m.1;injection this with q1;rw [q1] at a;cases a)
   injection b with b;rw [b] at a;injection a with a;subst a;exact .inr ⟨l,j,_,k⟩⟩
def ArgZ.vis {a:Option Addr} {c:Nat} {b:List UInt8} (d:ArgZ w B own gs a c b) (e:Below w.heap.size w w'):ArgZ w' B own gs a c b:=d.step (LFS.of_below B gs own e)
def StAt.far {gl most rate:Nat} {t:List UInt8} {H:Nat->Prop} (a:StAt w B own gs gl most rate t) (e:Keep H w w') (d:∀b,H b->Ap own gs b):StAt w' B own gs gl most rate t:=
 ⟨e.bk a.blk fun c=>(d _ c).ne rfl,a.low,a.col,a.live.far0 e fun b c=>(d b c).col,a.n127,a.len,a.max,a.r1,a.r2⟩
def Two (own1:Nat->Nat) (b:Nat) (d:Nat->Nat) (c:Nat):Prop:=∀a,own1 a≠0∨a=b->Ap d c a
end
def StAt.other {w w':World} {B p i d k l n:Nat} {own1 m f:Nat->Nat} {o:List UInt8} (a:StAt w B f d k l n o) (j:LFS p i w w' own1 m) (e:Two own1 i f d):StAt w' B f d k l n o/\Two m i f d:=by
 refine ⟨⟨j.vis.bk a.blk dC dC fun g=>(e _ g).ne rfl,a.low,a.col,a.live.visF j.vis fun b g=>(e b g).col,a.n127,a.len,a.max,a.r1,a.r2⟩,fun b c=>?_⟩;rcases c with c | c;by_cases q:b < w.heap.size;exact e b (.inl (j.old b q c));exact ⟨a.fresh oM,by have:=a.blk.lt;omega⟩;exact e b (.inr c)
def Two.step2 {w w':World} {B i c d j n o:Nat} {own1 f g:Nat->Nat} {p:List UInt8} (l:Two own1 c f d) (e:StAt w B own1 c j n o p) (m:LFS i d w w' f g):Two own1 c g d:=fun b a=>by
 have k:b < w.heap.size:=by rcases a with a | a;exact (e.live.bnd b a).2;rw [a];exact e.blk.lt
 exact (l b a).step m k
def Two.symm {own1 e:Nat->Nat} {c d:Nat} (g:Two own1 c e d) (j:own1 c=0) (k:e d=0):Two e d own1 c:=fun b a=>by
 refine ⟨?_,fun i=>?_⟩;by_cases f:own1 b=0;exact f;have:=g b (.inl f);rcases a with a | a;exact absurd this.col a;exact absurd a this.ne;have:=g b (.inr i);rcases a with a | a;exact a this.col;exact this.ne a
def lE (B:Nat) (own:Nat->Nat) (gs gl most rate b:Nat) (t:List UInt8) (a c:Int) (w:World) (e:StAt w B own gs gl most rate t) (o:t.length=b):
 Calls prog 130 #[gs,.int .i64 a,.int .i64 c] w fun d w'=>d=.returned (.bool (iE b a c))/\w=w':=by
 have m:=e.llen o;have r:b<=127:=by have:=e.n127;omega
 have p:=e.blk.cell 0;have g:=lhd m;clear m e;unfold iE;by_cases f:0<=a
 · by_cases j:0<=c
   · by_cases l:a<=(b:Int)
     · have q:IntKind.i64.wrap ((b:Int) - a)=(b:Int) - a:=(by rw [IntKind.wrap_i64];omega);have i:decide (0<=a)=true:=zBz f;have k:decide (0<=c)=true:=zBz j;have n:decide (a<=(b:Int))=true:=zBz l;go_enter func130,ntmps130;go_wp2_with fail;refine g.out.mono ?_;rintro d w1 ⟨rfl,rfl⟩;go_wp2_with fail;refine g.out.mono ?_;rintro d w1 ⟨rfl,rfl⟩;go_wp2_with fail;go_ret;refine ⟨?_,rfl⟩
       first | rfl |(show Ending.returned (Value.bool (decide (c<=(b:Int) - a)))=_;congr 2;exact decide_eq_decide.2 oM)
     · have i:decide (0<=a)=true:=zBz f;have k:decide (0<=c)=true:=zBz j;have n:decide (a<=(b:Int))=false:=zBy l;go_enter func130,ntmps130;go_wp2_with fail;refine g.out.mono ?_;rintro d w1 ⟨rfl,rfl⟩;go_wp2_with fail;go_ret;refine ⟨?_,rfl⟩;show Ending.returned (Value.bool false)=_;rw [zBy oM]
   · have i:decide (0<=a)=true:=zBz f;have k:decide (0<=c)=false:=zBy j;go_enter func130,ntmps130;go_wp2_with fail;go_ret;exact ⟨rfl,rfl⟩
 · have i:decide (0<=a)=false:=zBy f;go_enter func130,ntmps130;go_wp2_with fail;go_ret;exact ⟨rfl,rfl⟩
def qG (a c:Int) (b:Nat):Int:=if a=1 then 0 else if a=3 then (b:Int) else c
def mE (B:Nat) (own:Nat->Nat) (gs gl most rate m:Nat) (t:List UInt8) (b g f:Int) (j:Option Addr) (e n:Nat) (w:World) (r:StAt w B own gs gl most rate t) (u:t.length=m) (a:iE m g (qG b f e)=false):
 Calls prog 74 #[gs,.agg #[.int .i64 b,.int .i64 g,.int .i64 f,.slice j e n]] w fun i w'=>i=.returned (.int .i64 2)/\Below w.heap.size w w':=by
 have q:Below w.heap.size w (w.alloc (.cells #[.int .i64 b,.int .i64 g,.int .i64 f,.slice j e n] 46)):=bR.alloc nL _;have s:=fun v=>lE B own gs gl most rate m t g v _ (r.vb (Vis.of_below q)) u;have l:=lhd q;have d:=Bk.new w 46 #[.int .i64 b,.int .i64 g,.int .i64 f,.slice j e n];have y:=d.cell 0;have z:=d.cell 1;have A:=d.cell 2;have C:=d.cell 3;have k:=lhd s;clear r q d s;unfold qG at a;by_cases o:b=1
 · subst o;rw [zBx rfl] at a;have c:=lhd a;clear a;go_enter func74,ntmps74;go_wp2_with fail;refine (k.out 0).mono ?_;rintro i w1 ⟨rfl,rfl⟩;rw [c.out];go_wp2_with fail;go_ret;exact ⟨rfl,l.out⟩
 · rw [zBw o] at a;by_cases p:b=3
   · subst p;rw [zBx rfl] at a;have c:=lhd a;clear a;go_enter func74,ntmps74;go_wp2_with fail;refine (k.out (e:Int)).mono ?_;rintro i w1 ⟨rfl,rfl⟩;rw [c.out];go_wp2_with fail;go_ret;exact ⟨rfl,l.out⟩
   · rw [zBw p] at a;have c:=lhd a;have b1:(b==1)=false:=zCb.2 o;have x:(b==3)=false:=zCb.2 p;clear a;go_enter func74,ntmps74;go_wp2_with fail;refine (k.out f).mono ?_;rintro i w1 ⟨rfl,rfl⟩;rw [c.out];go_wp2_with fail;go_ret;exact ⟨rfl,l.out⟩
def aE8 (w:World) (B:Nat) (own:Nat->Nat) (gs gl most rate:Nat) (a:List UInt8) (b:Ending) (w':World):Prop:=
 b=.returned (.int .i64 0)/\∃own',StAt w' B own' gs gl most rate a/\LFS B gs w w' own own'
def StAt.edited {w w':World} {B gs gl most rate:Nat} {own own':Nat->Nat} {t b:List UInt8} (a:StAt w B own gs gl most rate t) (f:LiveE w' B own' gl b rate) (c:LF B w w' own own') (e:b.length<=127) (g:b.length<=most):StAt w' B own' gs gl most rate b/\LFS B gs w w' own own':=
 ⟨⟨c.vis.bk a.blk dC dC (fun d=>d a.col),a.low,(c.old _ a.blk.lt).trans a.col,f,e,g,a.max,a.r1,a.r2⟩,LFS.of_lf gs c⟩
structure EdW (w W:World) (B:Nat) (own:Nat->Nat) (gs gl most rate:Nat) (t:List UInt8) (kind p n:Int) (A:Option Addr) (m c:Nat):Prop where
 low:Below w.heap.size w W
 box:Bk W w.heap.size 46 #[.int .i64 kind,.int .i64 p,.int .i64 n,.slice A m c]
 st:StAt W B own gs gl most rate t
 ap:Ap own gs w.heap.size
def EdW.mk' {w:World} {B:Nat} {own:Nat->Nat} {gs gl most rate:Nat} {t:List UInt8} (d g f:Int) (a:Option Addr) (e b:Nat) (c:StAt w B own gs gl most rate t):
 EdW w (w.alloc (.cells #[.int .i64 d,.int .i64 g,.int .i64 f,.slice a e b] 46)) B own gs gl most rate t d g f a e b:=by
 have i:Below w.heap.size w (w.alloc (.cells #[.int .i64 d,.int .i64 g,.int .i64 f,.slice a e b] 46)):=bR.alloc nL _;exact ⟨i,Bk.new w _ _,c.vb (Vis.of_below i),⟨c.fresh nL,by have:=c.blk.lt;omega⟩⟩
def yZ (B:Nat) (own:Nat->Nat) (gs gl most rate l:Nat) (t k:List UInt8) (g:Nat) (a2:Int) (v:Option Addr) (j E:Nat) (w:World) (y:StAt w B own gs gl most rate t) (R:t.length=l) (Q:ArgZ w B own gs v j k) (aQ:g<=l) (aR:l+j<=most) (bb:l+j<=127):
 Calls prog 74 #[gs,.agg #[.int .i64 1,(g:Int),.int .i64 a2,.slice v j E]] w (aE8 w B own gs gl most rate (uG t g k)):=by
 have af:k.length=j:=by simpa using Q.1.1
 have n:=EdW.mk' 1 (g:Int) a2 v j E y;have ae:=Q.vis n.low;have aj:=LFS.of_below B gs own n.low;have V:=lE B own gs gl most rate l t g 0 _ n.st R;have ai:iE l (g:Int) 0=true:=zBz oM;rw [ai] at V;have F:=n.box.cell 0;have aJ:=n.box.cell 1;have aK:=n.box.cell 2;have P:=n.box.cell 3;have aF:=lhd aR;have aP:=y.max;have ac:IntKind.i64.wrap ((most:Int) -(l:Int))=(most:Int) -(l:Int):=by rw [IntKind.wrap_i64];omega
 have ad:decide ((j:Int) > (most:Int) -(l:Int))=false:=zBy oM;obtain ⟨p,ay,aC,a4,a3,M,D,L,aw⟩:=hqq9 n.st ae aj n.ap V n.box R af ac;have ax:=lhd ad;clear y Q n ae aj V ai R af aP ac ad;go_enter func74,ntmps74;go_wp2_with fail;refine a3.out.mono ?_;rintro a9 w1 ⟨rfl,rfl⟩;clear a3;go_wp2_with fail;generalize w.alloc (.cells #[.int .i64 1,(g:Int),.int .i64 a2,.slice v j E] 46)=w1 at*
 clear F aJ aK P;have a7:=lhd (fun e (a1:VB B w1 e)=>(p.out.vb a1.1).llen D.out);refine wp_region_any kR ?_;refine aV [27,28,29,30,31,32,33,34,35,36,37,38,39,40,41,42,43,44,45,26] (VB B) (Vs [is w.heap.size,is (.int .i64 1),is (.bool true),is (.bool true),is (.pointer (some ⟨w.heap.size,3,none⟩)),is (.slice v j E),is (j:Int),is gs,is gs,is (.pointer (some ⟨gs,1,none⟩)),is (most:Int),is gs,is gs,is gs,is gl,is (l:Int),is (.int .i64 ((most:Int) -(l:Int))),is (.bool false),is (.bool false),is (.bool false)]) _ _ rfl kR vR (fun _ _=>VisK.trans) (cZ tA1) ?_ ?_
 · refine aO ?_;refine pH 3 (.pointer (some w.heap.size)) ?_;refine sC (fun _ e a _ _ _ b _ _ _ d=>?_) ?_
   · have aY:_=_:=b 0 27 kR rfl;replace a:(VB B) w1 e:=bD a;have A:=a.1.bk M.out dC dC;have x:=A.cell 0;go_simp;exact d _ _ vR rfl
   refine pV 1 28 ?_;refine pV 2 29 ?_;refine gH 30 true 3 (.pointer (some w.heap.size)) ?_;refine sG 30 true (fun _ e a _ _ _ b _ _ _ d=>?_) ?_
   · have aZ:_=_:=b 4 31 kR rfl;replace a:(VB B) w1 e:=bD a;have A:=a.1.bk M.out dC dC;have x:=A.cell 3;go_simp;exact d _ _ vR rfl
   refine gV 30 true 5 32 ?_;refine gH 30 true 0 (.pointer (some gs)) ?_;refine gV 30 true 7 34 ?_;refine gV 30 true 8 35 ?_;refine sG 30 true (fun _ e a _ _ _ b _ _ _ d=>?_) ?_
   · have b1:_=_:=b 9 36 kR rfl;replace a:(VB B) w1 e:=bD a;have z:=a.1.bk p.out.blk dC dC;have x:=z.cell 1;go_simp;exact d _ _ vR rfl
   refine gH 30 true 0 (.pointer (some gs)) ?_;refine gV 30 true 11 38 ?_;refine gV 30 true 12 39 ?_;refine sG 30 true (fun _ e a _ _ _ b _ _ _ d=>?_) ?_
   · have b3:_=_:=b 13 40 kR rfl;replace a:(VB B) w1 e:=bD a;have z:=a.1.bk p.out.blk dC dC;have x:=z.cell 0;go_simp;exact d _ _ vR rfl
   refine sG 30 true (fun _ e a _ _ _ b _ _ _ d=>?_) ?_
   · have b4:_=_:=b 14 41 kR rfl;replace a:(VB B) w1 e:=bD a;go_simp;refine (a7.out e a).mono ?_;rintro a9 bf ⟨rfl,rfl⟩;exact d _ _ vR rfl
   refine sG 30 true (fun _ _ _ _ _ _ b _ _ _ d=>?_) ?_
   · have b2:_=_:=b 10 37 kR rfl;have b5:_=_:=b 15 42 kR rfl;go_simp;exact d _ _ vR (by first | rfl | exact congrArg (Value.int .i64) aw.out)
   refine sG 30 true (fun _ _ _ _ _ _ b _ _ _ d=>?_) ?_
   · have b0:_=_:=b 6 33 kR rfl;have b6:_=_:=b 16 43 kR rfl;go_simp;exact d _ _ vR (by first | rfl | exact congrArg Value.bool ax.out)
   refine pW 3 30 17 44 ?_;refine pV 18 45 ?_;exact aD
 · intro s r a b;replace a:(VB B) w1 r:=bD a;have ab:s (.tmp 26)=.bool false:=b 19 26 rfl;simp only [zqq];rw [ab];clear b;have ao:=p.out.vb a.1;have X:=LFS.of_vb gs own a;have G:=a.1.bk M.out dC dC;have F:=G.cell 0;have P:=G.cell 3;obtain ⟨aG,aE,az,aB⟩:=hqq4 ao (aC.out.trans X) (ay.out.step X) G;clear ao X G a a7 ab;go_wp2_with fail;clear F P;go_loopw [6,7,65] (fun _ _ K wr=>∃(c:Nat) (own':Nat->Nat),c<=j/\K=.int .i64 (c:Int)/\StAt wr B own' gs gl most rate (uG t g (k.take c))/\LFS B gs r wr own own') (fun _ _ K _=>j -(intOf K).toNat)
   case atStart=>exact ⟨0,own,by omega,rfl,by rw [List.take_zero,aH3];exact aG.out,LFS.refl _ _ _ _⟩
   case round=>
    obtain ⟨c,own',bd,rfl,q,u⟩:=hrel;have I:g<=t.length:=(by rw [D.out];exact aQ);by_cases an:c < j
    · obtain ⟨o,S⟩:∃o,k[c]?=some o:=⟨_,zAa (by rw [L.out];exact an)⟩;have aN:c < k.length:=(by rw [L.out];exact an);have Z:(k.take c).length=c:=(by rw [zAj];omega);have W:(uG t g (k.take c)).length=l+c:=(by rw [wL t _ I,Z,D.out]);have H:=fun e (a1:VB B wr e)=>aDw e B own' gl (uG t g (k.take c)) rate (g+c) o (q.vb a1.1).live (by rw [W];omega) (by rw [W];omega) q.r1 q.r2;have Y:=aH4 t (k.take c) o I;rw [Z] at Y;have aq:k.take (c+1)=k.take c++ [o]:=(by rw [zAv,S];rfl);unfold aBQ at H;rw [Y,<-aq] at H;obtain ⟨aI,aS,rfl,bc,ah⟩:=((az.out.step u).1).2 oM;have aX:wr.cell? ⟨aI,aS+c,none⟩=some (.int .u8 (o.toNat:Int)):=ah c _ (by rw [zAf,S];rfl);have T:=u.bk aB.out a4.out.col a4.out.ne dC dC;have aA:=lhd T;have F:=T.cell 0;have aa:IntKind.i64.wrap ((g:Int)+(c:Int))=((g+c:Nat):Int):=(by rw [IntKind.wrap_i64];omega);have ak:(uG t g (k.take (c+1))).length=l+(c+1):=(by rw [wL t _ I,zAj,D.out];omega);obtain ⟨p,a8,a5,a6,av⟩:=hqq5 q u H ak aa;clear aa q u H Y aq W Z S aN ah T ak I;go_wp2_with fail;refine wp_region_any kR ?_;refine cD B 9 [83,84,85,86,87,88,89,90,91] (fun _=>False) 3 [] (fun _=>True) (fun C _=>C=.pointer (some gl)) [is gs,is gs,is gs,dA,is (.pointer (some ⟨w.heap.size,1,none⟩)),is (g:Int),is (c:Int),is (.int .i64 ((g+c:Nat):Int)),is (.int .u8 (o.toNat:Int))] _ _ rfl dC kR kR kR (trivial) (fun _ _ _ _ _=>trivial) (fun _ _ _ y _=>y) tA1 ?_ ?_
      · refine bG ?_;refine pH3 0 (.pointer (some gs)) ?_;refine pV3 0 83 ?_;refine pV3 1 84 ?_;refine sC3 (fun _ e a _ _ _ _ b _ _ _ d=>?_) ?_
        · replace a:VFB B (fun _=>False) wr e:=fD a;have b7:_=_:=b 2 85 kR rfl;have a0:=a.to_vb (fun _ _ m=>m);have z:=a0.1.bk p.out.blk dC dC;have x:=z.cell 0;go_simp;exact d _ _ (jK (VFB.of_vb vR)) rfl
        refine pH3 3 (.pointer (some w.heap.size)) ?_;refine sC3 (fun _ e a _ _ _ _ b _ _ _ d=>?_) ?_
        · replace a:VFB B (fun _=>False) wr e:=fD a;have b8:_=_:=b 4 87 kR rfl;have a0:=a.to_vb (fun _ _ m=>m);have A:=a0.1.bk aA.out dC dC;have x:=A.cell 1;go_simp;exact d _ _ (aH vR) rfl
        refine pH3 6 (.int .i64 (c:Int)) ?_;refine sC3 (fun _ _ _ _ _ _ _ b _ _ _ d=>?_) ?_
        · have b9:_=_:=b 5 88 kR rfl;have ba:_=_:=b 6 89 kR rfl;go_simp;exact d _ _ (aH vR) (by first | rfl | exact congrArg (Value.int .i64) av.out)
        refine pH3 7 (.int .u8 (o.toNat:Int)) ?_;exact aD
      · intro s r m a b ag;replace a:VFB B (fun _=>False) wr r:=fD a;have ar:(fun C _=>C=.pointer (some gl)) (s (.tmp 86)) r:=b 3 86 dC rfl;have aL:s (.tmp 90)=.int .i64 ((g+c:Nat):Int):=b 7 90 dC rfl;have aM:s (.tmp 91)=.int .u8 (o.toNat:Int):=b 8 91 dC rfl;obtain ⟨aW,au⟩:=ag 3 dC;have aU:(fun C _=>C=.pointer (some gl)) aW r:=au;clear au ag;simp only [zqq];rw [aL];rw [aM];clear b;have J:=a.to_vb (fun _ _ m=>m);rw [show s (.tmp 86)=_ from ar];clear aU a ar;change wpAny prog Region.Mode.any _ _ (1+m) (bX 9 10) _ r;rw [zCs 1 m];refine bC (f:=m) (i:=9) kR ?_;refine bN rfl rfl ?_;generalize d:wpAny prog _ _ _ m _=K5;go_simp;refine (a5.out r J).mono ?_;rintro a9 be ⟨rfl,aT,al,am⟩;subst d;refine bT kR ?_;have U:=(p.out.vb J.1).edited al am (by rw [a6.out];omega) (by rw [a6.out];have:=aF.out;omega);obtain ⟨O,N⟩:=hqq2 U.1 (a8.out.trans ((LFS.of_vb gs own' J).trans U.2));clear U al am J p a8 a5;go_wp2_with fail;go_roundw
        case rel=>exact ⟨c+1,aT,by omega,by go_num,O.out,N.out⟩
        case measure=>simp [intOf];omega
    · obtain rfl:c=j:=oM;rw [zAg (by rw [L.out];exact zAs _)] at q;obtain ⟨O,N⟩:=hqq2 q (aE.out.trans u);clear q u;go_wp2_with fail;go_ret;exact ⟨rfl,own',O.out,N.out⟩
def xX (B:Nat) (own:Nat->Nat) (gs gl most rate e:Nat) (t:List UInt8) (i:Nat) (u:Int) (j:Option Addr) (g k:Nat) (w:World) (l:StAt w B own gs gl most rate t) (p:t.length=e) (a2:i<=e) (Q:most < e+g):
 Calls prog 74 #[gs,.agg #[.int .i64 1,(i:Int),.int .i64 u,.slice j g k]] w fun o w'=>o=.returned (.int .i64 3)/\VB B w w':=by
 have f:=EdW.mk' 1 (i:Int) u j g k l;have s:=lE B own gs gl most rate e t i 0 _ f.st p;have C:iE e (i:Int) 0=true:=zBz oM;rw [C] at s;have J:=f.box.cell 0;have K:=f.box.cell 1;have L:=f.box.cell 2;have M:=f.box.cell 3;have O:=l.max;have P:e<=most:=by have:=l.len;omega
 have z:IntKind.i64.wrap ((most:Int) -(e:Int))=(most:Int) -(e:Int):=by rw [IntKind.wrap_i64];omega
 have A:decide ((g:Int) > (most:Int) -(e:Int))=true:=zBz oM;obtain ⟨m,I,v,x,F,D,E⟩:=hqq7 f.st f.low s f.box p z A;clear l f s C p O z A P Q;go_enter func74,ntmps74;go_wp2_with fail;refine v.out.mono ?_;rintro o w1 ⟨rfl,rfl⟩;clear v;go_wp2_with fail;generalize w.alloc (.cells #[.int .i64 1,(i:Int),.int .i64 u,.slice j g k] 46)=w1 at*
 clear J K L M;have H:=lhd (fun d (R:VB B w1 d)=>(m.out.vb R.1).llen F.out);refine wp_region_any kR ?_;refine aV [27,28,29,30,31,32,33,34,35,36,37,38,39,40,41,42,43,44,45,26] (VB B) (Vs [is w.heap.size,is (.int .i64 1),is (.bool true),is (.bool true),is (.pointer (some ⟨w.heap.size,3,none⟩)),is (.slice j g k),is (g:Int),is gs,is gs,is (.pointer (some ⟨gs,1,none⟩)),is (most:Int),is gs,is gs,is gs,is gl,is (e:Int),is (.int .i64 ((most:Int) -(e:Int))),is (.bool true),is (.bool true),is (.bool true)]) _ _ rfl kR vR (fun _ _=>VisK.trans) (cZ tA1) ?_ ?_
 · refine aO ?_;refine pH 3 (.pointer (some w.heap.size)) ?_;refine sC (fun _ d a _ _ _ b _ _ _ c=>?_) ?_
   · have T:_=_:=b 0 27 kR rfl;replace a:(VB B) w1 d:=bD a;have r:=a.1.bk x.out dC dC;have n:=r.cell 0;go_simp;exact c _ _ vR rfl
   refine pV 1 28 ?_;refine pV 2 29 ?_;refine gH 30 true 3 (.pointer (some w.heap.size)) ?_;refine sG 30 true (fun _ d a _ _ _ b _ _ _ c=>?_) ?_
   · have U:_=_:=b 4 31 kR rfl;replace a:(VB B) w1 d:=bD a;have r:=a.1.bk x.out dC dC;have n:=r.cell 3;go_simp;exact c _ _ vR rfl
   refine gV 30 true 5 32 ?_;refine gH 30 true 0 (.pointer (some gs)) ?_;refine gV 30 true 7 34 ?_;refine gV 30 true 8 35 ?_;refine sG 30 true (fun _ d a _ _ _ b _ _ _ c=>?_) ?_
   · have W:_=_:=b 9 36 kR rfl;replace a:(VB B) w1 d:=bD a;have q:=a.1.bk m.out.blk dC dC;have n:=q.cell 1;go_simp;exact c _ _ vR rfl
   refine gH 30 true 0 (.pointer (some gs)) ?_;refine gV 30 true 11 38 ?_;refine gV 30 true 12 39 ?_;refine sG 30 true (fun _ d a _ _ _ b _ _ _ c=>?_) ?_
   · have Y:_=_:=b 13 40 kR rfl;replace a:(VB B) w1 d:=bD a;have q:=a.1.bk m.out.blk dC dC;have n:=q.cell 0;go_simp;exact c _ _ vR rfl
   refine sG 30 true (fun _ d a _ _ _ b _ _ _ c=>?_) ?_
   · have Z:_=_:=b 14 41 kR rfl;replace a:(VB B) w1 d:=bD a;go_simp;refine (H.out d a).mono ?_;rintro o a3 ⟨rfl,rfl⟩;exact c _ _ vR rfl
   refine sG 30 true (fun _ _ _ _ _ _ b _ _ _ c=>?_) ?_
   · have X:_=_:=b 10 37 kR rfl;have a0:_=_:=b 15 42 kR rfl;go_simp;exact c _ _ vR (by first | rfl | exact congrArg (Value.int .i64) D.out)
   refine sG 30 true (fun _ _ _ _ _ _ b _ _ _ c=>?_) ?_
   · have V:_=_:=b 6 33 kR rfl;have a1:_=_:=b 16 43 kR rfl;go_simp;exact c _ _ vR (by first | rfl | exact congrArg Value.bool E.out)
   refine pW 3 30 17 44 ?_;refine pV 18 45 ?_;exact aD
 · intro N S a b;replace a:(VB B) w1 S:=bD a;have y:N (.tmp 26)=.bool true:=b 19 26 rfl;simp only [zqq];rw [y];clear b;clear y;have G:=lhd (VisK.trans (VisK.of_below I.out) a);clear a;go_wp2_with fail;go_ret;exact ⟨rfl,G.out⟩
def zA (B:Nat) (own:Nat->Nat) (gs gl most rate x:Nat) (t:List UInt8) (b c:Nat) (G:Option Addr) (T J:Nat) (w:World) (q:StAt w B own gs gl most rate t) (M:TabW w) (y:1 < B) (z:t.length=x) (aG:b+c<=x):
 Calls prog 74 #[gs,.agg #[.int .i64 2,(b:Int),(c:Int),.slice G T J]] w (aE8 w B own gs gl most rate (t.take b++t.drop (b+c))):=by
 have k:=EdW.mk' 2 (b:Int) (c:Int) G T J q;have a9:=LFS.of_below B gs own k.low;have P:=lE B own gs gl most rate x t b c _ k.st z;have a8:iE x (b:Int) (c:Int)=true:=zBz oM;rw [a8] at P;have K:=k.box.cell 0;have an:=k.box.cell 1;have L:=k.box.cell 2;have ao:=k.box.cell 3;have av:=q.n127;have R:=q.len;rw [z] at av R;have a5:=M.below k.low M.pos;obtain ⟨s,ak,X,U,Y,V,W,am⟩:=hqq8 k.st a9 k.ap P k.box z a5 R;clear q k a9 P a8 z M a5 R;go_enter func74,ntmps74;go_wp2_with fail;refine U.out.mono ?_;rintro aq w1 ⟨rfl,rfl⟩;clear U;go_wp2_with fail;generalize w.alloc (.cells #[.int .i64 2,(b:Int),(c:Int),.slice G T J] 46)=w1 at*
 clear K an L ao;refine wp_region_any kR ?_;refine aV [27,28,29,30,31,32,33,34,35,36,37,38,39,40,41,42,43,44,45,26] (VB B) (Vs [is w.heap.size,is (.int .i64 2),is (.bool false),is (.bool false),is undef,is undef,is undef,is undef,is undef,is undef,is undef,is undef,is undef,is undef,is undef,is undef,is undef,is undef,is (.bool false),is (.bool false)]) _ _ rfl kR vR (fun _ _=>VisK.trans) (cZ tA1) ?_ ?_
 · refine aO ?_;refine pH 3 (.pointer (some w.heap.size)) ?_;refine sC (fun _ m a _ _ _ e _ _ _ o=>?_) ?_
   · have az:_=_:=e 0 27 kR rfl;replace a:(VB B) w1 m:=bD a;have N:=a.1.bk Y.out dC dC;have a3:=N.cell 0;go_simp;exact o _ _ vR rfl
   refine pV 1 28 ?_;refine pV 2 29 ?_;refine aC ?_ ?_;exact sK 30 false fun _=>vR;refine aC ?_ ?_;exact sK 30 false fun _=>vR;refine aC ?_ ?_;exact sK 30 false fun _=>vR;refine aC ?_ ?_;exact sK 30 false fun _=>vR;refine aC ?_ ?_;exact sK 30 false fun _=>vR;refine aC ?_ ?_;exact sK 30 false fun _=>vR;refine aC ?_ ?_;exact sK 30 false fun _=>vR;refine aC ?_ ?_;exact sK 30 false fun _=>vR;refine aC ?_ ?_;exact sK 30 false fun _=>vR;refine aC ?_ ?_;exact sK 30 false fun _=>vR;refine aC ?_ ?_;exact sK 30 false fun _=>vR;refine aC ?_ ?_;exact sK 30 false fun _=>vR;refine aC ?_ ?_;exact sK 30 false fun _=>vR;refine aC ?_ ?_;exact sK 30 false fun _=>vR;refine pW 3 30 17 44 ?_;refine pV 18 45 ?_;exact aD
 · intro u n a e;replace a:(VB B) w1 n:=bD a;have a4:u (.tmp 26)=.bool false:=e 19 26 rfl;simp only [zqq];rw [a4];clear e;have ae:=s.out.vb a.1;have ac:=LFS.of_vb gs own a;have A:=a.1.bk Y.out dC dC;have K:=A.cell 0;have L:=A.cell 2;obtain ⟨a2,al,ah,aj⟩:=hqq4 ae (ak.out.trans ac) (W.out.vb a y W.out.pos) A;clear ae ac A a a4;go_wp2_with fail;clear K L;go_loopw [52] (fun F wr=>∃(d:Nat) (own':Nat->Nat),d<=c/\F=.int .i64 (d:Int)/\StAt wr B own' gs gl most rate (t.take b++t.drop (b+d))/\LFS B gs n wr own own') (fun F _=>c -(intOf F).toNat)
   case atStart=>exact ⟨0,own,by omega,rfl,by rw [zBq,zAu];exact a2.out,LFS.refl _ _ _ _⟩
   case round=>
    obtain ⟨d,own',aE,rfl,l,r⟩:=hrel;by_cases aF:d < c
    · have ad:b+d < t.length:=(by rw [V.out];omega);have D:=aFy t (p:=b) (j:=d) oM;have Q:=aFy t (p:=b) (j:=d+1) oM;rw [V.out] at D Q;have C:=fun m (c:VB B wr m)=>aDx m B own' gl (t.take b++t.drop (b+d)) rate b (l.vb c.1).live ((ah.out.below (r.below a2.out.size) y).vb c y (by have:=l.size;omega)) y (by rw [D];omega) (by rw [D];omega) l.r1 l.r2;unfold aBQ at C;rw [aIn t ad] at C;have a7:=r.bk aj.out X.out.col X.out.ne dC dC;obtain ⟨ai,s,a1,Z,a0⟩:=hqq5 a7 l r C Q;clear l r C D Q a7 ad;go_wp2_with fail;refine wp_region_any kR ?_;refine cD B 6 [54,55,56,57,58,59] (fun _=>False) 3 [] (fun _=>True) (fun v _=>v=.pointer (some gl)) [is gs,is gs,is gs,dA,is (.pointer (some ⟨w.heap.size,1,none⟩)),is (b:Int)] _ _ rfl dC kR kR kR (trivial) (fun _ _ _ _ _=>trivial) (fun _ _ _ q _=>q) tA1 ?_ ?_
      · refine bG ?_;refine pH3 0 (.pointer (some gs)) ?_;refine pV3 0 54 ?_;refine pV3 1 55 ?_;refine sC3 (fun _ m a _ _ _ _ e _ _ _ o=>?_) ?_
        · replace a:VFB B (fun _=>False) wr m:=fD a;have aA:_=_:=e 2 56 kR rfl;have S:=a.to_vb (fun _ _ g=>g);have au:=S.1.bk s.out.blk dC dC;have a3:=au.cell 0;go_simp;exact o _ _ (jK (VFB.of_vb vR)) rfl
        refine pH3 3 (.pointer (some w.heap.size)) ?_;refine sC3 (fun _ m a _ _ _ _ e _ _ _ o=>?_) ?_
        · replace a:VFB B (fun _=>False) wr m:=fD a;have aB:_=_:=e 4 58 kR rfl;have S:=a.to_vb (fun _ _ g=>g);have N:=S.1.bk ai.out dC dC;have a3:=N.cell 1;go_simp;exact o _ _ (aH vR) rfl
        exact aD
      · intro u n g a e a6;replace a:VFB B (fun _=>False) wr n:=fD a;have af:(fun v _=>v=.pointer (some gl)) (u (.tmp 57)) n:=e 3 57 dC rfl;have ar:u (.tmp 59)=.int .i64 (b:Int):=e 5 59 dC rfl;obtain ⟨ay,ag⟩:=a6 3 dC;have ax:(fun v _=>v=.pointer (some gl)) ay n:=ag;clear ag a6;simp only [zqq];rw [ar];clear e;have E:=a.to_vb (fun _ _ g=>g);rw [show u (.tmp 57)=_ from af];clear ax a af;change wpAny prog Region.Mode.any _ _ (1+g) (bX 6 7) _ n;rw [zCs 1 g];refine bC (f:=g) (i:=6) kR ?_;refine bN rfl rfl ?_;generalize o:wpAny prog _ _ _ g _=K5;go_simp;refine (Z.out n E).mono ?_;rintro aq aI ⟨rfl,aw,aa,ab⟩;subst o;refine bT kR ?_;have O:=(s.out.vb E.1).edited aa ab (by rw [a0.out];omega) (by rw [a0.out];have:=am.out;omega);obtain ⟨I,H⟩:=hqq2 O.1 (a1.out.trans ((LFS.of_vb gs own' E).trans O.2));clear O aa ab E s a1 Z;go_wp2_with fail;go_roundw
        case rel=>exact ⟨d+1,aw,by omega,by go_num,I.out,H.out⟩
        case measure=>simp [intOf];omega
    · obtain rfl:d=c:=oM;obtain ⟨I,H⟩:=hqq2 l (al.out.trans r);clear l r;go_wp2_with fail;go_ret;exact ⟨rfl,own',I.out,H.out⟩
def yY (B:Nat) (own:Nat->Nat) (gs gl most rate C:Nat) (t e:List UInt8) (c:Nat) (a1:Int) (z:Option Addr) (k N:Nat) (w:World) (v:StAt w B own gs gl most rate t) (R:TabW w) (E:1 < B) (F:t.length=C) (P:ArgZ w B own gs z k e) (b4:c+k<=C):
 Calls prog 74 #[gs,.agg #[.int .i64 3,(c:Int),.int .i64 a1,.slice z k N]] w (aE8 w B own gs gl most rate (t.take c++(e++t.drop (c+e.length)))):=by
 have Q:e.length=k:=by simpa using P.1.1
 rw [Q];have g:=EdW.mk' 3 (c:Int) a1 z k N v;have ae:=P.vis g.low;have aj:=LFS.of_below B gs own g.low;have W:=lE B own gs gl most rate C t c k _ g.st F;have ai:iE C (c:Int) (k:Int)=true:=zBz oM;rw [ai] at W;have D:=g.box.cell 0;have aI:=g.box.cell 1;have aJ:=g.box.cell 2;have O:=g.box.cell 3;have aQ:=v.n127;have Z:=v.len;rw [F] at aQ Z;have af:=R.below g.low R.pos;obtain ⟨x,aw,aB,a5,a2,a6,a3,A,a4⟩:=hqq9 g.st ae aj g.ap W g.box F Q af;have aF:=lhd Z;clear v P g ae aj W ai F Q R af Z;go_enter func74,ntmps74;go_wp2_with fail;refine a2.out.mono ?_;rintro aK w1 ⟨rfl,rfl⟩;clear a2;go_wp2_with fail;generalize w.alloc (.cells #[.int .i64 3,(c:Int),.int .i64 a1,.slice z k N] 46)=w1 at*
 clear D aI aJ O;refine wp_region_any kR ?_;refine aV [27,28,29,30,31,32,33,34,35,36,37,38,39,40,41,42,43,44,45,26] (VB B) (Vs [is w.heap.size,is (.int .i64 3),is (.bool false),is (.bool false),is undef,is undef,is undef,is undef,is undef,is undef,is undef,is undef,is undef,is undef,is undef,is undef,is undef,is undef,is (.bool false),is (.bool false)]) _ _ rfl kR vR (fun _ _=>VisK.trans) (cZ tA1) ?_ ?_
 · refine aO ?_;refine pH 3 (.pointer (some w.heap.size)) ?_;refine sC (fun _ o b _ _ _ d _ _ _ m=>?_) ?_
   · have aX:_=_:=d 0 27 kR rfl;replace b:(VB B) w1 o:=bD b;have U:=b.1.bk a6.out dC dC;have ab:=U.cell 0;go_simp;exact m _ _ vR rfl
   refine pV 1 28 ?_;refine pV 2 29 ?_;refine aC ?_ ?_;exact sK 30 false fun _=>vR;refine aC ?_ ?_;exact sK 30 false fun _=>vR;refine aC ?_ ?_;exact sK 30 false fun _=>vR;refine aC ?_ ?_;exact sK 30 false fun _=>vR;refine aC ?_ ?_;exact sK 30 false fun _=>vR;refine aC ?_ ?_;exact sK 30 false fun _=>vR;refine aC ?_ ?_;exact sK 30 false fun _=>vR;refine aC ?_ ?_;exact sK 30 false fun _=>vR;refine aC ?_ ?_;exact sK 30 false fun _=>vR;refine aC ?_ ?_;exact sK 30 false fun _=>vR;refine aC ?_ ?_;exact sK 30 false fun _=>vR;refine aC ?_ ?_;exact sK 30 false fun _=>vR;refine aC ?_ ?_;exact sK 30 false fun _=>vR;refine aC ?_ ?_;exact sK 30 false fun _=>vR;refine pW 3 30 17 44 ?_;refine pV 18 45 ?_;exact aD
 · intro u q b d;replace b:(VB B) w1 q:=bD b;have ad:u (.tmp 26)=.bool false:=d 19 26 rfl;simp only [zqq];rw [ad];clear d;have an:=x.out.vb b.1;have Y:=LFS.of_vb gs own b;have G:=b.1.bk a6.out dC dC;have D:=G.cell 0;have O:=G.cell 3;obtain ⟨aa,aE,ax,ay,aA⟩:=hqq5 an (aB.out.trans Y) (aw.out.step Y) (a4.out.vb b E a4.out.pos) G;clear an Y G b ad;go_wp2_with fail;clear D O;go_loopw [6,7,65] (fun _ _ K wr=>∃(a:Nat) (own':Nat->Nat),a<=k/\K=.int .i64 (a:Int)/\StAt wr B own' gs gl most rate (t.take c++(e.take a++t.drop (c+a)))/\LFS B gs q wr own own') (fun _ _ K _=>k -(intOf K).toNat)
   case atStart=>exact ⟨0,own,by omega,rfl,by rw [List.take_zero,List.nil_append,zBq,zAu];exact aa.out,LFS.refl _ _ _ _⟩
   case round=>
    obtain ⟨a,own',b3,rfl,n,s⟩:=hrel;by_cases aP:a < k
    · obtain ⟨r,S⟩:∃r,e[a]?=some r:=⟨_,zAa (by rw [A.out];exact aP)⟩;have am:c+a < t.length:=(by rw [a3.out];omega);have H:=aFf t e (p:=c) (j:=a) (by rw [A.out];omega) oM;have X:=aFf t e (p:=c) (j:=a+1) (by rw [A.out];omega) oM;rw [a3.out] at H X;have I:=fun o (aq:VB B wr o)=>aIL o B own' gl (t.take c++(e.take a++t.drop (c+a))) rate (c+a) r (n.vb aq.1).live ((ay.out.below (s.below aa.out.size) E).vb aq E (by have:=n.size;omega)) E (by rw [H];omega) (by rw [H];omega) n.r1 n.r2;unfold aBQ at I;rw [aHp t e S am] at I;obtain ⟨aG,aR,rfl,b2,ah⟩:=((ax.out.step s).1).2 oM;have aW:wr.cell? ⟨aG,aR+a,none⟩=some (.int .u8 (r.toNat:Int)):=ah a _ (by rw [zAf,S];rfl);have T:=s.bk aA.out a5.out.col a5.out.ne dC dC;have az:=lhd T;have D:=T.cell 0;have ac:IntKind.i64.wrap ((c:Int)+(a:Int))=((c+a:Nat):Int):=(by rw [IntKind.wrap_i64];omega);obtain ⟨x,a8,a9,a7,av⟩:=hqq5 n s I X ac;clear ac n s I H X S ah T am;go_wp2_with fail;refine wp_region_any kR ?_;refine cD B 9 [73,74,75,76,77,78,79,80,81] (fun _=>False) 3 [] (fun _=>True) (fun y _=>y=.pointer (some gl)) [is gs,is gs,is gs,dA,is (.pointer (some ⟨w.heap.size,1,none⟩)),is (c:Int),is (a:Int),is (.int .i64 ((c+a:Nat):Int)),is (.int .u8 (r.toNat:Int))] _ _ rfl dC kR kR kR (trivial) (fun _ _ _ _ _=>trivial) (fun _ _ _ v _=>v) tA1 ?_ ?_
      · refine bG ?_;refine pH3 0 (.pointer (some gs)) ?_;refine pV3 0 73 ?_;refine pV3 1 74 ?_;refine sC3 (fun _ o b _ _ _ _ d _ _ _ m=>?_) ?_
        · replace b:VFB B (fun _=>False) wr o:=fD b;have aY:_=_:=d 2 75 kR rfl;have a0:=b.to_vb (fun _ _ l=>l);have aN:=a0.1.bk x.out.blk dC dC;have ab:=aN.cell 0;go_simp;exact m _ _ (jK (VFB.of_vb vR)) rfl
        refine pH3 3 (.pointer (some w.heap.size)) ?_;refine sC3 (fun _ o b _ _ _ _ d _ _ _ m=>?_) ?_
        · replace b:VFB B (fun _=>False) wr o:=fD b;have aZ:_=_:=d 4 77 kR rfl;have a0:=b.to_vb (fun _ _ l=>l);have U:=a0.1.bk az.out dC dC;have ab:=U.cell 1;go_simp;exact m _ _ (aH vR) rfl
        refine pH3 6 (.int .i64 (a:Int)) ?_;refine sC3 (fun _ _ _ _ _ _ _ d _ _ _ m=>?_) ?_
        · have b0:_=_:=d 5 78 kR rfl;have b1:_=_:=d 6 79 kR rfl;go_simp;exact m _ _ (aH vR) (by first | rfl | exact congrArg (Value.int .i64) av.out)
        refine pH3 7 (.int .u8 (r.toNat:Int)) ?_;exact aD
      · intro u q l b d ag;replace b:VFB B (fun _=>False) wr q:=fD b;have ar:(fun y _=>y=.pointer (some gl)) (u (.tmp 76)) q:=d 3 76 dC rfl;have aL:u (.tmp 80)=.int .i64 ((c+a:Nat):Int):=d 7 80 dC rfl;have aM:u (.tmp 81)=.int .u8 (r.toNat:Int):=d 8 81 dC rfl;obtain ⟨aU,au⟩:=ag 3 dC;have aT:(fun y _=>y=.pointer (some gl)) aU q:=au;clear au ag;simp only [zqq];rw [aL];rw [aM];clear d;have J:=b.to_vb (fun _ _ l=>l);rw [show u (.tmp 76)=_ from ar];clear aT b ar;change wpAny prog Region.Mode.any _ _ (1+l) (bX 9 10) _ q;rw [zCs 1 l];refine bC (f:=l) (i:=9) kR ?_;refine bN rfl rfl ?_;generalize m:wpAny prog _ _ _ l _=K5;go_simp;refine (a9.out q J).mono ?_;rintro aK b5 ⟨rfl,aS,ak,al⟩;subst m;refine bT kR ?_;have V:=(x.out.vb J.1).edited ak al (by rw [a7.out];omega) (by rw [a7.out];have:=aF.out;omega);obtain ⟨M,L⟩:=hqq2 V.1 (a8.out.trans ((LFS.of_vb gs own' J).trans V.2));clear V ak al J x a8 a9;go_wp2_with fail;go_roundw
        case rel=>exact ⟨a+1,aS,by omega,by go_num,M.out,L.out⟩
        case measure=>simp [intOf];omega
    · obtain rfl:a=k:=oM;have ao:e.take a=e:=zAg (by rw [A.out];exact zAs _);rw [ao] at n;clear ao;obtain ⟨M,L⟩:=hqq2 n (aE.out.trans s);clear n s;go_wp2_with fail;go_ret;exact ⟨rfl,own',M.out,L.out⟩
end
end Go.Proofs.YthldmddkfbijhaaGreatDoor
