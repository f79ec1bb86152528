/- Lemmas of the walk. Conditions: each its own. -/
import Derived.Test.YthldmddkfbijhaaGreatDoorPsl10
import Derived.Test.YthldmddkfbijhaaGreatDoorPsl11
import Derived.Test.YthldmddkfbijhaaGreatDoorProg
import Derived.Test.YthldmddkfbijhaaGreatDoorShl
set_option linter.all false
set_option maxRecDepth 100000
set_option maxHeartbeats 4000000
open Go.Proofs.Tryz
namespace Go.Proofs.YthldmddkfbijhaaGreatDoor
section
open Go.RowKit
def aIx (b:Nat) (d:TypeId) (c:Array Value):Value->World->Prop:=fun e w=>∃a,e=.pointer (some ⟨a,0,none⟩)/\Bk w a d c/\b<=a
def aIw {B:Nat} {F:Nat->Prop} (c:Nat) (a:TypeId) (i:Array Value) (j:a≠202) (k:a≠154) (l:∀g,¬F g):aGJ (VFB B F) (aIx c a i):=fun _ _ _ ⟨b,d,e,f⟩ m=>⟨b,d,m.1.bk e j k (l b),f⟩
def WaveS.cells {w:World} {B:Nat} {own:Nat->Nat} {c:Nat} {b:Nat->Value} {g:Nat->List Nat} {d e:Int} (f:WaveS w B own c b g d e):(∀a,a < 9->w.cell? ⟨c,a,none⟩=some (b a))/\w.cell? ⟨c,9,none⟩=some (.int .i64 d)/\w.cell? ⟨c,10,none⟩=some (.int .i64 e):=by
 obtain ⟨l,m,n,o,p,q,r,s,t,j,i⟩:=bI b d e;exact ⟨fun a k=>(f.blk.cell a).trans (sL b d e a k),(f.blk.cell 9).trans j,(f.blk.cell 10).trans i⟩
def xK (B g:Nat) (own:Nat->Nat) (L:List Nat) (k j:Nat) (w:World) (r:WaveE w B own g L) (ad:j < 257) (aq:k<=L.length) (aF:∀N∈L,N < 257) (c2:L.length<=127):
 Calls prog 116 #[g,(k:Int),(j:Int)] w fun n w'=>n=.returned (.int .i64 0)/\∃own',WaveE w' B own' g (aP L k j)/\(∀a,a < w.heap.size->own' a=own a)/\(∀a,w.heap.size<=a->own' a≠1)/\Keep (fun a=>a=g∨16<=own a) w w':=by
 have bz:=kY L k j aq aF ad;obtain ⟨l,e9,r⟩:=r;obtain ⟨q,aw⟩:=eqx L.length;rw [aw] at r aq c2;have bV:(aP L k j).length=q+1:=by rw [fX _ _ oM,aw]
 obtain ⟨cN,cM,cE⟩:=r.cells;have cP:=r.blk.frozen 10;have d0:=r.blk.lt;have dR:B<=w.heap.size:=zAk r.base.1 (zCm d0);obtain ⟨ea,a7⟩:=r.vis ((VisK.alloc (VB.set_wave r.blk r.base.1 0) (.cells #[(k:Int)] 3)).1);have cW:g≠w.heap.size:=oM;have Y:=Bk.new (w.setCell ⟨g,10,none⟩ (.int .i64 0)) 3 #[(k:Int)];rw [show (w.setCell ⟨g,10,none⟩ (.int .i64 0)).heap.size=w.heap.size by simp [World.setCell]] at Y;have aV:Keep (fun a=>a=g∨16<=own a) w ((w.setCell ⟨g,10,none⟩ (.int .i64 0)).alloc (.cells #[(k:Int)] 3)):=(Keep.setCell (F:=fun a=>a=g∨16<=own a) (Keep.refl _ _) (p:=⟨g,10,none⟩) (.inl (.inl rfl)) _).alloc _;obtain ⟨z,aG⟩:=eqx ((w.setCell ⟨g,10,none⟩ (.int .i64 0)).alloc (.cells #[(k:Int)] 3));rw [aG] at a7 Y aV;obtain ⟨E,bo,cF⟩:=a7.cells;have cC:∀b,(z.drewN b).cell? g=some (l 0):=fun b=>E 0 oM;have Q:∀b,(z.drewN b).cell? ⟨g,1,none⟩=some (l 1):=fun b=>E 1 oM;have ak:∀b,(z.drewN b).cell? ⟨g,2,none⟩=some (l 2):=fun b=>E 2 oM;have cG:∀b,(z.drewN b).cell? ⟨g,3,none⟩=some (l 3):=fun b=>E 3 oM;have cH:∀b,(z.drewN b).cell? ⟨g,4,none⟩=some (l 4):=fun b=>E 4 oM;have cI:∀b,(z.drewN b).cell? ⟨g,5,none⟩=some (l 5):=fun b=>E 5 oM;have cJ:∀b,(z.drewN b).cell? ⟨g,6,none⟩=some (l 6):=fun b=>E 6 oM;have cK:∀b,(z.drewN b).cell? ⟨g,7,none⟩=some (l 7):=fun b=>E 7 oM;have cL:∀b,(z.drewN b).cell? ⟨g,8,none⟩=some (l 8):=fun b=>E 8 oM;have bp:z.cell? ⟨g,9,none⟩=some (.int .i64 (q:Int)):=bo;have bq:z.cell? w.heap.size=some (.int .i64 (k:Int)):=(Y.cell 0).trans rfl;have cY:decide ((k:Int) < 0)=false:=by simp
 have e2:¬q < k:=oM;have e3:¬((k:Int) > (q:Int)):=oM;have bF:=a7.blk.lt;have aI:=Y.lt;obtain ⟨b7,bd,bg,cb,ds,ce,cq,b9,du⟩:=hqq9 a7 Y aV bz aF aw bV aG aq;obtain ⟨dt,bL⟩:=hqq2 r.base r.bnd;clear r a7 Y aV bz aF aw bV aG cN E bo cF aq;go_enter func116,ntmps116;go_wp2_with fail;rw [b9.out];clear cE cP cM;refine (fE j _ ad).mono ?_;rintro n w1 ⟨rfl,W⟩;have br:w1.cell? ⟨g,9,none⟩=some (.int .i64 (q:Int)):=(W.cell (p:=⟨g,9,none⟩) bF).trans bp;have bs:w1.cell? w.heap.size=some (.int .i64 (k:Int)):=(W.cell (p:=w.heap.size) aI).trans bq;obtain ⟨ca,v⟩:=b7.out.vis (Vis.of_below W);have aU:=bd.out.below W aI;have bW:Keep (fun a=>a=g∨16<=own a) w w1:=bg.out.trans (Keep.of_below W);have dz:∀b,(w1.drewN b).cell? g=some (l 0):=fun b=>v.cells.1 0 oM;have cO:∀b,(w1.drewN b).cell? ⟨g,1,none⟩=some (l 1):=fun b=>v.cells.1 1 oM;have dB:∀b,(w1.drewN b).cell? ⟨g,2,none⟩=some (l 2):=fun b=>v.cells.1 2 oM;have dE:∀b,(w1.drewN b).cell? ⟨g,3,none⟩=some (l 3):=fun b=>v.cells.1 3 oM;have dF:∀b,(w1.drewN b).cell? ⟨g,4,none⟩=some (l 4):=fun b=>v.cells.1 4 oM;have dL:∀b,(w1.drewN b).cell? ⟨g,5,none⟩=some (l 5):=fun b=>v.cells.1 5 oM;have dM:∀b,(w1.drewN b).cell? ⟨g,6,none⟩=some (l 6):=fun b=>v.cells.1 6 oM;have dN:∀b,(w1.drewN b).cell? ⟨g,7,none⟩=some (l 7):=fun b=>v.cells.1 7 oM;have dO:∀b,(w1.drewN b).cell? ⟨g,8,none⟩=some (l 8):=fun b=>v.cells.1 8 oM;have e0:=v.blk.lt;have dV:=aU.lt;have dx:∀b,(w1.drewN b).cell? ⟨g,9,none⟩=some (.int .i64 (q:Int)):=fun b=>br;have dy:∀b,(w1.drewN b).cell? w.heap.size=some (.int .i64 (k:Int)):=fun b=>bs;obtain ⟨b8,co,cr⟩:=hqq3 v aU bW;clear v aU bW W b7 bd bg cC Q ak cG cH cI cJ cK cL bp bq bF aI b9;go_wp2_with fail;go_quiet (fail);clear br bs cY;go_wp2_with fail;go_loopw [35] (fun af wr=>∃(d:Nat) (u:Nat->Nat) (aA:Int),d<=9/\af=.int .i64 d/\WaveS wr B u g l (fun C=>if C < d then aP L k j else L) (q:Int) aA/\Bk wr w.heap.size 3 #[.int .i64 ((fP L k j d:Nat):Int)]/\(∀a,a < w.heap.size->u a=own a)/\(∀a,w.heap.size<=a->u a≠1)/\u w.heap.size=0/\Keep (fun a=>a=g∨16<=own a) w wr) (fun af _=>9 -(intOf af).toNat)
 case atStart=>refine ⟨0,own,ca,by omega,rfl,?_,?_,fun _ _=>rfl,fun a K n=>?_,?_,?_⟩;obtain ⟨b5,a8⟩:=b8.out.vis (Vis.of_below (below_drewN bR _));have:b5=ca:=(by have bm:=a8.cells.2.2;have bn:=b8.out.cells.2.2;have a5:=bn.symm.trans bm;injection a5 with a5;injection a5 with _ a5;exact a5.symm);subst this;simpa using a8;rw [cb.out];exact co.out.drewN _;have:=(bL.out a oM).2;omega;rcases zBa (own w.heap.size) with n | n;exact n;have:=(bL.out w.heap.size oM).2;omega;exact cr.out.drewN _
 case round=>
  obtain ⟨d,u,aA,e4,rfl,S,an,ax,ay,aW,ar⟩:=hrel;by_cases a0:d < 9
  · have cX:=ix9 l d a0;obtain ⟨G,a1,d2,b1⟩:=S.rows d a0;obtain ⟨ag,au⟩:=eqx (2 ^ d);obtain ⟨c,M⟩:=eqx (bE j d);have aX:c < ag:=(by rw [<-au,<-M];exact lM j d ad oM);have d3:c < 2 ^ d:=(by rw [au];exact aX);have cU:=lhd a1;rw [au] at a1 b1;obtain ⟨V,a6,bD,e5,dZ⟩:=World.ownsRow.form a1 oM;rw [bD] at cX a1;obtain ⟨N,ae⟩:=eqx (fP L k j d);obtain ⟨y,a2⟩:=eqx (fP L k j (d+1));obtain ⟨a,am⟩:=eqx (gG j d);have b3:=kZ L k j d a0;have b2:=aFE L k j d;have aN:=aEN L k j d;have aS:=yS L k j d;have aQ:(aK L d (bE j d)).length<=127:=(by rw [iU];exact zAk zBh (by rw [ce.out];exact c2));rw [M,ae,am,a2] at b3;rw [M,ae] at b2;rw [M,ae,am] at aN;rw [M] at aQ aS;rw [ae] at an;have c5:TreeE wr (fun a=>u a=TC d c) (G c) (aK L d c):=(by have:=b1 c aX;rw [zBw oM] at this;exact this);have e6:(c:Int) < (ag:Int):=oM;obtain ⟨cv,bj,cA,aj,ch,ck,cj,cw,cg⟩:=hqq9 a1 c5 b3 b2 aN aS aQ M am;obtain ⟨cB,ai,aB,a4,aC,bi,bh⟩:=hqq7 a2 S an ax ay aW ar;clear a1 b1 bD au M ae a2 am b3 b2 aN aS aQ S an ax ay aW ar c5 d2;go_wp2_with fail;refine wp_region_any kR ?_;refine cD wr.heap.size 11 [39,40,41,42,43,44,45,46,47,9,10] (fun _=>False) 8 [] (fun _=>True) (is (.bool a)) [is (.slice (some V) ag a6),is (j:Int),is (d:Int),is (c:Int),is (.pointer (some ⟨V,c*3,none⟩)),is (.agg #[.pointer (some ⟨G c,0,none⟩),(d:Int),(c:Int)]),is (j:Int),is (d:Int),dA,aIx wr.heap.size 157 #[.pointer none,.int .i64 0,.int .i64 0],aIx wr.heap.size 4 #[.bool false]] _ _ rfl dC kR kR kR (trivial) (fun _ _ _ _ _=>trivial) (iG _ _) (by repeat' (first | exact iG _ _ | exact jM _ | exact aIw _ _ _ dC dC (fun _ e=>e)|(refine zAe.2 ⟨?_,?_⟩)|(intro c M;cases M))) ?_ ?_
    · refine bG ?_;refine pH3 8 (.slice (some V) ag a6) ?_;refine pH3 2 (.int .i64 (j:Int)) ?_;refine pH3 7 (.int .i64 (d:Int)) ?_;refine sC3 (fun _ x _ _ _ _ _ t _ _ _ s=>?_) ?_
      · have dG:_=_:=t 1 40 kR rfl;have dH:_=_:=t 2 41 kR rfl;go_simp;refine (kK j d x ad oM).mono ?_;rintro n dg ⟨rfl,aM⟩;rw [cw.out];exact s _ _ (aH (VisK.of_below aM)) rfl
      refine pW3 0 39 3 42 ?_;refine sC3 (fun _ x o _ _ _ _ t _ _ _ s=>?_) ?_
      · replace o:VFB wr.heap.size (fun _=>False) wr x:=fD o;have dI:_=_:=t 4 43 kR rfl;have d5:=o.1.to_vis (fun _ _ e=>e);have aZ:=d5.own cv.out dC dC;obtain ⟨da,db,dc⟩:=fJ G d ag c aX;have dv:x.cell? ⟨V,c*3,none⟩=_:=(World.ownsRow.cellAt aZ (c*3) oM).trans da;have bm:x.cell? ⟨V,c*3+1,none⟩=_:=(World.ownsRow.cellAt aZ (c*3+1) oM).trans db;have bn:x.cell? ⟨V,c*3+2,none⟩=_:=(World.ownsRow.cellAt aZ (c*3+2) oM).trans dc;go_simp;exact s _ _ (aH vR) rfl
      refine pH3 2 (.int .i64 (j:Int)) ?_;refine pH3 7 (.int .i64 (d:Int)) ?_;refine sC3 (fun _ x _ _ _ _ _ t _ _ _ s=>?_) ?_
      · have dJ:_=_:=t 6 45 kR rfl;have dK:_=_:=t 7 46 kR rfl;go_simp;refine (mB j d x ad oM).mono ?_;rintro n dg ⟨rfl,aM⟩;rw [cg.out];exact s _ _ (aH (VisK.of_below aM)) rfl
      refine sC3 (fun _ x o _ _ _ _ _ _ _ _ s=>?_) ?_
      · replace o:VFB wr.heap.size (fun _=>False) wr x:=fD o;go_simp;exact s _ _ (aH (VisK.of_below (bR.alloc nL _))) ⟨_,rfl,Bk.new _ _ _,o.1.size⟩
      refine sC3 (fun _ x o _ _ _ _ _ _ _ _ s=>?_) ?_
      · replace o:VFB wr.heap.size (fun _=>False) wr x:=fD o;go_simp;exact s _ _ (aH (VisK.of_below (bR.alloc nL _))) ⟨_,rfl,Bk.new _ _ _,o.1.size⟩
      exact aD
    · intro al D e o t bH;replace o:VFB wr.heap.size (fun _=>False) wr D:=fD o;have bt:al (.tmp 44)=.agg #[.pointer (some ⟨G c,0,none⟩),(d:Int),(c:Int)]:=t 5 44 dC rfl;have bu:al (.tmp 47)=.bool a:=t 8 47 dC rfl;have d8:(aIx wr.heap.size 157 #[.pointer none,.int .i64 0,.int .i64 0]) (al (.tmp 9)) D:=t 9 9 dC rfl;have d7:(aIx wr.heap.size 4 #[.bool false]) (al (.tmp 10)) D:=t 10 10 dC rfl;obtain ⟨df,c7⟩:=bH 8 dC;have d9:(is (.bool a)) df D:=c7;clear c7 bH;simp only [zqq];rw [bt];rw [bu];clear t;obtain ⟨m,c9,I,ao⟩:=d8;obtain ⟨J,c8,X,bP⟩:=d7;rw [c9,c8];have c6:Below wr.heap.size wr D:=o.2.to_below nL (fun a K e=>by rcases e with e | e;exact e;omega);have dp:D.cell? m=some (.pointer none):=(I.cell 0).trans rfl;have dq:D.cell? ⟨m,1,none⟩=some (.int .i64 0):=(I.cell 1).trans rfl;have dr:D.cell? ⟨m,2,none⟩=some (.int .i64 0):=(I.cell 2).trans rfl;have cR:=I.frozen 0;have cS:=I.frozen 1;have cT:=I.frozen 2;have b6:D.cell? J=some (.bool false):=(X.cell 0).trans rfl;have cQ:=X.frozen 0;have av:m≠J:=Bk.ne I X dC;have a0:=I.lt;have cZ:=X.lt;obtain ⟨bc,ba,bl⟩:=hqq3 I X c6;clear I X c6 o d9 bt bu c9 c8;change wpAny prog Region.Mode.any _ _ (2+e) (bX 11 13) _ D;rw [show 2+e=e+1+1 by omega];refine bC (f:=e+1) (i:=11) kR ?_;refine bN rfl rfl ?_;generalize s:wpAny prog _ _ _ (e+1) _=K5;go_simp;subst s;refine bC (f:=e) (i:=12) kR ?_;refine bN rfl rfl ?_;generalize s:wpAny prog _ _ _ e _=K5;go_simp;subst s;refine bT kR ?_;obtain ⟨A,aa⟩:=eqx (((((D.setCell m (.pointer (some ⟨G c,0,none⟩))).setCell ⟨m,1,none⟩ (.int .i64 (d:Int))).setCell ⟨m,2,none⟩ (.int .i64 (c:Int))).setCell J (.bool a)));have bJ:Bk A m 157 #[.pointer (some ⟨G c,0,none⟩),(d:Int),(c:Int)]:=(by rw [<-aa];exact (((bc.out.set 0 _).set 1 _).set 2 _).far (p:=J) av _);have bI:Bk A J 4 #[.bool a]:=(by rw [<-aa];exact (((ba.out.far (p:=m) (fun n=>av n.symm) _).far (p:=⟨m,1,none⟩) (fun n=>av n.symm) _).far (p:=⟨m,2,none⟩) (fun n=>av n.symm) _).set 0 _);have bY:Keep (fun _=>False) wr A:=(by rw [<-aa];exact Keep.setCell (F:=fun _=>False) (Keep.setCell (F:=fun _=>False) (Keep.setCell (F:=fun _=>False) (Keep.setCell (F:=fun _=>False) (Keep.of_below bl.out) (p:=m) (.inr ao) _) (p:=⟨m,1,none⟩) (.inr ao) _) (p:=⟨m,2,none⟩) (.inr ao) _) (p:=J) (.inr bP) _);rw [aa];have bK:Below wr.heap.size wr A:=bY.to_below nL (fun _ _ e=>e);obtain ⟨a3,bb,U⟩:=hqq3 bJ bI bK;clear bJ bI bY bK aa dp dq dr cR cS cT b6 cQ bc ba bl a0 cZ;obtain ⟨dd,bx⟩:=ai.out.vis (Vis.of_below U.out);have bS:=aB.out.below U.out aB.out.lt;have c3:=bj.out.below U.out;have bU:=ai.out.base.2;have bM:=ai.out.bnd;have e8:=U.out.size;have dY:=aB.out.lt;have dh:A.cell? m=some (.pointer (some ⟨G c,0,none⟩)):=(a3.out.cell 0).trans rfl;have di:A.cell? ⟨m,1,none⟩=some (.int .i64 (d:Int)):=(a3.out.cell 1).trans rfl;have dj:A.cell? ⟨m,2,none⟩=some (.int .i64 (c:Int)):=(a3.out.cell 2).trans rfl;have dT:=a3.out.lt;have d1:∀(bv:Fn) (first a6:Array Value) (w:World),(Instr.makeFunc bv first a6).run prog w=.ok (.func bv first a6) w:=fun _ _ _ _=>rfl;obtain ⟨ah,be,cy,bf,cl⟩:=hqq5 bx bS c3 bU bM;clear bx bS c3 bU bM;go_wp2_with fail;refine (aGT g (G c) w.heap.size J l q dd d c (fun a=>u a=TC d c) (aK L d c) N a A ah.out.blk cy.out (fun e=>by rw [bf.out] at e;unfold TC at e;omega) (fun y a2=>(ah.out.bnd y (by rw [a2];unfold TC;omega)).2) be.out bb.out cj.out aj.out).mono ?_;rintro n O ⟨rfl,b0,Z,de,aO⟩;have aT:=ah.out.edit (lv:=d) (p:=c) (gx:=g) a0 d3 (aR cU.out U.out) (by rw [bf.out];omega) (fun dw cV=>absurd (aL cV ah.out.blk).1 dC) b0 (Z.mono fun y _ e=>by rcases e with e | e;exact .inl e;exact .inr (.inl e)) aO (L':=aP L k j) ch.out (fun b d4=>by rw [zBw (zCl _)];exact ck.out b (fun n=>d4 n.symm));have bO:(fun C=>if C=d then aP L k j else if C < d then aP L k j else L)=fun C=>if C < d+1 then aP L k j else L:=by
       funext C;by_cases Q:C=d
       · rw [zBx Q,zBx oM]
       · by_cases ak:C < d
         · rw [zBw Q,zBx ak,zBx oM]
         · rw [zBw Q,zBw ak,zBw oM]
      rw [bO] at aT;have b4:∀y,wr.heap.size<=y->¬(u y=TC d c∨y=g):=fun y a2 e=>by rcases e with e | e;have:=(cl.out y (by rw [e];unfold TC;omega)).2;omega;have:=ai.out.blk.lt;omega
      have ap:=Z.bk be.out (fun e=>by
       rcases e with e | e;rw [bi.out] at e;unfold TC at e;omega
       · exact cW e.symm)
      have ab:=Z.bk a3.out (b4 m ao);have aJ:=Z.bk bb.out (b4 J bP);have b6:O.cell? m=some (.pointer (some ⟨G c,0,none⟩)):=(ab.cell 0).trans rfl;have dk:O.cell? ⟨m,1,none⟩=some (.int .i64 (d:Int)):=(ab.cell 1).trans rfl;have dl:O.cell? ⟨m,2,none⟩=some (.int .i64 (c:Int)):=(ab.cell 2).trans rfl;have dn:O.cell? w.heap.size=some (.int .i64 (N:Int)):=(ap.cell 0).trans rfl;have dm:O.cell? J=some (.bool a):=(aJ.cell 0).trans rfl;have dU:=ab.lt;have dS:=aJ.lt;have dW:=ap.lt;have c4:=b0.at
      have bA:u (G c)=TC d c:=bj.out.1;obtain ⟨cm,cs,cp,cz,ci,cd⟩:=hqq6 aT Z ap c4 aO bA;have d6:N<=(aP (aK L d c) N a).length:=(by rw [fX _ _ aj.out];have:=aj.out;omega);clear b0 Z aO aT bO b4 ap ab aJ c4 dh di dj d1 bA;go_wp2_with fail;refine (mA g (G c) l q de d c (aP (aK L d c) N a) N a O ci.out cz.out d6).mono ?_;rintro n aE ⟨rfl,az⟩;rw [aFK _ _ _ aj.out,cA.out];obtain ⟨b5,a8⟩:=cm.out.vis az.1;have ac:=az.1.bk cp.out dC dC;have ec:aE.cell? w.heap.size=some (.int .i64 (N:Int)):=(ac.cell 0).trans rfl;have dQ:=ac.frozen 0;have dX:=ac.lt;have bQ:=ac.set 0 (.int .i64 (y:Int));have aY:dD u A.heap.size O.heap.size (TC d c) w.heap.size=0:=(by unfold dD;rw [zBx oM];exact bi.out);have bw:=a8.far (w':=aE.setCell w.heap.size (.int .i64 (y:Int))) (H:=fun a=>a=w.heap.size) (Keep.setCell (F:=fun a=>a=w.heap.size) (Keep.refl _ _) (p:=w.heap.size) (.inl rfl) _) (fun a n=>by rw [show a=w.heap.size from n,aY];omega);have e7:=bh.out.size;have bZ:Keep (fun a=>a=g∨16<=own a) w (aE.setCell w.heap.size (.int .i64 (y:Int))):=Keep.setCell (F:=fun a=>a=g∨16<=own a) (((bh.out.trans (Keep.of_below U.out)).trans' cs.out (fun a K e=>by
       rcases e with e | e;right;rw [<-a4.out a K,e];unfold TC;omega
       · exact .inl e)).trans' az.2 (fun a K e=>by
       rcases e with e | e;exact .inl e
       · right;rw [<-a4.out a K,e,cd.out];unfold TC;omega)) (p:=w.heap.size) (.inr nL) _
      obtain ⟨cc,cn,ct,cx⟩:=hqq4 bw bQ bZ aY;clear az a8 ac bQ bw bZ aY b6 dk dl dn dm;go_wp2_with fail;go_roundw
      case rel=>
       refine ⟨d+1,dD u A.heap.size O.heap.size (TC d c),b5,by omega,by go_num,cc.out,?_,fun a K=>?_,fun a K=>?_,cx.out,ct.out⟩;rw [cB.out];exact cn.out;unfold dD;rw [zBx oM];exact a4.out a K
       · unfold dD;by_cases Q:a < A.heap.size;rw [zBx Q];exact aC.out a K
         · rw [zBw Q];unfold TC;split <;> omega
      case measure=>simp [intOf];omega
  · obtain rfl:d=9:=oM;have a9:WaveS wr B u g l (fun _=>aP L k j) (q:Int) aA:=⟨S.blk,S.base,fun C c1=>by have:=S.rows C c1;simpa [c1] using this,S.bnd⟩;obtain ⟨_,eb,_⟩:=a9.cells;have dP:=a9.blk.frozen 9;have e1:=a9.blk.lt;have bB:=a9.set_n ((q:Int)+1);have cO:wrap64 ((q:Int)+1)=(q:Int)+1:=(by unfold wrap64;omega);have c0:Keep (fun a=>a=g∨16<=own a) w (wr.setCell ⟨g,9,none⟩ (.int .i64 ((q:Int)+1))):=Keep.setCell (F:=fun a=>a=g∨16<=own a) ar (p:=⟨g,9,none⟩) (.inl (.inl rfl)) _;obtain ⟨cf,cu,a4,aC⟩:=hqq4 bB c0 ax ay;clear S a9 bB ar c0 an ax ay aW;go_wp2_with fail;go_ret;refine ⟨rfl,u,⟨l,aA,?_⟩,a4.out,aC.out,cu.out⟩;rw [cq.out];exact cf.out
def xL (B d:Nat) (own:Nat->Nat) (L:List Nat) (g j:Nat) (w:World) (m:WaveE w B own d L) (aG:L[g]?=some j) (ad:∀n∈L,n < 257) (cH:L.length<=128):
 Calls prog 154 #[d,(g:Int)] w fun o w'=>o=.returned (.tuple #[(j:Int),.int .i64 0])/\∃own',WaveE w' B own' d (aF L g)/\(∀a,a < w.heap.size->own' a=own a)/\(∀a,w.heap.size<=a->own' a≠1)/\Keep (fun a=>a=d∨16<=own a) w w':=by
 obtain ⟨O,aH⟩:=zAc.1 aG;have aP:j < 257:=by rw [<-aH];exact ad _ (zBj O)
 have bj:=kY L g j (zCm O) ad aP;have bO:=nT j aP;have bP:=nV j;have bo:∀b,(aK L b (bE j b))[fP L g j b]?=some (gG j b):=fun b=>by have:=aBl L g b O;rw [aH] at this;exact this
 obtain ⟨l,dI,m⟩:=m;obtain ⟨q,ah⟩:=eqx L.length;rw [ah] at m O cH;have bB:(aF L g).length+1=q:=by rw [dE _ oM,ah]
 obtain ⟨cv,cu,cs⟩:=m.cells;have cx:=m.blk.frozen 10;have cF:=m.blk.lt;have dj:B<=w.heap.size:=zAk m.base.1 (zCm cF);obtain ⟨bU,K⟩:=m.vis ((VisK.alloc (VB.set_wave m.blk m.base.1 0) (.cells #[(g:Int)] 3)).1);have cB:d≠w.heap.size:=oM;have N:=Bk.new (w.setCell ⟨d,10,none⟩ (.int .i64 0)) 3 #[(g:Int)];rw [show (w.setCell ⟨d,10,none⟩ (.int .i64 0)).heap.size=w.heap.size by simp [World.setCell]] at N;have aE:Keep (fun a=>a=d∨16<=own a) w ((w.setCell ⟨d,10,none⟩ (.int .i64 0)).alloc (.cells #[(g:Int)] 3)):=(Keep.setCell (F:=fun a=>a=d∨16<=own a) (Keep.refl _ _) (p:=⟨d,10,none⟩) (.inl (.inl rfl)) _).alloc _;obtain ⟨r,av⟩:=eqx ((w.setCell ⟨d,10,none⟩ (.int .i64 0)).alloc (.cells #[(g:Int)] 3));rw [av] at K N aE;obtain ⟨t,ba,ct⟩:=K.cells;have d5:∀e,(r.drewN e).cell? d=some (l 0):=fun e=>t 0 oM;have I:∀e,(r.drewN e).cell? ⟨d,1,none⟩=some (l 1):=fun e=>t 1 oM;have aq:∀e,(r.drewN e).cell? ⟨d,2,none⟩=some (l 2):=fun e=>t 2 oM;have d6:∀e,(r.drewN e).cell? ⟨d,3,none⟩=some (l 3):=fun e=>t 3 oM;have d7:∀e,(r.drewN e).cell? ⟨d,4,none⟩=some (l 4):=fun e=>t 4 oM;have d8:∀e,(r.drewN e).cell? ⟨d,5,none⟩=some (l 5):=fun e=>t 5 oM;have d9:∀e,(r.drewN e).cell? ⟨d,6,none⟩=some (l 6):=fun e=>t 6 oM;have da:∀e,(r.drewN e).cell? ⟨d,7,none⟩=some (l 7):=fun e=>t 7 oM;have db:∀e,(r.drewN e).cell? ⟨d,8,none⟩=some (l 8):=fun e=>t 8 oM;have bb:r.cell? ⟨d,9,none⟩=some (.int .i64 (q:Int)):=ba;have bc:r.cell? w.heap.size=some (.int .i64 (g:Int)):=(N.cell 0).trans rfl;have cE:decide ((g:Int) < 0)=false:=by simp
 have dw:¬q<=g:=oM;have dl:=K.blk.lt;have dk:=N.lt;obtain ⟨aV,c9,ce,bW,cY,bZ,cd,c1,d1⟩:=hqq9 K N aE bj ad ah bB av O;obtain ⟨cZ,bt,cp,cq,c2,b3⟩:=hqq6 m.base m.bnd bO bP bo aG;have dc:∀e,(r.drewN e).cell? ⟨d,9,none⟩=some (.int .i64 (q:Int)):=fun e=>bb;have dd:∀e,(r.drewN e).cell? w.heap.size=some (.int .i64 (g:Int)):=fun e=>bc;clear m K N aE bj ad ah bB av cv t ba ct O bO bP bo aG aH;go_enter func154,ntmps154;go_wp2_with fail;rw [c1.out];clear cs cx cu;go_quiet (fail);clear bb bc cE;go_wp2_with fail;go_loopw [6,31] (fun cX aT wr=>∃(b:Nat) (i:Nat->Nat) (U:Int),b<=9/\aT=.int .i64 b/\cX=.int .i64 ((bE j b:Nat):Int)/\WaveS wr B i d l (fun s=>if s < b then aF L g else L) (q:Int) U/\Bk wr w.heap.size 3 #[.int .i64 ((fP L g j b:Nat):Int)]/\(∀a,a < w.heap.size->i a=own a)/\(∀a,w.heap.size<=a->i a≠1)/\i w.heap.size=0/\Keep (fun a=>a=d∨16<=own a) w wr) (fun _ aT _=>9 -(intOf aT).toNat)
 case atStart=>refine ⟨0,own,bU,by omega,rfl,by rw [cp.out];rfl,?_,?_,fun _ _=>rfl,fun a x o=>?_,?_,?_⟩;obtain ⟨bV,bi⟩:=aV.out.vis (Vis.of_below (below_drewN bR _));have:bV=bU:=(by have ao:=bi.cells.2.2;have ap:=aV.out.cells.2.2;have W:=ap.symm.trans ao;injection W with W;injection W with _ W;exact W.symm);subst this;simpa using bi;rw [bW.out];exact c9.out.drewN _;have:=(bt.out a oM).2;omega;rcases zBa (own w.heap.size) with o | o;exact o;have:=(bt.out w.heap.size oM).2;omega;exact ce.out.drewN _
 case round=>
  obtain ⟨b,i,U,dx,rfl,rfl,z,ae,ai,aj,aJ,af⟩:=hrel;by_cases Q:b < 9
  · have cD:=ix9 l b Q;obtain ⟨G,u,cI,aQ⟩:=z.rows b Q;obtain ⟨aU,ag⟩:=eqx (2 ^ b);obtain ⟨c,v⟩:=eqx (bE j b);have aM:c < aU:=(by rw [<-ag,<-v];exact lM j b aP oM);have bH:c < 2 ^ b:=(by rw [ag];exact aM);have cA:=lhd u;rw [ag] at u aQ;obtain ⟨au,ar,bn,dy,dv⟩:=World.ownsRow.form u oM;rw [bn] at cD u;obtain ⟨n,a5⟩:=eqx (fP L g j b);obtain ⟨k,A⟩:=eqx (fP L g j (b+1));obtain ⟨a,a1⟩:=eqx (gG j b);have aS:=kZ L g j b Q;have al:=c2.out b;have ax:=aEO b b3.out;have ay:=fun e=>yT b e b3.out;have ak:=nU j b Q;rw [v,a5,a1,A] at aS;rw [v,a5,a1] at al;rw [v,a5] at ax;rw [v] at ay;rw [v,a1] at ak;have bN:n < (aK L b c).length:=(zAc.1 al).1;have bM:(aK L b c).getD n false=a:=(by rw [zAb,al];rfl);rw [a5] at ae;rw [v];obtain ⟨cM,aN⟩:=eqx (bE j (b+1));rw [aN] at ak;have cJ:c<=1000:=(by have:=aJ3 Q bH;omega);have bL:TreeE wr (fun a=>i a=TC b c) (G c) (aK L b c):=(by have:=aQ c aM;rw [zBw oM] at this;exact this);have dB:(c:Int) < (aU:Int):=oM;obtain ⟨d3,b8,cn,aa,c6,c7,cm,ci,cj⟩:=hqq9 u bL aS bN ax ay bM ak aN;obtain ⟨d4,d0,co,a9,a8,V,an,b5,b2⟩:=hqq9 v a1 A z ae ai aj aJ af;clear aQ bn ag v a5 A a1 aS bN al ax ay bM ak aN z ae ai aj aJ af bL cI;obtain ⟨bQ,bS,bT⟩:=fJ G b aU c aM;have cr:wr.cell? ⟨au,c*3,none⟩=_:=(World.ownsRow.cellAt u (c*3) oM).trans bQ;have ao:wr.cell? ⟨au,c*3+1,none⟩=_:=(World.ownsRow.cellAt u (c*3+1) oM).trans bS;have ap:wr.cell? ⟨au,c*3+2,none⟩=_:=(World.ownsRow.cellAt u (c*3+2) oM).trans bT;have cL:wr.cell? w.heap.size=some (.int .i64 (n:Int)):=(a8.out.cell 0).trans rfl;have du:=a8.out.lt;clear bQ bS bT u;go_wp2_with fail;obtain ⟨ab,Y⟩:=eqx ((wr.alloc (.cells #[.pointer (some ⟨G c,0,none⟩),(b:Int),(c:Int)] 157)).alloc (.cells #[.bool false] 4));have br:Below wr.heap.size wr ab:=(by rw [<-Y];exact (bR.alloc nL _).alloc (by simp) _);have bq:Bk ab wr.heap.size 157 #[.pointer (some ⟨G c,0,none⟩),(b:Int),(c:Int)]:=(by rw [<-Y];exact (Bk.new wr _ _).alloc _);have bp:Bk ab (wr.heap.size+1) 4 #[.bool false]:=(by rw [<-Y];have m:=Bk.new (wr.alloc (.cells #[.pointer (some ⟨G c,0,none⟩),(b:Int),(c:Int)] 157)) 4 #[.bool false];rw [World.size_alloc] at m;exact m);rw [Y];obtain ⟨c4,c3,J⟩:=hqq3 bq bp br;clear bq bp br Y cr ao ap cL;obtain ⟨cO,bg⟩:=a9.out.vis (Vis.of_below J.out);have bx:=a8.out.below J.out a8.out.lt;have bI:=b8.out.below J.out;have bA:=a9.out.base.2;have bu:=a9.out.bnd;have dG:=J.out.size;have cC:=a9.out.blk.lt;obtain ⟨aW,cb,b7,cc,aY⟩:=hqq5 bg bx bI bA bu;clear bg bx bI bA bu;refine (mA d (G c) l q cO b c (aK L b c) n true ab aW.out.blk b7.out.at (zCm aa.out)).mono ?_;rintro o D ⟨rfl,y⟩;obtain ⟨S,aI⟩:=eqx (((aK L b c).take n).count true);have bG:(if a then S else n - S)=k:=(by have K:=pS ((aK L b c).take n);have cy:((aK L b c).take n).length=n:=(by rw [zAj];have:=aa.out;omega);have cz:=cn.out;cases a;simp;omega;simp;omega);have dz:S<=n:=(by rw [<-aI];exact zAk zBv (by rw [zAj];omega));rw [aI];obtain ⟨cP,bh⟩:=aW.out.vis y.1;have bJ:=b7.out.vis y.1;have aD:=y.1.bk cb.out dC dC;have M:=y.1.bk c4.out dC dC;have aw:=y.1.bk c3.out dC dC;have dH:=y.1.size;have cQ:D.cell? ⟨wr.heap.size,0,none⟩=some (.pointer (some ⟨G c,0,none⟩)):=(M.cell 0).trans rfl;have cR:D.cell? ⟨wr.heap.size,1,none⟩=some (.int .i64 (b:Int)):=(M.cell 1).trans rfl;have cS:D.cell? ⟨wr.heap.size,2,none⟩=some (.int .i64 (c:Int)):=(M.cell 2).trans rfl;have dq:=M.lt;have dn:=aw.lt;have dt:=aD.lt;have cG:∀(bd:Fn) (first ar:Array Value) (w:World),(Instr.makeFunc bd first ar).run prog w=.ok (.func bd first ar) w:=fun _ _ _ _=>rfl;obtain ⟨b4,am,cl,b0,c5,aX,b9⟩:=hqq7 bG bh bJ aD M aw y;clear aI bG bh bJ aD M aw y;go_wp2_with fail;have a7:∀k,wr.heap.size<=k->¬(i k=TC b c):=fun k A f=>by have:=(aY.out k (by rw [f];unfold TC;omega)).2;omega
    refine (aGV d (G c) w.heap.size (wr.heap.size+1) l q cP b c _ (fun a=>i a=TC b c) (aK L b c) n D am.out.blk cl.out (fun f=>by rw [cc.out] at f;unfold TC at f;omega) (a7 _ oM) (fun k A=>(am.out.bnd k (by rw [A];unfold TC;omega)).2) b0.out aX.out (fun k A o=>a7 k oM A) aa.out).mono ?_;rintro o E ⟨rfl,bK,a4,a2,bV,bs⟩;rw [cm.out] at a2
    have aC:=am.out.edit (lv:=b) (p:=c) (gx:=wr.heap.size+1) Q bH (aA (aR cA.out J.out) fun a cw _ aB=>b9.out.1.bk aB dC dC) (by
        rcases zBa (i (wr.heap.size+1)) with o | o;omega
        · have:=(aY.out _ (by omega:i (wr.heap.size+1)≠0)).2;omega) (fun cw aB=>absurd (aL aB aX.out).1 dC) bK a4 bs (L':=aF L g) c6.out (fun e cK=>by rw [zBw (zCl _)];exact c7.out e (fun o=>cK o.symm))
    have bv:(fun s=>if s=b then aF L g else if s < b then aF L g else L)=fun s=>if s < b+1 then aF L g else L:=by
        funext s;by_cases I:s=b
        · rw [zBx I,zBx oM]
        · by_cases aq:s < b
          · rw [zBw I,zBx aq,zBx oM]
          · rw [zBw I,zBw aq,zBw oM]
    rw [bv] at aC
    have bz:=a4.bk b0.out (fun f=>by
        rcases f with f | f | f;have ac:i w.heap.size=TC b c:=f;rw [b5.out] at ac;unfold TC at ac;omega;exact cB f.symm
        · omega)
    have a0:=a4.bk c5.out (fun f=>by
        rcases f with f | f | f;exact a7 _ nL f;omega
        · omega)
    have cT:E.cell? ⟨wr.heap.size,0,none⟩=some (.pointer (some ⟨G c,0,none⟩)):=(a0.cell 0).trans rfl;have cU:E.cell? ⟨wr.heap.size,1,none⟩=some (.int .i64 (b:Int)):=(a0.cell 1).trans rfl;have cV:E.cell? ⟨wr.heap.size,2,none⟩=some (.int .i64 (c:Int)):=(a0.cell 2).trans rfl;have cW:E.cell? ⟨wr.heap.size+1,0,none⟩=some (.bool a):=(a2.cell 0).trans rfl;have dr:=a0.lt;have dp:=a2.lt;have bl:i (G c)=TC b c:=b8.out.1;obtain ⟨c8,cf,b1,aZ,bY,d2⟩:=hqq6 aC a4 bz a2 bl a7;clear bK a4 bs aC bv bz a0 a2 cQ cR cS cG bl a7;go_wp2_with fail;refine (aDr (G c) b c a E cJ).mono ?_;rintro o C ⟨rfl,Z⟩;rw [<-ci.out];obtain ⟨cN,be⟩:=c8.out.vis (Vis.of_below Z);have a3:=b1.out.below Z b1.out.lt;have az:=aZ.out.below Z aZ.out.lt;have dK:C.cell? ⟨wr.heap.size+1,0,none⟩=some (.bool a):=(az.cell 0).trans rfl;have dL:C.cell? w.heap.size=some (.int .i64 (n:Int)):=(a3.cell 0).trans rfl;have dh:=a3.frozen 0;have ds:=a3.lt;have dm:=az.lt;have bw:=a3.set 0 (.int .i64 (k:Int));have aO:dD i D.heap.size E.heap.size (TC b c) w.heap.size=0:=(by unfold dD;rw [zBx oM];exact b5.out);have bf:=be.far (w':=C.setCell w.heap.size (.int .i64 (k:Int))) (H:=fun a=>a=w.heap.size) (Keep.setCell (F:=fun a=>a=w.heap.size) (Keep.refl _ _) (p:=w.heap.size) (.inl rfl) _) (fun a o=>by rw [show a=w.heap.size from o,aO];omega);have dF:=b2.out.size
    have bC:Keep (fun a=>a=d∨16<=own a) w (C.setCell w.heap.size (.int .i64 (k:Int))):=Keep.setCell (F:=fun a=>a=d∨16<=own a) ((((b2.out.trans (Keep.of_below J.out)).trans' b9.out.2 (fun a x f=>by
        rcases f with f | f;exact .inl f
        · right;rw [<-V.out a x,f,bY.out];unfold TC;omega)).trans' cf.out (fun a x f=>by
        rcases f with f | f | f;right;have ac:i a=TC b c:=f;rw [<-V.out a x,ac];unfold TC;omega;exact .inl f
        · omega)).trans (Keep.of_below Z)) (p:=w.heap.size) (.inr nL) _
    obtain ⟨bX,ca,cg,ck⟩:=hqq4 bf bw bC aO;clear Z be a3 az bw bf bC aO cT cU cV cW
    have hrel:∃(a6:Nat) (i:Nat->Nat) (U:Int),a6<=9/\Value.int .i64 ((b+1:Nat):Int)=.int .i64 a6/\Value.int .i64 (cM:Int)=.int .i64 ((bE j a6:Nat):Int)/\WaveS (C.setCell w.heap.size (.int .i64 (k:Int))) B i d l (fun s=>if s < a6 then aF L g else L) (q:Int) U/\Bk (C.setCell w.heap.size (.int .i64 (k:Int))) w.heap.size 3 #[.int .i64 ((fP L g j a6:Nat):Int)]/\(∀a,a < w.heap.size->i a=own a)/\(∀a,w.heap.size<=a->i a≠1)/\i w.heap.size=0/\Keep (fun a=>a=d∨16<=own a) w (C.setCell w.heap.size (.int .i64 (k:Int))):=by
        refine ⟨b+1,dD i D.heap.size E.heap.size (TC b c),cN,by omega,rfl,by rw [cj.out],bX.out,?_,fun a x=>?_,fun a x=>?_,ck.out,cg.out⟩;rw [co.out];exact ca.out;unfold dD;rw [zBx oM];exact V.out a x
        · unfold dD;by_cases I:a < D.heap.size;rw [zBx I];exact an.out a x
          · rw [zBw I];unfold TC;split <;> omega
    have b6:=lhd hrel;clear hrel;cases a with
    | true=>
      obtain rfl:S=k:=(by have:=b4.out;simpa using this);go_wp2_with fail;go_roundw
      case rel=>exact b6.out
      case measure=>simp [intOf];omega
    | false=>
      have dA:n - S=k:=(by have:=b4.out;simpa using this);have df:IntKind.i64.wrap ((n:Int) -(S:Int))=(k:Int):=(by have cy:=aa.out;have cz:(aK L b c).length<=L.length:=(by rw [iU];exact zBh);have di:=bZ.out;rw [IntKind.wrap_i64];omega);go_wp2_with fail;go_roundw
      case rel=>exact b6.out
      case measure=>simp [intOf];omega
  · obtain rfl:b=9:=oM;have X:WaveS wr B i d l (fun _=>aF L g) (q:Int) U:=⟨z.blk,z.base,fun s bF=>by have:=z.rows s bF;simpa [bF] using this,z.bnd⟩;obtain ⟨_,dJ,_⟩:=X.cells;have dg:=X.blk.frozen 9;have cC:=X.blk.lt;have bm:=X.set_n ((q:Int) - 1);have de:IntKind.i64.wrap ((q:Int) - 1)=(q:Int) - 1:=(by rw [IntKind.wrap_i64];omega);have bD:Keep (fun a=>a=d∨16<=own a) w (wr.setCell ⟨d,9,none⟩ (.int .i64 ((q:Int) - 1))):=Keep.setCell (F:=fun a=>a=d∨16<=own a) af (p:=⟨d,9,none⟩) (.inl (.inl rfl)) _;rw [cq.out];obtain ⟨c0,ch,V,an⟩:=hqq4 bm bD ai aj;clear z X bm af bD ae ai aj aJ;go_wp2_with fail;go_ret2;refine ⟨rfl,i,⟨l,U,?_⟩,V.out,an.out,ch.out⟩;rw [show (((aF L g).length:Nat):Int)=(q:Int) - 1 by have:=cd.out;omega];exact c0.out
def WalkT (w:World) (B gk:Nat) (L T:List Nat):Prop:=
 ∃b a,Bk w gk 100 #[.pointer (some ⟨b,0,none⟩),.pointer (some ⟨a,0,none⟩)]/\WaveAt w B b L/\Bk w a 199 (tcells T)
def WalkT.vis {w w':World} {B gk:Nat} {L T:List Nat} (d:WalkT w B gk L T) (a:Vis w w'):WalkT w' B gk L T:=by
 obtain ⟨c,b,e,f,g⟩:=d;exact ⟨c,b,a.bk e dC dC,f.vis a,a.bk g dC dC⟩
def qT (L T:List Nat) (a b:Nat):Nat:=T.countP (fun c=>decide (c < a))+(L.take b).count a
def aBp (B gk:Nat) (L T:List Nat) (w:World) (d:WalkT w B gk L T):
 Calls prog 96 #[gk] w fun a w'=>a=.returned (.int .i64 (L.length:Int))/\w=w':=by
 obtain ⟨c,i,b,e,f⟩:=d;have g:=b.cell 0;clear b f;go_enter func96,ntmps96;go_wp2_with fail;refine (tV B c L _ e).mono ?_;rintro a w' ⟨rfl,rfl⟩;go_wp2_with fail;go_ret;exact ⟨rfl,rfl⟩
def xO (B gk:Nat) (L T:List Nat) (a:Nat) (w:World) (k:WalkT w B gk L T) (o:a < 257) (n:T.length<=1000):
 Calls prog 153 #[gk,(a:Int)] w fun c w'=>c=.returned (.int .i64 ((T.countP (fun b=>decide (b < a)):Nat):Int))/\Below w.heap.size w w':=by
 obtain ⟨q,j,d,l,e⟩:=k;have p:=d.cell 1;clear d l;have i:=lhd e;clear e;go_enter func153,ntmps153;go_wp2_with fail;refine (jT j T a _ i.out o n).mono ?_;rintro c w' ⟨rfl,m⟩;obtain ⟨g,f⟩:∃g,T.countP (fun b=>decide (b < a))=g:=⟨_,rfl⟩;rw [f];go_wp2_with fail;go_ret;exact ⟨by rw [f];rfl,m⟩
def aCY (B gk:Nat) (L T:List Nat) (b:Nat) (w:World) (d:WalkT w B gk L T) (g:b < L.length):
 Calls prog 160 #[gk,(b:Int)] w fun c w'=>c=.returned (.bool true)/\w=w':=by
 obtain ⟨i,a⟩:=eqx L.length;rw [a] at g;have j:(b:Int) < (i:Int):=oM;obtain ⟨f,e⟩:=hqq2 a d;clear a d;go_enter func160,ntmps160;go_wp2_with fail;refine (aBp B gk L T w e.out).mono ?_;rintro c w' ⟨rfl,rfl⟩;rw [f.out];go_wp2_with fail;go_ret;exact ⟨rfl,rfl⟩
def oT (B gk:Nat) (L T:List Nat) (d b:Nat) (w:World) (C:WalkT w B gk L T) (n:L[d]?=some b) (t:∀v∈L,v < 257) (O:L.length<=1000) (J:T.length<=1000):
 Calls prog 101 #[gk,(d:Int)] w fun f w'=>f=.returned (.int .i64 ((qT L T b d:Nat):Int))/\VB B w w':=by
 have M:=(zAc.1 n).1;have Q:b < 257:=t _ (zAd n);have I:=C;obtain ⟨l,ak,m,E,a6⟩:=C;have a3:=m.cell 0;have an:=m.lt;obtain ⟨j,u⟩:=eqx (qT L T b d);obtain ⟨q,o⟩:∃aa,T.countP (fun v=>decide (v < b))=aa:=⟨_,rfl⟩;obtain ⟨r,p⟩:=eqx ((L.take d).count b);have N:q+r=j:=by rw [<-o,<-p,<-u];rfl
 have al:q<=1000:=by rw [<-o];exact zAk zBh J
 have am:r<=1000:=by rw [<-p];exact zAk zBv (by rw [zAj];omega)
 rw [u];obtain ⟨x,S,y,s,Y,z,A,W,a0⟩:=hqq9 I m E M n t O J o;obtain ⟨a1,Z⟩:=hqq2 p N;clear I m E a6 M n t O o p u N;go_enter func101,ntmps101;go_wp2_with fail;refine (aCY B gk L T d w x.out s.out).mono ?_;rintro f w1 ⟨rfl,rfl⟩;go_wp2_with fail;refine (eB B l L d b w y.out s.out (zAc.1 Y.out).2 z.out A.out).mono ?_;rintro f k ⟨rfl,i⟩;have K:=x.out.vis i.1;have D:=i.1.bk S.out dC dC;have H:=y.out.vis i.1;obtain ⟨X,U,V,a2⟩:=hqq4 K D H i;clear K D H i a3;go_wp2_with fail;refine wp_region_any kR ?_;refine aV [20,21,22,23,24,25,26,27,28,29,30,4] (VB B) (Vs [is gk,is (b:Int),is (q:Int),is gk,is gk,is gk,is l,is (d:Int),is (b:Int),is (r:Int),is (j:Int),is (j:Int)]) _ _ rfl kR vR (fun _ _=>VisK.trans) (cZ tA1) ?_ ?_
 · refine aO ?_;refine pH 0 (.pointer (some gk)) ?_;refine pH 5 (.int .i64 (b:Int)) ?_;refine sC (fun _ e a _ _ _ c _ _ _ g=>?_) ?_
   · have ad:_=_:=c 0 20 kR rfl;have ae:_=_:=c 1 21 kR rfl;replace a:(VB B) k e:=bD a;go_simp;refine (xO B gk L T b e (X.out.vis a.1) Q W.out).mono ?_;rintro f ac ⟨rfl,a7⟩;rw [a0.out];exact g _ _ (VisK.of_below a7) rfl
   refine pH 0 (.pointer (some gk)) ?_;refine pV 3 23 ?_;refine pV 4 24 ?_;refine pL 5 25 (fun e a=>have a:(VB B) k e:=bD a;(((a.1.bk U.out dC dC).cell 0).trans rfl:e.cell? gk=some (.pointer (some l)))) ?_;refine pH 1 (.int .i64 (d:Int)) ?_;refine pH 5 (.int .i64 (b:Int)) ?_;refine sC (fun _ e a _ _ _ c _ _ _ g=>?_) ?_
   · have ag:_=_:=c 6 26 kR rfl;have ah:_=_:=c 7 27 kR rfl;have ai:_=_:=c 8 28 kR rfl;replace a:(VB B) k e:=bD a;go_simp;refine (gY B l L d b e (V.out.vis a.1) Q (zCm s.out) z.out A.out).mono ?_;rintro f ac ⟨rfl,a9⟩;rw [a1.out];exact g _ _ a9 rfl
   refine sC (fun _ _ _ _ _ _ c _ _ _ g=>?_) ?_
   · have af:_=_:=c 2 22 kR rfl;have aj:_=_:=c 9 29 kR rfl;have ao:IntKind.i64.wrap ((q:Int)+(r:Int))=(j:Int):=(by rw [IntKind.wrap_i64];have:=Z.out;omega);go_simp;exact g _ _ vR rfl
   refine pV 10 30 ?_;exact aD
 · intro a5 ab a c;replace a:(VB B) k ab:=bD a;have a4:a5 (.tmp 4)=.int .i64 (j:Int):=c 11 4 rfl;simp only [zqq];rw [a4];clear c;have a8:=a2.out.trans a;go_wp2_with fail;go_ret;exact ⟨rfl,a8⟩
def WalkE (w:World) (B:Nat) (own:Nat->Nat) (gk:Nat) (L T:List Nat):Prop:=
 ∃b a,Bk w gk 100 #[.pointer (some ⟨b,0,none⟩),.pointer (some ⟨a,0,none⟩)]/\own gk=2/\WaveE w B own b L/\Bk w a 199 (tcells T)/\own a=2
section
variable {w w' : World} {B : Nat} {own own' : Nat -> Nat} {gk : Nat} {L T : List Nat}
def WalkE.atT (c:WalkE w B own gk L T):WalkT w B gk L T:=by
 obtain ⟨b,a,d,_,e,f,_⟩:=c;exact ⟨b,a,d,e.at,f⟩
def WalkE.at (d:WalkE w B own gk L T) (g:T.Perm L):WalkAt w B gk L:=by
 obtain ⟨c,b,e,_,f,a,_⟩:=d;rw [tJ g] at a;exact ⟨c,b,e,f.at,a⟩
def WalkE.vis (d:WalkE w B own gk L T) (a:Vis w w'):WalkE w' B own gk L T:=by
 obtain ⟨c,b,e,f,g,i,j⟩:=d;exact ⟨c,b,a.bk e dC dC,f,g.vis a,a.bk i dC dC,j⟩
def WalkE.far (g:WalkE w B own gk L T) {H:Nat->Prop} (d:Keep H w w') (c:∀a,H a->own a≠2/\own a < 16):WalkE w' B own gk L T:=by
 obtain ⟨f,e,i,j,k,l,m⟩:=g;exact ⟨f,e,d.bk i (fun b=>by have:=c _ b;omega),j,k.far d c,d.bk l (fun b=>by have:=c _ b;omega),m⟩
def WalkE.paint (k:WalkE w B own gk L T) (b:∀a,a < w.heap.size->2<=own a->own' a=own a) (l:∀a,own' a≠0->B<=a/\a < w.heap.size):WalkE w B own' gk L T:=by
 obtain ⟨j,i,c,e,f,d,g⟩:=k;exact ⟨j,i,c,by rw [b _ c.lt oM];exact e,f.paint b l,d,by rw [b _ d.lt oM];exact g⟩
def WalkE.tally {a:List Nat} (j:WalkE w B own gk L T) (k:T.Perm a):WalkE w B own gk L a:=by
 obtain ⟨i,g,c,d,e,b,f⟩:=j;rw [tJ k] at b;exact ⟨i,g,c,d,e,b,f⟩
def WaveE.bnd (b:WaveE w B own gk L):∀a,own a≠0->B<=a/\a < w.heap.size:=by
 obtain ⟨c,d,b⟩:=b;exact b.bnd
def WalkE.bnd (c:WalkE w B own gk L T):∀a,own a≠0->B<=a/\a < w.heap.size:=by
 obtain ⟨j,i,d,e,b,f,g⟩:=c;exact b.bnd
end
structure Grew (w w':World) (own own':Nat->Nat):Prop where
 old:∀b,b < w.heap.size->own' b=own b
 new:∀b,w.heap.size<=b->own' b≠1
 keep:Keep (fun b=>own b=2∨16<=own b) w w'
def Grew.refl {w:World} {own:Nat->Nat} (b:∀a,own a≠0->a < w.heap.size):Grew w w own own:=⟨fun _ _=>rfl,fun a d c=>by have:=b a oM;omega,Keep.refl _ _⟩
def Grew.trans {w w1 w':World} {own e own':Nat->Nat} (b:Grew w w1 own e) (d:Grew w1 w' e own'):Grew w w' own own':=by
 have i:=b.keep.size;refine ⟨fun a c=>(d.old a oM).trans (b.old a c),fun a c=>?_,b.keep.trans' d.keep fun a c g=>by rw [<-b.old a c];exact g⟩;by_cases f:a < w1.heap.size;rw [d.old a f];exact b.new a c;exact d.new a oM
def Grew.of_vb {B:Nat} {w w':World} {own:Nat->Nat} (c:Keep (fun a=>own a=2∨16<=own a) w w') (b:∀a,own a≠0->a < w.heap.size):Grew w w' own own:=⟨fun _ _=>rfl,fun a e d=>by have:=b a oM;omega,c⟩
def eQ (B gk:Nat) (own:Nat->Nat) (L T:List Nat) (f g:Nat) (w:World) (b:WalkE w B own gk L T) (Q:g < 257) (N:f<=L.length) (H:∀S∈L,S < 257) (O:L.length<=127):
 Calls prog 57 #[gk,(f:Int),(g:Int)] w fun n w'=>n=.returned (.tuple #[])/\∃own',WalkE w' B own' gk (aP L f g) T/\Grew w w' own own':=by
 obtain ⟨c,o,d,D,e,k,E⟩:=b;have C:w.cell? gk=some (.pointer (some c)):=(d.cell 0).trans rfl;have I:=d.lt;have M:own c=2:=by obtain ⟨m,v,b⟩:=e;exact b.base.2
 have J:gk≠c:=by obtain ⟨m,v,b⟩:=e;exact Bk.ne d b.blk dC
 have K:o≠c:=by obtain ⟨m,v,b⟩:=e;exact Bk.ne k b.blk dC
 obtain ⟨x,y,l⟩:=hqq3 d e k;clear d e k;go_enter func57,ntmps57;go_wp2_with fail;refine (xK B c own L f g w y.out Q N H O).mono ?_;rintro n w1 ⟨rfl,own',u,j,s,i⟩;have q:=i.bk x.out (fun a=>by rcases a with a | a;exact J a;omega);have t:=i.bk l.out (fun a=>by rcases a with a | a;exact K a;omega);have r:Grew w w1 own own':=⟨j,s,i.mono fun U _ a=>by rcases a with a | a;left;rw [a,M];right;exact a⟩;have A:=lhd r;have p:WalkE w1 B own' gk (aP L f g) T:=⟨c,o,q,by rw [j _ I];exact D,u,t,by rw [j _ l.out.lt];exact E⟩;have z:=lhd p;clear u j s i q t r p C;go_wp2_with fail;go_end0;exact ⟨rfl,own',z.out,A.out⟩
def gL (B gk:Nat) (own:Nat->Nat) (L T:List Nat) (f k:Nat) (w:World) (b:WalkE w B own gk L T) (s:L[f]?=some k) (J:∀S∈L,S < 257) (Q:L.length<=128):
 Calls prog 92 #[gk,(f:Int)] w fun n w'=>n=.returned (.int .i64 (k:Int))/\∃own',WalkE w' B own' gk (aF L f) T/\Grew w w' own own':=by
 obtain ⟨c,o,d,H,e,j,I⟩:=b;have E:w.cell? gk=some (.pointer (some c)):=(d.cell 0).trans rfl;have K:=d.lt;have O:own c=2:=by obtain ⟨m,x,b⟩:=e;exact b.base.2
 have M:gk≠c:=by obtain ⟨m,x,b⟩:=e;exact Bk.ne d b.blk dC
 have N:o≠c:=by obtain ⟨m,x,b⟩:=e;exact Bk.ne j b.blk dC
 obtain ⟨y,z,l,D⟩:=hqq4 d e j s;clear d e j s;go_enter func92,ntmps92;go_wp2_with fail;refine (xL B c own L f k w z.out D.out J Q).mono ?_;rintro n w1 ⟨rfl,own',v,i,t,g⟩;have q:=g.bk y.out (fun a=>by rcases a with a | a;exact M a;omega);have u:=g.bk l.out (fun a=>by rcases a with a | a;exact N a;omega);have r:Grew w w1 own own':=⟨i,t,g.mono fun U _ a=>by rcases a with a | a;left;rw [a,O];right;exact a⟩;have C:=lhd r;have p:WalkE w1 B own' gk (aF L f) T:=⟨c,o,q,by rw [i _ K];exact H,v,u,by rw [i _ l.out.lt];exact I⟩;have A:=lhd p;clear v i t g q u r p E;go_wp2_with fail;go_ret;exact ⟨rfl,own',A.out,C.out⟩
def jS (B gk:Nat) (own:Nat->Nat) (L T:List Nat) (a q b:Nat) (w:World) (m:WalkE w B own gk L T) (j:L[a]?=some q) (A:b < 257) (o:∀E∈L,E < 257) (z:L.length<=128):
 Calls prog 55 #[gk,(a:Int),(b:Int)] w fun c w'=>c=.returned (.tuple #[])/\∃own',WalkE w' B own' gk (L.set a b) T/\Grew w w' own own':=by
 have d:=(zAc.1 j).1;have H:=dE L d;have p:aP (aF L a) a b=L.set a b:=by
  apply List.ext_getElem?;intro e;rw [iR _ _ oM,zBm];by_cases f:e < a
  · rw [zBx f,zBw oM,dZ _ d,zBx f]
  · rw [zBw f];by_cases g:e=a
    · subst g;rw [zBx rfl,zBx rfl,zBx d]
    · rw [zBw g,zBw (fun c=>g c.symm),dZ _ d,zBw oM,show e - 1+1=e by omega]
 obtain ⟨t,x,y⟩:=hqq3 m j p;clear m j p;go_enter func55,ntmps55;go_wp2_with fail;refine (gL B gk own L T a q w t.out x.out o z).mono ?_;rintro c w1 ⟨rfl,C,n,k⟩;obtain ⟨u,r⟩:=hqq2 n k;clear n k;go_wp2_with fail;refine (eQ B gk C (aF L a) T a b w1 u.out A oM (oG o) oM).mono ?_;rintro c I ⟨rfl,D,i,l⟩;rw [y.out] at i;obtain ⟨v,s⟩:=hqq2 i (r.out.trans l);clear i l;go_wp2_with fail;go_end0;exact ⟨rfl,D,v.out,s.out⟩
def gC (B gk:Nat) (own:Nat->Nat) (L T:List Nat) (g:Nat) (w:World) (b:WalkE w B own gk L T) (S:g < 257) (K:T.length<=1000):
 Calls prog 58 #[gk,(g:Int),.int .i64 1] w fun d w'=>d=.returned (.tuple #[])/\WalkE w' B own gk L (T++ [g])/\Grew w w' own own:=by
 have M:=b.bnd;obtain ⟨m,e,f,J,n,l,o⟩:=b;have X:w.cell? ⟨gk,1,none⟩=some (.pointer (some e)):=(f.cell 1).trans rfl;have Y:=f.lt;have N:gk≠e:=Bk.ne f l dC;obtain ⟨v,x,i⟩:=hqq3 f n l;clear f n l;go_enter func58,ntmps58;go_wp2_with fail;refine (rO e T g w i.out S K).mono ?_;rintro d w1 ⟨rfl,t,c⟩;have q:=c.bk v.out N;have u:WaveE w1 B own m L:=by
  obtain ⟨A,W,b⟩:=x.out;refine ⟨A,W,c.bk b.blk (Bk.ne b.blk i.out dC),b.base,fun U O=>?_,fun a j=>⟨(b.bnd a j).1,zAl (b.bnd a j).2 c.size⟩⟩;obtain ⟨G,E,H,I⟩:=b.rows U O;exact ⟨G,aA E fun a C _ k=>c.bk k (Bk.ne k i.out dC),H,fun V Q=>(I V Q).keep c fun a Z C s k _ d=>by
   have D:a=e:=d;subst D;rw [(aL k i.out).1] at s;exact absurd s dC⟩
 have p:WalkE w1 B own gk L (T++ [g]):=⟨m,e,q,J,u,t,o⟩;have r:Grew w w1 own own:=Grew.of_vb (B:=B) (c.mono fun a _ d=>by left;rw [show a=e from d,o]) fun a j=>(M a j).2;obtain ⟨y,z⟩:=hqq2 p r;clear t c q u p r;go_wp2_with fail;go_end0;exact ⟨rfl,y.out,z.out⟩
def lD (B gk:Nat) (own:Nat->Nat) (L T i:List Nat) (l:Nat) (w:World) (b:WalkE w B own gk L T) (r:T.Perm (l::i)) (W:l < 257) (O:T.length<=1000):
 Calls prog 58 #[gk,(l:Int),.int .i64 (-1)] w fun d w'=>d=.returned (.tuple #[])/\WalkE w' B own gk L i/\Grew w w' own own:=by
 have Q:=b.bnd;obtain ⟨n,e,f,N,o,m,p⟩:=b;have a0:w.cell? ⟨gk,1,none⟩=some (.pointer (some e)):=(f.cell 1).trans rfl;have a1:=f.lt;have S:gk≠e:=Bk.ne f m dC;obtain ⟨y,z,g,D⟩:=hqq4 f o m r;clear f o m r;go_enter func58,ntmps58;go_wp2_with fail;refine (aBt e T i l w D.out g.out W O).mono ?_;rintro d w1 ⟨rfl,v,c⟩;have s:=c.bk y.out S;have x:WaveE w1 B own n L:=by
  obtain ⟨E,Z,b⟩:=z.out;refine ⟨E,Z,c.bk b.blk (Bk.ne b.blk g.out dC),b.base,fun X U=>?_,fun a j=>⟨(b.bnd a j).1,zAl (b.bnd a j).2 c.size⟩⟩;obtain ⟨G,J,K,M⟩:=b.rows X U;exact ⟨G,aA J fun a H _ k=>c.bk k (Bk.ne k g.out dC),K,fun Y V=>(M Y V).keep c fun a a2 H u k _ d=>by
   have I:a=e:=d;subst I;rw [(aL k g.out).1] at u;exact absurd u dC⟩
 have q:WalkE w1 B own gk L i:=⟨n,e,s,N,x,v,p⟩;have t:Grew w w1 own own:=Grew.of_vb (B:=B) (c.mono fun a _ d=>by left;rw [show a=e from d,p]) fun a j=>(Q a j).2;obtain ⟨A,C⟩:=hqq2 q t;clear v c s x q t;go_wp2_with fail;go_end0;exact ⟨rfl,A.out,C.out⟩
def PermAt.vis {w w':World} {B gp e:Nat} {j k l i:Value} {R P:Nat} {f:List Nat} {c:List (Nat×Nat)} {g:List Bool} {d:List Nat} (a:PermAt w B gp e j k l i R P f c g d) (b:Vis w w'):PermAt w' B gp e j k l i R P f c g d:=
 ⟨b.bk a.blk dC dC,b.own a.lrow dC dC,b.own a.orow dC dC,b.bk a.ar dC dC,b.own a.trow dC dC,b.own a.frow dC dC,a.apart,a.lt,a.lo⟩
def LiveAt.vis {w w':World} {c f gk gp e:Nat} {k l m:Value} {B g i:Nat} {L:List Nat} {d:List (Nat×Nat)} {j:List Bool} (a:LiveAt w c f gk gp e k l m B g i L d j) (b:Vis w w'):LiveAt w' c f gk gp e k l m B g i L d j:=
 ⟨b.bk a.blk dC dC,a.walk.vis b,a.perm.vis b⟩
def aHt (f:List Nat) (e d a c:Nat):(a,c)∈cW f e d↔a < d/\f.getD a 0=c/\c % e=0:=by
 unfold cW;rw [zAy];constructor;rintro ⟨k,b,g⟩;rw [zCv,zCj] at b;cases g;exact ⟨b.1,rfl,by simpa using b.2⟩;rintro ⟨i,rfl,j⟩;exact ⟨a,zCv.2 ⟨zCj.2 i,by simpa using j⟩,rfl⟩
def aAU (a:List (Nat×Nat)) (f:a.Pairwise (fun b c=>b.1 < c.1)):(List.range a.length).Pairwise (fun b c=>aB a b < aB a c):=by
 rw [zAr];intro i j d e g;rw [zCi] at d e;rw [List.getElem_range,List.getElem_range];have:=zAr.1 f i j d e g;unfold aB;rw [zAb,zAb,zAa d,zAa e];exact this
def aHu (c:List Nat) (b a:Nat):(cW c b a).length<=a:=by
 unfold cW;rw [zBc];exact zAk (zCu _ _) (by simp)
structure PermX (w:World) (F:Nat->Prop) (gp ga:Nat) (vl vo vt vf:Value) (R P:Nat) (ks:List Nat) (C:List (Nat×Nat)) (tk:List Bool) (fr:List Nat):Prop where
 at_:PermAt w 0 gp ga vl vo vt vf R P ks C tk fr
 fp:F gp
 fa:F ga
 fl:OwnF F vl
 fo:OwnF F vo
 ft:OwnF F vt
 ff:OwnF F vf
 nd:ks.Nodup
 tkl:tk.length=C.length
 tkk:∀k,tk[k]?=some true↔k∈ks
 frn:fr.Nodup
 frk:∀k,k∈fr↔tk[k]?=some false
 sz:C.length<=1000
def PermE (w:World) (F:Nat->Prop) (gp R P:Nat) (pr:List (Nat×Nat)):Prop:=
 (∃i l m n k c a j g,PermX w F gp i l m n k R P c a j g/\pr=c.map fun b=>(aB a b,aI a b))/\pr.Pairwise (fun e f=>e.1 < f.1)/\∀d∈pr,d.1 < R/\d.2 < P
def PermAt.vis2 {w w':World} {B gp e:Nat} {j k l i:Value} {R P:Nat} {f:List Nat} {c:List (Nat×Nat)} {g:List Bool} {d:List Nat} (a:PermAt w B gp e j k l i R P f c g d) (b:Vis w w'):PermAt w' B gp e j k l i R P f c g d:=
 ⟨b.bk a.blk dC dC,b.own a.lrow dC dC,b.own a.orow dC dC,b.bk a.ar dC dC,b.own a.trow dC dC,b.own a.frow dC dC,a.apart,a.lt,a.lo⟩
section
variable {w w' : World} {F G : Nat -> Prop} {gp R P : Nat} {pr : List (Nat × Nat)}
def PermE.vis (f:PermE w F gp R P pr) (j:Vis w w'):PermE w' F gp R P pr:=by
 obtain ⟨⟨e,n,o,p,m,k,b,l,d,a,c⟩,g,i⟩:=f;exact ⟨⟨e,n,o,p,m,k,b,l,d,⟨a.at_.vis2 j,a.fp,a.fa,a.fl,a.fo,a.ft,a.ff,a.nd,a.tkl,a.tkk,a.frn,a.frk,a.sz⟩,c⟩,g,i⟩
def PermE.mono (k:PermE w F gp R P pr) (e:∀a,a < w.heap.size->F a->G a):PermE w G gp R P pr:=by
 obtain ⟨⟨j,q,r,s,p,n,f,o,i,b,g⟩,l,m⟩:=k;have d:=b.at_;exact ⟨⟨j,q,r,s,p,n,f,o,i,⟨d,e _ d.blk.lt b.fp,e _ d.ar.lt b.fa,fun a c=>e a (d.lrow.lt a c).2 (b.fl a c),fun a c=>e a (d.orow.lt a c).2 (b.fo a c),fun a c=>e a (d.trow.lt a c).2 (b.ft a c),fun a c=>e a (d.frow.lt a c).2 (b.ff a c),b.nd,b.tkl,b.tkk,b.frn,b.frk,b.sz⟩,g⟩,l,m⟩
def PermE.keep (n:PermE w F gp R P pr) (g:Keep G w w') (f:∀b,F b->¬G b):PermE w' F gp R P pr:=by
 obtain ⟨⟨m,t,u,v,s,q,j,r,l,a,k⟩,o,p⟩:=n;have c:=a.at_;refine ⟨⟨m,t,u,v,s,q,j,r,l,⟨⟨g.bk c.blk (f _ a.fp),aA c.lrow fun b i d e=>g.bk e (f _ (a.fl b d)),aA c.orow fun b i d e=>g.bk e (f _ (a.fo b d)),g.bk c.ar (f _ a.fa),aA c.trow fun b i d e=>g.bk e (f _ (a.ft b d)),aA c.frow fun b i d e=>g.bk e (f _ (a.ff b d)),c.apart,c.lt,c.lo⟩,a.fp,a.fa,a.fl,a.fo,a.ft,a.ff,a.nd,a.tkl,a.tkk,a.frn,a.frk,a.sz⟩,k⟩,o,p⟩
def PermE.below (b:PermE w F gp R P pr) (c:Below w.heap.size w w'):PermE w' F gp R P pr:=b.keep (G:=fun _=>False) (Keep.of_below c) fun _ _ a=>a
end
def PermAt.set_rows {w:World} {B gp j:Nat} {n o q m:Value} {R P:Nat} {k:List Nat} {g:List (Nat×Nat)} {l:List Bool} {i:List Nat} (a:PermAt w B gp j n o q m R P k g l i) (e:Nat):PermAt (w.setCell ⟨gp,3,none⟩ (.int .i64 (e:Int))) B gp j n o q m e P k g l i:=by
 have d:Keep (fun c=>c=gp) w (w.setCell ⟨gp,3,none⟩ (.int .i64 (e:Int))):=Keep.setCell (F:=fun c=>c=gp) (Keep.refl _ _) (p:=⟨gp,3,none⟩) (.inl rfl) _;exact ⟨a.blk.set 3 _,aA a.lrow fun c f _ b=>d.bk b (Bk.ne b a.blk dC),aA a.orow fun c f _ b=>d.bk b (Bk.ne b a.blk dC),d.bk a.ar (Bk.ne a.ar a.blk dC),aA a.trow fun c f _ b=>d.bk b (Bk.ne b a.blk dC),aA a.frow fun c f _ b=>d.bk b (Bk.ne b a.blk dC),a.apart,a.lt,a.lo⟩
def PermAt.set_places {w:World} {B gp j:Nat} {n o q m:Value} {R P:Nat} {k:List Nat} {g:List (Nat×Nat)} {l:List Bool} {i:List Nat} (a:PermAt w B gp j n o q m R P k g l i) (e:Nat):PermAt (w.setCell ⟨gp,4,none⟩ (.int .i64 (e:Int))) B gp j n o q m R e k g l i:=by
 have d:Keep (fun c=>c=gp) w (w.setCell ⟨gp,4,none⟩ (.int .i64 (e:Int))):=Keep.setCell (F:=fun c=>c=gp) (Keep.refl _ _) (p:=⟨gp,4,none⟩) (.inl rfl) _;exact ⟨a.blk.set 4 _,aA a.lrow fun c f _ b=>d.bk b (Bk.ne b a.blk dC),aA a.orow fun c f _ b=>d.bk b (Bk.ne b a.blk dC),d.bk a.ar (Bk.ne a.ar a.blk dC),aA a.trow fun c f _ b=>d.bk b (Bk.ne b a.blk dC),aA a.frow fun c f _ b=>d.bk b (Bk.ne b a.blk dC),a.apart,a.lt,a.lo⟩
def aAY {d:List Nat} {b c:List (Nat×Nat)} {f:Nat×Nat->Nat×Nat} (e:∀a,a∈d->(aB c a,aI c a)=f (aB b a,aI b a)):(d.map fun a=>(aB c a,aI c a))=(d.map fun a=>(aB b a,aI b a)).map f:=by
 rw [zCh];exact List.map_congr_left fun a g=>e a g
def aKc {a b c:Nat} (d:a < b):inR a c < inR b c:=by
 unfold inR;split <;> split <;> omega
def gS:∀ {n:Nat} {a:List Nat},a.Nodup->(∀b∈a,b < n)->a.length<=n
 | 0,a,_,hl=>by
   cases a with
   | nil=>exact zAs _
   | cons b a=>exact absurd (hl b (by simp)) oM
 | n+1,a,h,hl=>by
   have d:=gS (n:=n) (h.erase n) fun b f=>by have e:=(h.mem_erase_iff).1 f;have:=hl b e.2;omega
   by_cases c:n∈a;have:=List.length_erase_of_mem c;omega;rw [List.erase_of_not_mem c] at d;omega
def zF (F:Nat->Prop) (gp R P b:Nat) (pr:List (Nat×Nat)) (w:World) (a5:PermE w F gp R P pr) (am:b<=R) (aj:R<=100000) (ai:P<=100000):
 Calls prog 59 #[gp,(b:Int)] w fun i w'=>i=.returned (.int .i64 0)/\PermE w' F gp (R+1) P (pr.map fun e=>(inR e.1 b,e.2))/\Keep F w w':=by
 obtain ⟨⟨r,o,x,y,v,k,d,u,q,j,rfl⟩,W,N⟩:=a5;have n:=j.at_;have a4:w.cell? ⟨gp,3,none⟩=some (.int .i64 (R:Int)):=(n.blk.cell 3).trans rfl;have ad:=n.blk.frozen 3;have a7:=n.blk.lt;have ap:¬((b:Int) > (R:Int)):=oM;have ao:¬R < b:=oM;have an:decide ((b:Int) < 0)=false:=by simp
 have ac:wrap64 ((R:Int)+1)=((R+1:Nat):Int):=by rw [dN oM oM];rfl
 obtain ⟨a,a3,z⟩:=hqq3 j W N;clear j n W N;go_enter func59,ntmps59;go_wp2_with fail;go_quiet (fail)
 rename_i nq
 have aa:∀Y,((w.alloc (.cells #[(b:Int)] 3)).drewN Y).cell? ⟨gp,3,none⟩=some (.int .i64 (R:Int)):=fun Y=>(World.cell?_alloc_lt w _ ⟨gp,3,none⟩ a7).trans a4;have al:∀(C:Fn) (first A:Array Value) (w:World),(Instr.makeFunc C first A).run prog w=.ok (.func C first A) w:=fun _ _ _ _=>rfl;go_wp2_with fail;have M:=a.out.at_.below (bR.alloc nL (.cells #[(b:Int)] 3));have I:PermAt ((w.alloc (.cells #[(b:Int)] 3)).drewN nq) 0 gp r o x y v R P k d u q:=M.below (below_drewN bR _);have J:=I.set_rows (R+1);have Q:Bk ((w.alloc (.cells #[(b:Int)] 3)).drewN nq) w.heap.size 3 #[(b:Int)]:=Bk.new w _ _;have S:=Q.far (p:=⟨gp,3,none⟩) (fun i=>by have ab:w.heap.size=gp:=i;omega) (.int .i64 ((R+1:Nat):Int));have X:∀g,o.ownBlock=some g->g≠w.heap.size:=fun g s i=>by have:=(a.out.at_.lrow.lt g s).2;omega
 have E:∀c,c∈k->aB d c<=1000000000000/\aI d c<=1000000000000:=fun c a8=>by have:=z.out (aB d c,aI d c) (zAy.2 ⟨c,a8,rfl⟩);have ae:aB d c < R:=this.1;have af:aI d c < P:=this.2;omega
 have ak:=gS a.out.nd a.out.at_.lt;refine (zO 0 gp r w.heap.size b o x y v (R+1) P k d u q _ J a.out.nd (by have:=a.out.sz;omega) S X E).mono ?_;rintro i Z ⟨rfl,U,a0,t,O,K⟩;have V:Keep F w Z:=(Keep.setCell (F:=F) (((Keep.refl _ _).alloc _).drewN _) (p:=⟨gp,3,none⟩) (.inl a.out.fp) _).trans (U.mono fun g _ s=>a.out.fl g s);have H:PermE Z F gp (R+1) P ((k.map fun c=>(aB d c,aI d c)).map fun e=>(inR e.1 b,e.2)):=by
  refine ⟨⟨r,o,x,y,v,k,a0,u,q,⟨K,a.out.fp,a.out.fa,a.out.fl,a.out.fo,a.out.ft,a.out.ff,a.out.nd,by rw [t];exact a.out.tkl,a.out.tkk,a.out.frn,a.out.frk,by rw [t];exact a.out.sz⟩,(aAY (f:=fun e=>(inR e.1 b,e.2)) O).symm⟩,?_,fun e j=>?_⟩;exact List.pairwise_map.2 (a3.out.imp fun {m g} a6=>aKc a6)
  · obtain ⟨l,a9,rfl⟩:=zAy.1 j;have:=z.out l a9;have D:∀m,inR m b<=m+1:=fun m=>by unfold inR;split <;> omega
    have ah:=D l.1;have ag:=D l.2;constructor;show inR l.1 b < _;omega;show l.2 < _;omega
 obtain ⟨a1,a2⟩:=hqq2 H V;clear V H K O U t E X S Q J I M;go_wp2_with fail;go_ret;exact ⟨rfl,a1.out,a2.out⟩
def zH (F:Nat->Prop) (gp R P b:Nat) (pr:List (Nat×Nat)) (w:World) (a5:PermE w F gp R P pr) (am:b<=P) (aj:R<=100000) (ai:P<=100000):
 Calls prog 60 #[gp,(b:Int)] w fun i w'=>i=.returned (.int .i64 0)/\PermE w' F gp R (P+1) (pr.map fun e=>(e.1,inR e.2 b))/\Keep F w w':=by
 obtain ⟨⟨r,o,x,y,v,k,d,u,q,j,rfl⟩,W,N⟩:=a5;have n:=j.at_;have a4:w.cell? ⟨gp,4,none⟩=some (.int .i64 (P:Int)):=(n.blk.cell 4).trans rfl;have ad:=n.blk.frozen 4;have a7:=n.blk.lt;have ap:¬((b:Int) > (P:Int)):=oM;have ao:¬P < b:=oM;have an:decide ((b:Int) < 0)=false:=by simp
 have ac:wrap64 ((P:Int)+1)=((P+1:Nat):Int):=by rw [dN oM oM];rfl
 obtain ⟨a,a3,z⟩:=hqq3 j W N;clear j n W N;go_enter func60,ntmps60;go_wp2_with fail;go_quiet (fail)
 rename_i nq
 have aa:∀Y,((w.alloc (.cells #[(b:Int)] 3)).drewN Y).cell? ⟨gp,4,none⟩=some (.int .i64 (P:Int)):=fun Y=>(World.cell?_alloc_lt w _ ⟨gp,4,none⟩ a7).trans a4;have al:∀(C:Fn) (first A:Array Value) (w:World),(Instr.makeFunc C first A).run prog w=.ok (.func C first A) w:=fun _ _ _ _=>rfl;go_wp2_with fail;have M:=a.out.at_.below (bR.alloc nL (.cells #[(b:Int)] 3));have I:PermAt ((w.alloc (.cells #[(b:Int)] 3)).drewN nq) 0 gp r o x y v R P k d u q:=M.below (below_drewN bR _);have J:=I.set_places (P+1);have Q:Bk ((w.alloc (.cells #[(b:Int)] 3)).drewN nq) w.heap.size 3 #[(b:Int)]:=Bk.new w _ _;have S:=Q.far (p:=⟨gp,4,none⟩) (fun i=>by have ab:w.heap.size=gp:=i;omega) (.int .i64 ((P+1:Nat):Int));have X:∀g,o.ownBlock=some g->g≠w.heap.size:=fun g s i=>by have:=(a.out.at_.lrow.lt g s).2;omega
 have E:∀c,c∈k->aB d c<=1000000000000/\aI d c<=1000000000000:=fun c a8=>by have:=z.out (aB d c,aI d c) (zAy.2 ⟨c,a8,rfl⟩);have ae:aB d c < R:=this.1;have af:aI d c < P:=this.2;omega
 have ak:=gS a.out.nd a.out.at_.lt;refine (zP 0 gp r w.heap.size b o x y v R (P+1) k d u q _ J a.out.nd (by have:=a.out.sz;omega) S X E).mono ?_;rintro i Z ⟨rfl,U,a0,t,O,K⟩;have V:Keep F w Z:=(Keep.setCell (F:=F) (((Keep.refl _ _).alloc _).drewN _) (p:=⟨gp,4,none⟩) (.inl a.out.fp) _).trans (U.mono fun g _ s=>a.out.fl g s);have H:PermE Z F gp R (P+1) ((k.map fun c=>(aB d c,aI d c)).map fun e=>(e.1,inR e.2 b)):=by
  refine ⟨⟨r,o,x,y,v,k,a0,u,q,⟨K,a.out.fp,a.out.fa,a.out.fl,a.out.fo,a.out.ft,a.out.ff,a.out.nd,by rw [t];exact a.out.tkl,a.out.tkk,a.out.frn,a.out.frk,by rw [t];exact a.out.sz⟩,(aAY (f:=fun e=>(e.1,inR e.2 b)) O).symm⟩,?_,fun e j=>?_⟩;exact List.pairwise_map.2 (a3.out.imp fun {m g} a6=>a6)
  · obtain ⟨l,a9,rfl⟩:=zAy.1 j;have:=z.out l a9;have D:∀m,inR m b<=m+1:=fun m=>by unfold inR;split <;> omega
    have ah:=D l.1;have ag:=D l.2;constructor;show l.1 < _;omega;show inR l.2 b < _;omega
 obtain ⟨a1,a2⟩:=hqq2 H V;clear V H K O U t E X S Q J I M;go_wp2_with fail;go_ret;exact ⟨rfl,a1.out,a2.out⟩
end
section
open Go.RowKit Go.Shelf
def PermR (w:World) (gp R P:Nat) (pr:List (Nat×Nat)):Prop:=
 ∃B g k l m j b a i f,PermAt w B gp g k l m j R P b a i f/\b.Pairwise (fun d e=>aB a d < aB a e)/\a.length<=1000/\b.length<=1000/\pr=b.map fun c=>(aB a c,aI a c)
def PermR.le {w:World} {gp R P:Nat} {pr:List (Nat×Nat)} (a:PermR w gp R P pr):pr.length<=1000:=by
 obtain ⟨B,e,m,n,o,l,j,c,k,d,f,g,i,b,rfl⟩:=a;rw [zBc];exact b
def PermR.vis {w w':World} {gp R P:Nat} {pr:List (Nat×Nat)} (d:PermR w gp R P pr) (g:Vis w w'):PermR w' gp R P pr:=by
 obtain ⟨B,c,l,m,n,k,i,a,j,b,e,f⟩:=d;exact ⟨B,c,l,m,n,k,i,a,j,b,e.vis g,f⟩
def PermR.lt {w:World} {gp R P:Nat} {pr:List (Nat×Nat)} (a:PermR w gp R P pr):gp < w.heap.size:=by
 obtain ⟨B,e,k,l,m,j,g,c,i,d,b,f⟩:=a;exact b.blk.lt
def aBN (B gp ae:Nat) (ay az aA ax:Value) (R P:Nat) (d:List Nat) (c:List (Nat×Nat)) (au:List Bool) (ac:List Nat) (w:World) (e:PermAt w B gp ae ay az aA ax R P d c au ac) (af:c.length<=1000) (ag:d.length<=1000):
 Calls prog 127 #[gp] w (lF w (d.map fun a=>(aB c a,aI c a))):=by
 obtain ⟨ar,ak,ao,ap,aq⟩:=info_parts sR;have Q:=e.orow;obtain ⟨Y,a6,rfl,_,_⟩:=aQ Q;obtain ⟨X,H,rfl,_,_⟩:=aQ e.lrow;have s:w.cell? ⟨gp,1,none⟩=some (.slice X c.length H):=(e.blk.cell 1).trans rfl;have I:w.cell? ⟨gp,2,none⟩=some (.slice Y d.length a6):=(e.blk.cell 2).trans rfl;have aj:=e.blk.lt;obtain ⟨E,u⟩:=eqx c.length;obtain ⟨j,l⟩:=eqx d.length;obtain ⟨pr,m⟩:∃pr,(d.map fun a=>(aB c a,aI c a))=pr:=⟨_,rfl⟩;have S:pr.length=j:=by rw [<-m,zBc,l]
 rw [m];obtain ⟨C,a3,a0,a5,o⟩:=hqq5 e l u m S;rw [u] at s af;rw [l] at I ag;clear e Q l u m S;unfold lF;go_enter func127,ntmps127;go_wp2_with fail;go_loopw [3,13] (fun av A wr=>∃a:Nat,a<=j/\A=.int .i64 (a:Int)/\wr.ownsRow w.heap.size 170 2 av a (bW (pr.take a))/\Below w.heap.size w wr) (fun _ A _=>j -(intOf A).toNat)
 case atStart=>exact ⟨0,zAp _,rfl,World.ownsRow_nil _ _ _ _,Below.refl _ _⟩
 case round=>
  obtain ⟨a,aH,rfl,g,f⟩:=hrel;have U:=f.size;by_cases al:a < j
  · have M:a < d.length:=(by rw [a3.out];exact al);obtain ⟨b,k⟩:∃b,d[a]?=some b:=⟨_,zAa M⟩;have y:b < c.length:=C.out.lt b (zAd k);have aG:b < E:=(by rw [<-a0.out];exact y);have i:=C.out.below f;have z:=i.orow;obtain ⟨ad,aL,ab,_,aF⟩:=World.ownsRow.form z oM;obtain ⟨t,aK,aa,_,aE⟩:=World.ownsRow.form i.lrow oM;injection ab with e2a _ _;injection aa with e1a _ _;subst e2a;subst e1a;have aC:wr.cell? ⟨ad,a,none⟩=some (.int .i64 (b:Int)):=(World.ownsRow.cellAt z a oM).trans (by rw [zAf,k];rfl);obtain ⟨V,W⟩:=cK c b y;have a8:wr.cell? ⟨t,b*2,none⟩=_:=(World.ownsRow.cellAt i.lrow (b*2) oM).trans V;have a9:wr.cell? ⟨t,b*2+1,none⟩=_:=(World.ownsRow.cellAt i.lrow (b*2+1) oM).trans W;have aD:wr.cell? ⟨gp,1,none⟩=some (.slice (some t) E H):=(f.cell (p:=⟨gp,1,none⟩) aj).trans s;obtain ⟨q,v⟩:=eqx (aB c b);obtain ⟨r,x⟩:=eqx (aI c b);have O:bW (pr.take (a+1))=bW (pr.take a)++ [.int .i64 (q:Int),.int .i64 (r:Int)]:=(by have ai:pr[a]?=some (q,r):=(by rw [<-a5.out,zAf,k,<-v,<-x];rfl);rw [zAv,ai];show bW (pr.take a++ [(q,r)])=_;rw [kB];rfl);rw [v] at a8;rw [x] at a9;obtain ⟨D,n,a4⟩:=hqq3 g f O;clear g f O i z V W s I v x k y M;go_wp2_with (at_builtin;refine bO _ rfl (.tmp 17) (.tmp 25) _ rfl w.heap.size 170 ar (.agg #[.int .i64 0,.int .i64 0]) 2 16 underlying109 ak ao ap aq rfl dC _ a _ rfl D.out rfl rfl (by simp [Value.oneCell']) (by unfold maxLen;omega) oM U ?_;intro aw aM am K aJ ah);have J:=aZ n.out D.out K U;have a1:=lhd J;clear J K ah;exact ⟨⟨aw,_,_,⟨a+1,by omega,by go_num,by rw [a4.out];exact am,a1.out⟩,rfl,rfl,rfl⟩,by simp [intOf];omega⟩
  · obtain rfl:a=j:=oM;have an:pr.take a=pr:=zAg (by rw [o.out];exact zAs _);rw [an] at g;obtain ⟨Z,a7,rfl,N⟩:=aT g;obtain ⟨a2,n⟩:=hqq2 N f;clear g N f;go_wp2_with fail;go_ret;exact ⟨Z,a7,by rw [o.out];rfl,by rw [o.out];exact a2.out,n.out⟩
def rW (gp R P:Nat) (pr:List (Nat×Nat)) (w:World) (d:PermR w gp R P pr):
 Calls prog 127 #[gp] w (lF w pr):=by
 obtain ⟨B,c,l,m,n,k,i,a,j,b,e,o,f,g,rfl⟩:=d;exact aBN B gp c l m n k R P i a j b w e f g
def eF (pr:List (Nat×Nat)) (b:Nat) (d:Int):Prop:=(d=-1/\∀a∈pr,a.2 < b)∨∃a∈pr,d=((a.2:Nat):Int)/\b<=a.2/\∀c∈pr,b<=c.2->a.2<=c.2
def wO {l:List (Nat×Nat)} {f:Nat} {m:Int} (p:eF l f m) (g a:Nat):eF (l++(some (g,a)).toList) f (if f<=a/\(m < 0∨(a:Int) < m) then (a:Int) else m):=by
 have e:∀b:Nat×Nat,b∈l++(some (g,a)).toList↔b∈l∨b=(g,a):=fun b=>by simp
 rcases p with ⟨rfl,k⟩|⟨j,q,rfl,k,n⟩;by_cases d:f<=a;rw [zBx ⟨d,.inl oM⟩];refine .inr ⟨(g,a),(e _).2 (.inr rfl),rfl,d,fun b c i=>?_⟩;rcases (e b).1 c with c | rfl;have:=k b c;omega;exact zAs _;rw [zBw (fun o=>d o.1)];refine .inl ⟨rfl,fun b c=>?_⟩;rcases (e b).1 c with c | rfl;exact k b c;show a < f;omega;by_cases d:f<=a/\((j.2:Int) < 0∨(a:Int) < (j.2:Int));rw [zBx d];have r:a < j.2:=oM;refine .inr ⟨(g,a),(e _).2 (.inr rfl),rfl,d.1,fun b c i=>?_⟩;rcases (e b).1 c with c | rfl;have:=n b c i;show a<=_;omega;exact zAs _;rw [zBw d];refine .inr ⟨j,(e _).2 (.inl q),rfl,k,fun b c i=>?_⟩;rcases (e b).1 c with c | rfl;exact n b c i;have s:f<=a:=i;show j.2<=a;omega
def tE (w:World) (b:List (Nat×Nat)) (d:Nat) (c:Ending) (w':World):Prop:=∃a,c=.returned (.int .i64 a)/\eF b d a/\Below w.heap.size w w'
def oV (gp R P:Nat) (b:List (Nat×Nat)) (e:Nat) (w:World) (q:PermR w gp R P b):
 Calls prog 99 #[gp,(e:Int)] w (tE w b e):=by
 have n:=rW gp R P b w q;have Z:=q.le;unfold lF at n;obtain ⟨o,u⟩:=eqx b.length;rw [u] at n Z;have z:=lhd u;clear q u;unfold tE;go_enter func99,ntmps99;go_wp2_with fail;refine n.mono ?_;rintro aa w1 ⟨a6,a9,rfl,K,D⟩;clear n;obtain ⟨V,y⟩:=hqq2 K D;clear K D;go_wp2_with fail;go_loopw [5,11] (fun a5 v wr=>∃(a:Nat) (d:Int),a<=o/\v=.int .i64 (a:Int)/\a5=.int .i64 d/\eF (b.take a) e d/\Below w1.heap.size w1 wr) (fun _ v _=>o -(intOf v).toNat)
 case atStart=>exact ⟨0,-1,zAp _,rfl,rfl,.inl ⟨rfl,fun ag a2=>by simp at a2⟩,Below.refl _ _⟩
 case round=>
  obtain ⟨a,d,ac,rfl,rfl,j,i⟩:=hrel;have a1:=i.size;by_cases a0:a < o
  · have J:a < b.length:=(by rw [z.out];exact a0);have N:=V.out.rd.below (i.mono (B:=w1.heap.size) nL);obtain ⟨a8,af,rfl,ab,t⟩:=N.2 oM;obtain ⟨Q,S⟩:=cK b a J;have X:=t _ _ Q;have Y:=t _ _ S;obtain ⟨p,r⟩:=eqx (aB b a);obtain ⟨c,s⟩:=eqx (aI b a);rw [r] at X;rw [s,<-Nat.add_assoc] at Y;have I:b[a]?=some (p,c):=(by rw [<-r,<-s];unfold aB aI;rw [zAb,zAa J];rfl);have M:∀x:Int,x=(if e<=c/\(d < 0∨(c:Int) < d) then (c:Int) else d)->eF (b.take (a+1)) e x:=fun x a3=>by rw [zAv,I,a3];exact wO j p c
    obtain ⟨l,a7⟩:=hqq2 M i;have E:Below w1.heap.size w1 (wr.alloc (.cells #[(p:Int),(c:Int)] 170)):=i.alloc a1 _;have k:=lhd E;clear j i N t Q S r s E M I;by_cases m:e<=c
    · have a4:decide (e<=c)=true:=zBz m;by_cases A:d < 0
      · have f:eF (b.take (a+1)) e (c:Int):=l.out (c:Int) (by rw [zBx ⟨m,.inl A⟩]);have g:=lhd f;clear f;go_wp2_with fail;go_roundw
        case rel=>exact ⟨a+1,(c:Int),by omega,by go_num,by first | rfl | trivial,g.out,k.out⟩
        case measure=>simp [intOf];omega
      · have ad:decide (d < 0)=false:=zBy A;by_cases C:(c:Int) < d
        · have f:eF (b.take (a+1)) e (c:Int):=l.out (c:Int) (by rw [zBx ⟨m,.inr C⟩]);have g:=lhd f;clear f;go_wp2_with fail;go_roundw
          case rel=>exact ⟨a+1,(c:Int),by omega,by go_num,by first | rfl | trivial,g.out,k.out⟩
          case measure=>simp [intOf];omega
        · have ae:decide ((c:Int) < d)=false:=zBy C;have f:eF (b.take (a+1)) e d:=l.out d (by rw [zBw oM]);have g:=lhd f;clear f;go_wp2_with fail;go_roundw
          case rel=>exact ⟨a+1,d,by omega,by go_num,by first | rfl | trivial,g.out,k.out⟩
          case measure=>simp [intOf];omega
    · have a4:decide (e<=c)=false:=zBy m;have f:eF (b.take (a+1)) e d:=l.out d (by rw [zBw oM]);have g:=lhd f;clear f;go_wp2_with fail;go_roundw
      case rel=>exact ⟨a+1,d,by omega,by go_num,by first | rfl | trivial,g.out,k.out⟩
      case measure=>simp [intOf];omega
  · obtain rfl:a=o:=oM;have H:=y.out.trans (i.mono y.out.size);have U:=lhd H;have O:b.take a=b:=zAg (by rw [z.out];exact zAs _);rw [O] at j;have W:=lhd j;clear H j i O;go_wp2_with fail;go_ret;exact ⟨d,rfl,W.out,U.out⟩
def aDe (w:World) (d:List Nat) (b:List (Nat×Nat)) (e:Nat) (c:Ending) (w':World):Prop:=∃a,a∈d/\aI b a=e/\c=.returned (.int .i64 ((aB b a:Nat):Int))/\Below w.heap.size w w'
def aBI (B gp u:Nat) (E H I D:Value) (R P:Nat) (d:List Nat) (a:List (Nat×Nat)) (C:List Bool) (r:List Nat) (g:Nat) (w:World) (e:PermAt w B gp u E H I D R P d a C r) (X:d.length<=1099511627776) (a7:a.length<=1099511627776) (v:∃j∈d,aI a j=g):
 Calls prog 100 #[gp,(g:Int)] w (aDe w d a g):=by
 have n:=iW B gp u E H I D R P d a C r g w e X;obtain ⟨k,c,y,m,z⟩:=tQ (p:=fun j=>decide (aI a j=g)) (l:=d) (by obtain ⟨j,Y,Z⟩:=v;exact ⟨j,Y,zBz Z⟩) 0;rw [y,zBi] at n;have A:aI a c=g:=of_decide_eq_true z;have af:k < d.length:=(zAc.1 m).1;have a2:c < a.length:=e.lt c (zAd m);obtain ⟨s,S,a1,ab,V⟩:=World.ownsRow.form e.orow oM;obtain ⟨t,U,a0,ac,W⟩:=World.ownsRow.form e.lrow oM;subst a1;subst a0;have x:=(cK a c a2).1;obtain ⟨J,q,O,M⟩:=hqq4 e m A x;have ae:(k:Int) < (d.length:Int):=oM;have ag:(c:Int) < (a.length:Int):=oM;have ad:decide ((k:Int) < 0)=false:=by simp
 clear e y m z A x v;unfold aDe;go_enter func100,ntmps100;go_wp2_with fail;refine n.mono ?_;rintro a6 w1 ⟨rfl,i⟩;have f:=J.out.below i;have a3:∀b,(w1.drewN b).cell? ⟨gp,1,none⟩=some (.slice (some t) a.length U):=fun b=>(f.blk.cell 1).trans rfl;have a4:∀b,(w1.drewN b).cell? ⟨gp,2,none⟩=some (.slice (some s) d.length S):=fun b=>(f.blk.cell 2).trans rfl;have aa:=f.blk.lt;have a5:∀b,(w1.drewN b).cell? ⟨s,k,none⟩=some (.int .i64 (c:Int)):=fun b=>(World.ownsRow.cellAt f.orow k oM).trans (by rw [zAf,q.out];rfl);have Q:∀b,(w1.drewN b).cell? ⟨t,c*2,none⟩=some (.int .i64 ((aB a c:Nat):Int)):=fun b=>(World.ownsRow.cellAt f.lrow (c*2) oM).trans M.out;have K:=lhd i;have a8:=zAl V i.size;have a9:=zAl W i.size;obtain ⟨ah,o⟩:=eqx (aB a c);rw [o] at Q;have N:=lhd o;clear n i f o;go_wp2_with fail;go_quiet (fail);go_wp2_with fail;go_ret;exact ⟨c,zAd q.out,O.out,by rw [N.out];rfl,below_drewN K.out _⟩
def yC (w:World) (pr:List (Nat×Nat)) (c:Nat) (b:Ending) (w':World):Prop:=∃a,(a,c)∈pr/\b=.returned (.int .i64 (a:Int))/\Below w.heap.size w w'
def rU (gp R P:Nat) (pr:List (Nat×Nat)) (b:Nat) (w:World) (k:PermR w gp R P pr) (n:∃g∈pr,g.2=b):
 Calls prog 100 #[gp,(b:Int)] w (yC w pr b):=by
 obtain ⟨B,j,u,v,x,t,f,d,s,i,l,y,z,A,rfl⟩:=k;have o:∃a∈f,aI d a=b:=by obtain ⟨g,r,e⟩:=n;obtain ⟨a,c,rfl⟩:=zAy.1 r;exact ⟨a,c,e⟩
 have q:=aBI B gp j u v x t R P f d s i b w l oM oM o;refine q.mono ?_;rintro e w' ⟨a,c,p,rfl,m⟩;exact ⟨_,zAy.2 ⟨a,c,by rw [p]⟩,rfl,m⟩
def zE (gp R P:Nat) (pr:List (Nat×Nat)) (a:Nat) (w:World) (o:PermR w gp R P pr) (i:∀y∈pr,y.2≠a):
 Calls prog 100 #[gp,(a:Int)] w fun e w'=>e=.returned (.int .i64 (-1))/\Below w.heap.size w w':=by
 obtain ⟨B,n,u,v,x,t,j,d,s,m,f,q,z,A,rfl⟩:=o;have b:=iW B gp n u v x t R P j d s m a w f oM;rw [kG (p:=fun c=>decide (aI d c=a)) (l:=j) (fun c r=>zBy (i _ (zAy.2 ⟨c,r,rfl⟩))) 0] at b;clear f q i;go_enter func100,ntmps100;go_wp2_with fail;refine b.mono ?_;rintro e w1 ⟨rfl,g⟩;have k:=lhd g;clear b g;go_wp2_with fail;go_ret;exact ⟨rfl,k.out⟩
end
end Go.Proofs.YthldmddkfbijhaaGreatDoor
