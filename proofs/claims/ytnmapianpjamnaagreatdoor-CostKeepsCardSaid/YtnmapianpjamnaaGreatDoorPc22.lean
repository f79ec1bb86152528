/- Lemmas of the walk. Conditions: each its own. -/
import Derived.Test.YtnmapianpjamnaaGreatDoorPc18
import Derived.Test.YtnmapianpjamnaaGreatDoorPc19
import Derived.Test.YtnmapianpjamnaaGreatDoorProg
import Derived.Test.YtnmapianpjamnaaGreatDoorShl
set_option linter.all false
set_option maxRecDepth 100000
set_option maxHeartbeats 4000000
open Go.Proofs.Tryz
namespace Go.Proofs.YtnmapianpjamnaaGreatDoor
open Go.RowKit
def rB (B c:Nat) (own:Nat->Nat) (L:List Nat) (f i:Nat) (w:World) (l:WaveE w B own c L) (aG:L[f]?=some i) (ac:∀m∈L,m < 257) (cI:L.length<=896):
 Calls prog 176 #[c,(f:Int)] w fun n w'=>n=.returned (.tuple #[(i:Int),.int .i64 0])/\∃own',WaveE w' B own' c (aC L f)/\(∀a,a < w.heap.size->own' a=own a)/\(∀a,w.heap.size<=a->own' a≠1)/\Keep (fun a=>a=c∨16<=own a) w w':=by
 obtain ⟨N,aH⟩:=zAc.1 aG;have aQ:i < 257:=by rw [<-aH];exact ac _ (zBj N)
 have bj:=iP L f i (zCk N) ac aQ;have bO:=kS i aQ;have bP:=kU i;have bo:∀lv,(aF L lv (aP i lv))[dZ L f i lv]?=some (eH i lv):=fun lv=>by have:=vS L f lv N;rw [aH] at this;exact this
 obtain ⟨k,dG,l⟩:=l;obtain ⟨o,ag⟩:=eqx L.length;rw [ag] at l N cI;have bB:(aC L f).length+1=o:=by rw [bF _ oM,ag]
 obtain ⟨cv,cu,cs⟩:=l.cells;have cx:=l.blk.frozen 10;have cG:=l.blk.lt;have hB:B<=w.heap.size:=zAk l.base.1 (zCk cG);obtain ⟨bU,J⟩:=l.vis ((VisK.alloc (VB.set_wave l.blk l.base.1 0) (.cells #[(f:Int)] 3)).1);have cC:c≠w.heap.size:=oM;have M:=Bk.new (w.setCell ⟨c,10,none⟩ (.int .i64 0)) 3 #[(f:Int)];rw [show (w.setCell ⟨c,10,none⟩ (.int .i64 0)).heap.size=w.heap.size by simp [World.setCell]] at M;have aE:Keep (fun a=>a=c∨16<=own a) w ((w.setCell ⟨c,10,none⟩ (.int .i64 0)).alloc (.cells #[(f:Int)] 3)):=(Keep.setCell (F:=fun a=>a=c∨16<=own a) (Keep.refl _ _) (p:=⟨c,10,none⟩) (.inl (.inl rfl)) _).alloc _;obtain ⟨q,au⟩:=eqx ((w.setCell ⟨c,10,none⟩ (.int .i64 0)).alloc (.cells #[(f:Int)] 3));rw [au] at J M aE;obtain ⟨s,ba,ct⟩:=J.cells;have d6:∀d,(q.drewN d).cell? c=some (k 0):=fun d=>s 0 oM;have E:∀d,(q.drewN d).cell? ⟨c,1,none⟩=some (k 1):=fun d=>s 1 oM;have ap:∀d,(q.drewN d).cell? ⟨c,2,none⟩=some (k 2):=fun d=>s 2 oM;have d7:∀d,(q.drewN d).cell? ⟨c,3,none⟩=some (k 3):=fun d=>s 3 oM;have d8:∀d,(q.drewN d).cell? ⟨c,4,none⟩=some (k 4):=fun d=>s 4 oM;have d9:∀d,(q.drewN d).cell? ⟨c,5,none⟩=some (k 5):=fun d=>s 5 oM;have da:∀d,(q.drewN d).cell? ⟨c,6,none⟩=some (k 6):=fun d=>s 6 oM;have db:∀d,(q.drewN d).cell? ⟨c,7,none⟩=some (k 7):=fun d=>s 7 oM;have dc:∀d,(q.drewN d).cell? ⟨c,8,none⟩=some (k 8):=fun d=>s 8 oM;have bb:q.cell? ⟨c,9,none⟩=some (.int .i64 (o:Int)):=ba;have bc:q.cell? w.heap.size=some (.int .i64 (f:Int)):=(M.cell 0).trans rfl;have cF:decide ((f:Int) < 0)=false:=by simp
 have dw:¬o<=f:=oM;have dl:=J.blk.lt;have dk:=M.lt;obtain ⟨aV,c9,ce,bW,cZ,bZ,cd,c1,d2⟩:=hqq9 J M aE bj ac ag bB au N;obtain ⟨d0,bt,cp,cq,c2,b3⟩:=hqq6 l.base l.bnd bO bP bo aG;have dd:∀d,(q.drewN d).cell? ⟨c,9,none⟩=some (.int .i64 (o:Int)):=fun d=>bb;have de:∀d,(q.drewN d).cell? w.heap.size=some (.int .i64 (f:Int)):=fun d=>bc;clear l J M aE bj ac ag bB au cv s ba ct N bO bP bo aG aH;go_enter func176,ntmps176;go_wp2_with fail;rw [c1.out];clear cs cx cu;go_quiet (fail);clear bb bc cF;go_wp2_with fail;go_loopw [6,31] (fun cY aT wr=>∃(lv:Nat) (g:Nat->Nat) (S:Int),lv<=9/\aT=.int .i64 lv/\cY=.int .i64 ((aP i lv:Nat):Int)/\WaveS wr B g c k (fun r=>if r < lv then aC L f else L) (o:Int) S/\Bk wr w.heap.size 3 #[.int .i64 ((dZ L f i lv:Nat):Int)]/\(∀a,a < w.heap.size->g a=own a)/\(∀a,w.heap.size<=a->g a≠1)/\g w.heap.size=0/\Keep (fun a=>a=c∨16<=own a) w wr) (fun _ aT _=>9 -(intOf aT).toNat)
 case atStart=>refine ⟨0,own,bU,by omega,rfl,by rw [cp.out];rfl,?_,?_,fun _ _=>rfl,fun a v n=>?_,?_,?_⟩;obtain ⟨bV,bi⟩:=aV.out.vis (Vis.of_below (below_drewN bR _));have:bV=bU:=(by have an:=bi.cells.2.2;have ao:=aV.out.cells.2.2;have V:=ao.symm.trans an;injection V with V;injection V with _ V;exact V.symm);subst this;simpa using bi;rw [bW.out];exact c9.out.drewN _;have:=(bt.out a oM).2;omega;rcases zBa (own w.heap.size) with n | n;exact n;have:=(bt.out w.heap.size oM).2;omega;exact ce.out.drewN _
 case round=>
  obtain ⟨lv,g,S,dx,rfl,rfl,y,ad,ah,ai,aK,ae⟩:=hrel;by_cases O:lv < 9
  · have cE:=ix9 k lv O;obtain ⟨G,t,cJ,aR⟩:=y.rows lv O;obtain ⟨aU,af⟩:=eqx (2 ^ lv);obtain ⟨b,u⟩:=eqx (aP i lv);have aL:b < aU:=(by rw [<-af,<-u];exact iY i lv aQ oM);have bH:b < 2 ^ lv:=(by rw [af];exact aL);have cA:=lhd t;rw [af] at t aR;obtain ⟨ar,aq,bn,dy,dv⟩:=World.ownsRow.form t oM;rw [bn] at cE t;obtain ⟨m,a4⟩:=eqx (dZ L f i lv);obtain ⟨j,z⟩:=eqx (dZ L f i (lv+1));obtain ⟨a,a0⟩:=eqx (eH i lv);have aS:=iQ L f i lv O;have ak:=c2.out lv;have aw:=aAR lv b3.out;have ax:=fun d=>sF lv d b3.out;have aj:=kT i lv O;rw [u,a4,a0,z] at aS;rw [u,a4,a0] at ak;rw [u,a4] at aw;rw [u] at ax;rw [u,a0] at aj;have bN:m < (aF L lv b).length:=(zAc.1 ak).1;have bM:(aF L lv b).getD m false=a:=(by rw [zAb,ak];rfl);rw [a4] at ad;rw [u];obtain ⟨cN,aM⟩:=eqx (aP i (lv+1));rw [aM] at aj;have cK:b<=1000:=(by have:=aET O bH;omega);have bL:TreeE wr (fun a=>g a=TC lv b) (G b) (aF L lv b):=(by have:=aR b aL;rw [zBw oM] at this;exact this);have dB:(b:Int) < (aU:Int):=oM;obtain ⟨d4,b8,cn,a9,c6,c7,cm,ci,cj⟩:=hqq9 t bL aS bN aw ax bM aj aM;obtain ⟨d5,d1,co,a8,a7,U,am,b5,b2⟩:=hqq9 u a0 z y ad ah ai aK ae;clear aR bn af u a4 z a0 aS bN ak aw ax bM aj aM y ad ah ai aK ae bL cJ;obtain ⟨bQ,bS,bT⟩:=dV G lv aU b aL;have cr:wr.cell? ⟨ar,b*3,none⟩=_:=(World.ownsRow.cellAt t (b*3) oM).trans bQ;have an:wr.cell? ⟨ar,b*3+1,none⟩=_:=(World.ownsRow.cellAt t (b*3+1) oM).trans bS;have ao:wr.cell? ⟨ar,b*3+2,none⟩=_:=(World.ownsRow.cellAt t (b*3+2) oM).trans bT;have cM:wr.cell? w.heap.size=some (.int .i64 (m:Int)):=(a7.out.cell 0).trans rfl;have du:=a7.out.lt;clear bQ bS bT t;go_wp2_with fail;obtain ⟨aa,X⟩:=eqx ((wr.alloc (.cells #[.pointer (some ⟨G b,0,none⟩),(lv:Int),(b:Int)] 143)).alloc (.cells #[.bool false] 4));have br:Below wr.heap.size wr aa:=(by rw [<-X];exact (bR.alloc nL _).alloc (by simp) _);have bq:Bk aa wr.heap.size 143 #[.pointer (some ⟨G b,0,none⟩),(lv:Int),(b:Int)]:=(by rw [<-X];exact (Bk.new wr _ _).alloc _);have bp:Bk aa (wr.heap.size+1) 4 #[.bool false]:=(by rw [<-X];have l:=Bk.new (wr.alloc (.cells #[.pointer (some ⟨G b,0,none⟩),(lv:Int),(b:Int)] 143)) 4 #[.bool false];rw [World.size_alloc] at l;exact l);rw [X];obtain ⟨c4,c3,I⟩:=hqq3 bq bp br;clear bq bp br X cr an ao cM;obtain ⟨cP,bg⟩:=a8.out.vis (Vis.of_below I.out);have bx:=a7.out.below I.out a7.out.lt;have bI:=b8.out.below I.out;have bA:=a8.out.base.2;have bu:=a8.out.bnd;have dE:=I.out.size;have cD:=a8.out.blk.lt;obtain ⟨aW,cb,b7,cc,aY⟩:=hqq5 bg bx bI bA bu;clear bg bx bI bA bu;refine (lY c (G b) k o cP lv b (aF L lv b) m true aa aW.out.blk b7.out.at (zCk a9.out)).mono ?_;rintro n C ⟨rfl,x⟩;obtain ⟨Q,aI⟩:=eqx (((aF L lv b).take m).count true);have bG:(if a then Q else m - Q)=j:=(by have J:=lV ((aF L lv b).take m);have cy:((aF L lv b).take m).length=m:=(by rw [zAj];have:=a9.out;omega);have cz:=cn.out;cases a;simp;omega;simp;omega);have dz:Q<=m:=(by rw [<-aI];exact zAk zBv (by rw [zAj];omega));rw [aI];obtain ⟨cQ,bh⟩:=aW.out.vis x.1;have bJ:=b7.out.vis x.1;have aD:=x.1.bk cb.out dC dC;have K:=x.1.bk c4.out dC dC;have av:=x.1.bk c3.out dC dC;have dF:=x.1.size;have cR:C.cell? ⟨wr.heap.size,0,none⟩=some (.pointer (some ⟨G b,0,none⟩)):=(K.cell 0).trans rfl;have cS:C.cell? ⟨wr.heap.size,1,none⟩=some (.int .i64 (lv:Int)):=(K.cell 1).trans rfl;have cT:C.cell? ⟨wr.heap.size,2,none⟩=some (.int .i64 (b:Int)):=(K.cell 2).trans rfl;have dq:=K.lt;have dn:=av.lt;have dt:=aD.lt;have cH:∀(bd:Fn) (first aq:Array Value) (w:World),(Instr.makeFunc bd first aq).run prog w=.ok (.func bd first aq) w:=fun _ _ _ _=>rfl;obtain ⟨b4,al,cl,b0,c5,aX,b9⟩:=hqq7 bG bh bJ aD K av x;clear aI bG bh bJ aD K av x;go_wp2_with fail;have a6:∀j,wr.heap.size<=j->¬(g j=TC lv b):=fun j z e=>by have:=(aY.out j (by rw [e];unfold TC;omega)).2;omega
    refine (aCj c (G b) w.heap.size (wr.heap.size+1) k o cQ lv b _ (fun a=>g a=TC lv b) (aF L lv b) m C al.out.blk cl.out (fun e=>by rw [cc.out] at e;unfold TC at e;omega) (a6 _ oM) (fun j z=>(al.out.bnd j (by rw [z];unfold TC;omega)).2) b0.out aX.out (fun j z n=>a6 j oM z) a9.out).mono ?_;rintro n D ⟨rfl,bK,a3,a1,bV,bs⟩;rw [cm.out] at a1
    have aB:=al.out.edit (lv:=lv) (p:=b) (gx:=wr.heap.size+1) O bH (aA (aO cA.out I.out) fun a cw _ az=>b9.out.1.bk az dC dC) (by
        rcases zBa (g (wr.heap.size+1)) with n | n;omega
        · have:=(aY.out _ (by omega:g (wr.heap.size+1)≠0)).2;omega) (fun cw az=>absurd (aJ az aX.out).1 dC) bK a3 bs (L':=aC L f) c6.out (fun d cL=>by rw [zBw (zCj _)];exact c7.out d (fun n=>cL n.symm))
    have bv:(fun r=>if r=lv then aC L f else if r < lv then aC L f else L)=fun r=>if r < lv+1 then aC L f else L:=by
        funext r;by_cases E:r=lv
        · rw [zBx E,zBx oM]
        · by_cases ap:r < lv
          · rw [zBw E,zBx ap,zBx oM]
          · rw [zBw E,zBw ap,zBw oM]
    rw [bv] at aB
    have bz:=a3.bk b0.out (fun e=>by
        rcases e with e | e | e;have ab:g w.heap.size=TC lv b:=e;rw [b5.out] at ab;unfold TC at ab;omega;exact cC e.symm
        · omega)
    have Z:=a3.bk c5.out (fun e=>by
        rcases e with e | e | e;exact a6 _ nL e;omega
        · omega)
    have cU:D.cell? ⟨wr.heap.size,0,none⟩=some (.pointer (some ⟨G b,0,none⟩)):=(Z.cell 0).trans rfl;have cV:D.cell? ⟨wr.heap.size,1,none⟩=some (.int .i64 (lv:Int)):=(Z.cell 1).trans rfl;have cW:D.cell? ⟨wr.heap.size,2,none⟩=some (.int .i64 (b:Int)):=(Z.cell 2).trans rfl;have cX:D.cell? ⟨wr.heap.size+1,0,none⟩=some (.bool a):=(a1.cell 0).trans rfl;have dr:=Z.lt;have dp:=a1.lt;have bl:g (G b)=TC lv b:=b8.out.fg;obtain ⟨c8,cf,b1,aZ,bY,d3⟩:=hqq6 aB a3 bz a1 bl a6;clear bK a3 bs aB bv bz Z a1 cR cS cT cH bl a6;go_wp2_with fail;refine (zG (G b) lv b a D cK).mono ?_;rintro n A ⟨rfl,Y⟩;rw [<-ci.out];obtain ⟨cO,be⟩:=c8.out.vis (Vis.of_below Y);have a2:=b1.out.below Y b1.out.lt;have ay:=aZ.out.below Y aZ.out.lt;have dI:A.cell? ⟨wr.heap.size+1,0,none⟩=some (.bool a):=(ay.cell 0).trans rfl;have dJ:A.cell? w.heap.size=some (.int .i64 (m:Int)):=(a2.cell 0).trans rfl;have di:=a2.frozen 0;have ds:=a2.lt;have dm:=ay.lt;have bw:=a2.set 0 (.int .i64 (j:Int));have aN:cB g C.heap.size D.heap.size (TC lv b) w.heap.size=0:=(by unfold cB;rw [zBx oM];exact b5.out);have bf:=be.far (w':=A.setCell w.heap.size (.int .i64 (j:Int))) (H:=fun a=>a=w.heap.size) (Keep.setCell (F:=fun a=>a=w.heap.size) (Keep.refl _ _) (p:=w.heap.size) (.inl rfl) _) (fun a n=>by rw [show a=w.heap.size from n,aN];omega);have dD:=b2.out.size
    have bC:Keep (fun a=>a=c∨16<=own a) w (A.setCell w.heap.size (.int .i64 (j:Int))):=Keep.setCell (F:=fun a=>a=c∨16<=own a) ((((b2.out.trans (Keep.of_below I.out)).trans' b9.out.2 (fun a v e=>by
        rcases e with e | e;exact .inl e
        · right;rw [<-U.out a v,e,bY.out];unfold TC;omega)).trans' cf.out (fun a v e=>by
        rcases e with e | e | e;right;have ab:g a=TC lv b:=e;rw [<-U.out a v,ab];unfold TC;omega;exact .inl e
        · omega)).trans (Keep.of_below Y)) (p:=w.heap.size) (.inr nL) _
    obtain ⟨bX,ca,cg,ck⟩:=hqq4 bf bw bC aN;clear Y be a2 ay bw bf bC aN cU cV cW cX
    have hrel:∃(a5:Nat) (g:Nat->Nat) (S:Int),a5<=9/\Value.int .i64 ((lv+1:Nat):Int)=.int .i64 a5/\Value.int .i64 (cN:Int)=.int .i64 ((aP i a5:Nat):Int)/\WaveS (A.setCell w.heap.size (.int .i64 (j:Int))) B g c k (fun r=>if r < a5 then aC L f else L) (o:Int) S/\Bk (A.setCell w.heap.size (.int .i64 (j:Int))) w.heap.size 3 #[.int .i64 ((dZ L f i a5:Nat):Int)]/\(∀a,a < w.heap.size->g a=own a)/\(∀a,w.heap.size<=a->g a≠1)/\g w.heap.size=0/\Keep (fun a=>a=c∨16<=own a) w (A.setCell w.heap.size (.int .i64 (j:Int))):=by
        refine ⟨lv+1,cB g C.heap.size D.heap.size (TC lv b),cO,by omega,rfl,by rw [cj.out],bX.out,?_,fun a v=>?_,fun a v=>?_,ck.out,cg.out⟩;rw [co.out];exact ca.out;unfold cB;rw [zBx oM];exact U.out a v
        · unfold cB;by_cases E:a < C.heap.size;rw [zBx E];exact am.out a v
          · rw [zBw E];unfold TC;split <;> omega
    have b6:=lhd hrel;clear hrel;cases a with
    | true=>
      obtain rfl:Q=j:=(by have:=b4.out;simpa using this);go_wp2_with fail;go_roundw
      case rel=>exact b6.out
      case measure=>simp [intOf];omega
    | false=>
      have dA:m - Q=j:=(by have:=b4.out;simpa using this);have dg:IntKind.i64.wrap ((m:Int) -(Q:Int))=(j:Int):=(by have cy:=a9.out;have cz:(aF L lv b).length<=L.length:=(by rw [eW];exact zBh);have dj:=bZ.out;rw [IntKind.wrap_i64];omega);go_wp2_with fail;go_roundw
      case rel=>exact b6.out
      case measure=>simp [intOf];omega
  · obtain rfl:lv=9:=oM;have W:WaveS wr B g c k (fun _=>aC L f) (o:Int) S:=⟨y.blk,y.base,fun r bE=>by have:=y.rows r bE;simpa [bE] using this,y.bnd⟩;obtain ⟨_,dH,_⟩:=W.cells;have dh:=W.blk.frozen 9;have cD:=W.blk.lt;have bm:=W.set_n ((o:Int) - 1);have df:IntKind.i64.wrap ((o:Int) - 1)=(o:Int) - 1:=(by rw [IntKind.wrap_i64];omega);have bD:Keep (fun a=>a=c∨16<=own a) w (wr.setCell ⟨c,9,none⟩ (.int .i64 ((o:Int) - 1))):=Keep.setCell (F:=fun a=>a=c∨16<=own a) ae (p:=⟨c,9,none⟩) (.inl (.inl rfl)) _;rw [cq.out];obtain ⟨c0,ch,U,am⟩:=hqq4 bm bD ah ai;clear y W bm ae bD ad ah ai aK;go_wp2_with fail;go_ret2;refine ⟨rfl,g,⟨k,S,?_⟩,U.out,am.out,ch.out⟩;rw [show (((aC L f).length:Nat):Int)=(o:Int) - 1 by have:=cd.out;omega];exact c0.out
def WalkT (w:World) (B gk:Nat) (L T:List Nat):Prop:=
 ∃b a,Bk w gk 148 #[.pointer (some ⟨b,0,none⟩),.pointer (some ⟨a,0,none⟩)]/\WaveAt w B b L/\Bk w a 236 (tcells T)
def WalkT.vis {w w':World} {B gk:Nat} {L T:List Nat} (d:WalkT w B gk L T) (a:Vis w w'):WalkT w' B gk L T:=by
 obtain ⟨c,b,e,f,g⟩:=d;exact ⟨c,b,a.bk e dC dC,f.vis a,a.bk g dC dC⟩
def mO (L T:List Nat) (a b:Nat):Nat:=T.countP (fun c=>decide (c < a))+(L.take b).count a
def vV (B gk:Nat) (L T:List Nat) (w:World) (d:WalkT w B gk L T):
 Calls prog 131 #[gk] w fun a w'=>a=.returned (.int .i64 (L.length:Int))/\w=w':=by
 obtain ⟨c,i,b,e,f⟩:=d;have g:=b.cell 0;clear b f;go_enter func131,ntmps131;go_wp2_with fail;refine (fR B c L _ e).mono ?_;rintro a w' ⟨rfl,rfl⟩;go_wp2_with fail;go_ret;exact ⟨rfl,rfl⟩
def rE (B gk:Nat) (L T:List Nat) (a:Nat) (w:World) (k:WalkT w B gk L T) (o:a < 257) (n:T.length<=1000):
 Calls prog 172 #[gk,(a:Int)] w fun c w'=>c=.returned (.int .i64 ((T.countP (fun b=>decide (b < a)):Nat):Int))/\Below w.heap.size w w':=by
 obtain ⟨q,j,d,l,e⟩:=k;have p:=d.cell 1;clear d l;have i:=lhd e;clear e;go_enter func172,ntmps172;go_wp2_with fail;refine (kG j T a _ i.out o n).mono ?_;rintro c w' ⟨rfl,m⟩;obtain ⟨g,f⟩:∃g,T.countP (fun b=>decide (b < a))=g:=⟨_,rfl⟩;rw [f];go_wp2_with fail;go_ret;exact ⟨by rw [f];rfl,m⟩
def yP (B gk:Nat) (L T:List Nat) (b:Nat) (w:World) (d:WalkT w B gk L T) (f:b < L.length):
 Calls prog 199 #[gk,(b:Int)] w fun c w'=>c=.returned (.bool true)/\w=w':=by
 obtain ⟨g,a⟩:=eqx L.length;rw [a] at f;have i:(b:Int) < (g:Int):=oM;obtain ⟨Hn,e⟩:=hqq2 a d;clear a d;go_enter func199,ntmps199;go_wp2_with fail;refine (vV B gk L T w e.out).mono ?_;rintro c w' ⟨rfl,rfl⟩;rw [Hn.out];go_wp2_with fail;go_ret;exact ⟨rfl,rfl⟩
def lL (B gk:Nat) (L T:List Nat) (d b:Nat) (w:World) (C:WalkT w B gk L T) (n:L[d]?=some b) (t:∀v∈L,v < 257) (O:L.length<=1000) (J:T.length<=1000):
 Calls prog 163 #[gk,(d:Int)] w fun f w'=>f=.returned (.int .i64 ((mO L T b d:Nat):Int))/\VB B w w':=by
 have M:=(zAc.1 n).1;have Q:b < 257:=t _ (zAd n);have I:=C;obtain ⟨l,ak,m,E,a6⟩:=C;have a3:=m.cell 0;have an:=m.lt;obtain ⟨j,u⟩:=eqx (mO L T b d);obtain ⟨q,o⟩:∃aa,T.countP (fun v=>decide (v < b))=aa:=⟨_,rfl⟩;obtain ⟨r,p⟩:=eqx ((L.take d).count b);have N:q+r=j:=by rw [<-o,<-p,<-u];rfl
 have al:q<=1000:=by rw [<-o];exact zAk zBh J
 have am:r<=1000:=by rw [<-p];exact zAk zBv (by rw [zAj];omega)
 rw [u];obtain ⟨x,S,y,s,Y,z,A,W,a0⟩:=hqq9 I m E M n t O J o;obtain ⟨a1,Z⟩:=hqq2 p N;clear I m E a6 M n t O o p u N;go_enter func163,ntmps163;go_wp2_with fail;refine (yP B gk L T d w x.out s.out).mono ?_;rintro f w1 ⟨rfl,rfl⟩;go_wp2_with fail;refine (dK B l L d b w y.out s.out (zAc.1 Y.out).2 z.out A.out).mono ?_;rintro f k ⟨rfl,i⟩;have K:=x.out.vis i.1;have D:=i.1.bk S.out dC dC;have H:=y.out.vis i.1;obtain ⟨X,U,V,a2⟩:=hqq4 K D H i;clear K D H i a3;go_wp2_with fail;refine wp_region_any kR ?_;refine cJ [20,21,22,23,24,25,26,27,28,29,30,4] (VB B) (Vs [is gk,is (b:Int),is (q:Int),is gk,is gk,is gk,is l,is (d:Int),is (b:Int),is (r:Int),is (j:Int),is (j:Int)]) _ _ rfl kR vR (fun _ _=>VisK.trans) (eE tA1) ?_ ?_
 · refine aZ ?_;refine pH 0 (.pointer (some gk)) ?_;refine pH 5 (.int .i64 (b:Int)) ?_;refine sC (fun _ e a _ _ _ c _ _ _ g=>?_) ?_
   · have ad:_=_:=c 0 20 kR rfl;have ae:_=_:=c 1 21 kR rfl;replace a:(VB B) k e:=bD a;go_simp;refine (rE B gk L T b e (X.out.vis a.1) Q W.out).mono ?_;rintro f ac ⟨rfl,a7⟩;rw [a0.out];exact g _ _ (VisK.of_below a7) rfl
   refine pH 0 (.pointer (some gk)) ?_;refine pV 3 23 ?_;refine pV 4 24 ?_;refine pL 5 25 (fun e a=>have a:(VB B) k e:=bD a;(((a.1.bk U.out dC dC).cell 0).trans rfl:e.cell? gk=some (.pointer (some l)))) ?_;refine pH 1 (.int .i64 (d:Int)) ?_;refine pH 5 (.int .i64 (b:Int)) ?_;refine sC (fun _ e a _ _ _ c _ _ _ g=>?_) ?_
   · have ag:_=_:=c 6 26 kR rfl;have ah:_=_:=c 7 27 kR rfl;have ai:_=_:=c 8 28 kR rfl;replace a:(VB B) k e:=bD a;go_simp;refine (jF B l L d b e (V.out.vis a.1) Q (zCk s.out) z.out A.out).mono ?_;rintro f ac ⟨rfl,a9⟩;rw [a1.out];exact g _ _ a9 rfl
   refine sC (fun _ _ _ _ _ _ c _ _ _ g=>?_) ?_
   · have af:_=_:=c 2 22 kR rfl;have aj:_=_:=c 9 29 kR rfl;have ao:IntKind.i64.wrap ((q:Int)+(r:Int))=(j:Int):=(by rw [IntKind.wrap_i64];have:=Z.out;omega);go_simp;exact g _ _ vR rfl
   refine pV 10 30 ?_;exact aH
 · intro a5 ab a c;replace a:(VB B) k ab:=bD a;have a4:a5 (.tmp 4)=.int .i64 (j:Int):=c 11 4 rfl;simp only [zqq];rw [a4];clear c;have a8:=a2.out.trans a;go_wp2_with fail;go_ret;exact ⟨rfl,a8⟩
def WalkE (w:World) (B:Nat) (own:Nat->Nat) (gk:Nat) (L T:List Nat):Prop:=
 ∃b a,Bk w gk 148 #[.pointer (some ⟨b,0,none⟩),.pointer (some ⟨a,0,none⟩)]/\own gk=2/\WaveE w B own b L/\Bk w a 236 (tcells T)/\own a=2
section
variable {w w' : World} {B : Nat} {own own' : Nat -> Nat} {gk : Nat} {L T : List Nat}
def WalkE.atT (c:WalkE w B own gk L T):WalkT w B gk L T:=by
 obtain ⟨b,a,d,_,e,f,_⟩:=c;exact ⟨b,a,d,e.at,f⟩
def WalkE.at (d:WalkE w B own gk L T) (g:T.Perm L):WalkAt w B gk L:=by
 obtain ⟨c,b,e,_,f,a,_⟩:=d;rw [oK g] at a;exact ⟨c,b,e,f.at,a⟩
def WalkE.vis (d:WalkE w B own gk L T) (a:Vis w w'):WalkE w' B own gk L T:=by
 obtain ⟨c,b,e,f,g,i,j⟩:=d;exact ⟨c,b,a.bk e dC dC,f,g.vis a,a.bk i dC dC,j⟩
def WalkE.far (g:WalkE w B own gk L T) {H:Nat->Prop} (d:Keep H w w') (c:∀a,H a->own a≠2/\own a < 16):WalkE w' B own gk L T:=by
 obtain ⟨f,e,i,j,k,l,m⟩:=g;exact ⟨f,e,d.bk i (fun b=>by have:=c _ b;omega),j,k.far d c,d.bk l (fun b=>by have:=c _ b;omega),m⟩
def WalkE.paint (k:WalkE w B own gk L T) (b:∀a,a < w.heap.size->2<=own a->own' a=own a) (l:∀a,own' a≠0->B<=a/\a < w.heap.size):WalkE w B own' gk L T:=by
 obtain ⟨j,i,c,e,f,d,g⟩:=k;exact ⟨j,i,c,by rw [b _ c.lt oM];exact e,f.paint b l,d,by rw [b _ d.lt oM];exact g⟩
def WalkE.tally {a:List Nat} (j:WalkE w B own gk L T) (k:T.Perm a):WalkE w B own gk L a:=by
 obtain ⟨i,g,c,d,e,b,f⟩:=j;rw [oK k] at b;exact ⟨i,g,c,d,e,b,f⟩
def WaveE.bnd (b:WaveE w B own gk L):∀a,own a≠0->B<=a/\a < w.heap.size:=by
 obtain ⟨c,d,b⟩:=b;exact b.bnd
def WalkE.bnd (c:WalkE w B own gk L T):∀a,own a≠0->B<=a/\a < w.heap.size:=by
 obtain ⟨j,i,d,e,b,f,g⟩:=c;exact b.bnd
end
structure Grew (w w':World) (own own':Nat->Nat):Prop where
 old:∀b,b < w.heap.size->own' b=own b
 new:∀b,w.heap.size<=b->own' b≠1
 keep:Keep (fun b=>own b=2∨16<=own b) w w'
def Grew.refl {w:World} {own:Nat->Nat} (b:∀a,own a≠0->a < w.heap.size):Grew w w own own:=⟨fun _ _=>rfl,fun a d c=>by have:=b a oM;omega,Keep.refl _ _⟩
def Grew.trans {w w1 w':World} {own e own':Nat->Nat} (b:Grew w w1 own e) (d:Grew w1 w' e own'):Grew w w' own own':=by
 have i:=b.keep.size;refine ⟨fun a c=>(d.old a oM).trans (b.old a c),fun a c=>?_,b.keep.trans' d.keep fun a c g=>by rw [<-b.old a c];exact g⟩;by_cases f:a < w1.heap.size;rw [d.old a f];exact b.new a c;exact d.new a oM
def Grew.of_vb {B:Nat} {w w':World} {own:Nat->Nat} (c:Keep (fun a=>own a=2∨16<=own a) w w') (b:∀a,own a≠0->a < w.heap.size):Grew w w' own own:=⟨fun _ _=>rfl,fun a e d=>by have:=b a oM;omega,c⟩
def dL (B gk:Nat) (own:Nat->Nat) (L T:List Nat) (f g:Nat) (w:World) (b:WalkE w B own gk L T) (Q:g < 257) (N:f<=L.length) (H:∀S∈L,S < 257) (O:L.length<=895):
 Calls prog 109 #[gk,(f:Int),(g:Int)] w fun n w'=>n=.returned (.tuple #[])/\∃own',WalkE w' B own' gk (aI L f g) T/\Grew w w' own own':=by
 obtain ⟨c,o,d,D,e,k,E⟩:=b;have C:w.cell? gk=some (.pointer (some c)):=(d.cell 0).trans rfl;have I:=d.lt;have M:own c=2:=by obtain ⟨m,v,b⟩:=e;exact b.base.2
 have J:gk≠c:=by obtain ⟨m,v,b⟩:=e;exact Bk.ne d b.blk dC
 have K:o≠c:=by obtain ⟨m,v,b⟩:=e;exact Bk.ne k b.blk dC
 obtain ⟨x,y,l⟩:=hqq3 d e k;clear d e k;go_enter func109,ntmps109;go_wp2_with fail;refine (rA B c own L f g w y.out Q N H O).mono ?_;rintro n w1 ⟨rfl,own',u,j,s,i⟩;have q:=i.bk x.out (fun a=>by rcases a with a | a;exact J a;omega);have t:=i.bk l.out (fun a=>by rcases a with a | a;exact K a;omega);have r:Grew w w1 own own':=⟨j,s,i.mono fun U _ a=>by rcases a with a | a;left;rw [a,M];right;exact a⟩;have A:=lhd r;have p:WalkE w1 B own' gk (aI L f g) T:=⟨c,o,q,by rw [j _ I];exact D,u,t,by rw [j _ l.out.lt];exact E⟩;have z:=lhd p;clear u j s i q t r p C;go_wp2_with fail;go_end0;exact ⟨rfl,own',z.out,A.out⟩
def eO (B gk:Nat) (own:Nat->Nat) (L T:List Nat) (f k:Nat) (w:World) (b:WalkE w B own gk L T) (s:L[f]?=some k) (J:∀S∈L,S < 257) (Q:L.length<=896):
 Calls prog 100 #[gk,(f:Int)] w fun n w'=>n=.returned (.int .i64 (k:Int))/\∃own',WalkE w' B own' gk (aC L f) T/\Grew w w' own own':=by
 obtain ⟨c,o,d,H,e,j,I⟩:=b;have E:w.cell? gk=some (.pointer (some c)):=(d.cell 0).trans rfl;have K:=d.lt;have O:own c=2:=by obtain ⟨m,x,b⟩:=e;exact b.base.2
 have M:gk≠c:=by obtain ⟨m,x,b⟩:=e;exact Bk.ne d b.blk dC
 have N:o≠c:=by obtain ⟨m,x,b⟩:=e;exact Bk.ne j b.blk dC
 obtain ⟨y,z,l,D⟩:=hqq4 d e j s;clear d e j s;go_enter func100,ntmps100;go_wp2_with fail;refine (rB B c own L f k w z.out D.out J Q).mono ?_;rintro n w1 ⟨rfl,own',v,i,t,g⟩;have q:=g.bk y.out (fun a=>by rcases a with a | a;exact M a;omega);have u:=g.bk l.out (fun a=>by rcases a with a | a;exact N a;omega);have r:Grew w w1 own own':=⟨i,t,g.mono fun U _ a=>by rcases a with a | a;left;rw [a,O];right;exact a⟩;have C:=lhd r;have p:WalkE w1 B own' gk (aC L f) T:=⟨c,o,q,by rw [i _ K];exact H,v,u,by rw [i _ l.out.lt];exact I⟩;have A:=lhd p;clear v i t g q u r p E;go_wp2_with fail;go_ret;exact ⟨rfl,own',A.out,C.out⟩
def gT (B gk:Nat) (own:Nat->Nat) (L T:List Nat) (a q b:Nat) (w:World) (m:WalkE w B own gk L T) (j:L[a]?=some q) (A:b < 257) (o:∀E∈L,E < 257) (z:L.length<=896):
 Calls prog 99 #[gk,(a:Int),(b:Int)] w fun c w'=>c=.returned (.tuple #[])/\∃own',WalkE w' B own' gk (L.set a b) T/\Grew w w' own own':=by
 have d:=(zAc.1 j).1;have H:=bF L d;have p:aI (aC L a) a b=L.set a b:=by
  apply List.ext_getElem?;intro e;rw [fO _ _ oM,zBm];by_cases f:e < a
  · rw [zBx f,zBw oM,cY _ d,zBx f]
  · rw [zBw f];by_cases g:e=a
    · subst g;rw [zBx rfl,zBx rfl,zBx d]
    · rw [zBw g,zBw (fun c=>g c.symm),cY _ d,zBw oM,show e - 1+1=e by omega]
 obtain ⟨t,x,y⟩:=hqq3 m j p;clear m j p;go_enter func99,ntmps99;go_wp2_with fail;refine (eO B gk own L T a q w t.out x.out o z).mono ?_;rintro c w1 ⟨rfl,C,n,k⟩;obtain ⟨u,r⟩:=hqq2 n k;clear n k;go_wp2_with fail;refine (dL B gk C (aC L a) T a b w1 u.out A oM (lE o) oM).mono ?_;rintro c I ⟨rfl,D,i,l⟩;rw [y.out] at i;obtain ⟨v,s⟩:=hqq2 i (r.out.trans l);clear i l;go_wp2_with fail;go_end0;exact ⟨rfl,D,v.out,s.out⟩
def eF (B gk:Nat) (own:Nat->Nat) (L T:List Nat) (g:Nat) (w:World) (b:WalkE w B own gk L T) (Q:g < 257) (J:T.length<=1000):
 Calls prog 101 #[gk,(g:Int),.int .i64 1] w fun d w'=>d=.returned (.tuple #[])/\WalkE w' B own gk L (T++ [g])/\Grew w w' own own:=by
 have K:=b.bnd;obtain ⟨m,e,f,I,n,l,o⟩:=b;have V:w.cell? ⟨gk,1,none⟩=some (.pointer (some e)):=(f.cell 1).trans rfl;have W:=f.lt;have M:gk≠e:=Bk.ne f l dC;obtain ⟨u,v,i⟩:=hqq3 f n l;clear f n l;go_enter func101,ntmps101;go_wp2_with fail;refine (nG e T g w i.out Q J).mono ?_;rintro d w1 ⟨rfl,ht,c⟩;have q:=c.bk u.out M;have t:WaveE w1 B own m L:=by
  obtain ⟨z,U,b⟩:=v.out;refine ⟨z,U,c.bk b.blk (Bk.ne b.blk i.out dC),b.base,fun lv N=>?_,fun a j=>⟨(b.bnd a j).1,zAl (b.bnd a j).2 c.size⟩⟩;obtain ⟨G,D,E,H⟩:=b.rows lv N;exact ⟨G,aA D fun a A _ k=>c.bk k (Bk.ne k i.out dC),E,fun S O=>(H S O).keep c fun a X A s k _ d=>by
   have C:a=e:=d;subst C;rw [(aJ k i.out).1] at s;exact absurd s dC⟩
 have p:WalkE w1 B own gk L (T++ [g]):=⟨m,e,q,I,t,ht,o⟩;have r:Grew w w1 own own:=Grew.of_vb (B:=B) (c.mono fun a _ d=>by left;rw [show a=e from d,o]) fun a j=>(K a j).2;obtain ⟨x,y⟩:=hqq2 p r;clear ht c q t p r;go_wp2_with fail;go_end0;exact ⟨rfl,x.out,y.out⟩
def iR (B gk:Nat) (own:Nat->Nat) (L T i:List Nat) (l:Nat) (w:World) (b:WalkE w B own gk L T) (r:T.Perm (l::i)) (V:l < 257) (N:T.length<=1000):
 Calls prog 101 #[gk,(l:Int),.int .i64 (-1)] w fun d w'=>d=.returned (.tuple #[])/\WalkE w' B own gk L i/\Grew w w' own own:=by
 have O:=b.bnd;obtain ⟨n,e,f,M,o,m,p⟩:=b;have Y:w.cell? ⟨gk,1,none⟩=some (.pointer (some e)):=(f.cell 1).trans rfl;have Z:=f.lt;have Q:gk≠e:=Bk.ne f m dC;obtain ⟨x,y,g,C⟩:=hqq4 f o m r;clear f o m r;go_enter func101,ntmps101;go_wp2_with fail;refine (wI e T i l w C.out g.out V N).mono ?_;rintro d w1 ⟨rfl,ht,c⟩;have s:=c.bk x.out Q;have v:WaveE w1 B own n L:=by
  obtain ⟨D,X,b⟩:=y.out;refine ⟨D,X,c.bk b.blk (Bk.ne b.blk g.out dC),b.base,fun lv S=>?_,fun a j=>⟨(b.bnd a j).1,zAl (b.bnd a j).2 c.size⟩⟩;obtain ⟨G,I,J,K⟩:=b.rows lv S;exact ⟨G,aA I fun a E _ k=>c.bk k (Bk.ne k g.out dC),J,fun W U=>(K W U).keep c fun a a0 E u k _ d=>by
   have H:a=e:=d;subst H;rw [(aJ k g.out).1] at u;exact absurd u dC⟩
 have q:WalkE w1 B own gk L i:=⟨n,e,s,M,v,ht,p⟩;have t:Grew w w1 own own:=Grew.of_vb (B:=B) (c.mono fun a _ d=>by left;rw [show a=e from d,p]) fun a j=>(O a j).2;obtain ⟨z,A⟩:=hqq2 q t;clear ht c s v q t;go_wp2_with fail;go_end0;exact ⟨rfl,z.out,A.out⟩
structure PermX (w:World) (F:Nat->Prop) (gp ga:Nat) (vl vo vt vf:Value) (R P:Nat) (ks:List Nat) (C:List (Nat×Nat)) (tk:List Bool) (fr:List Nat):Prop where
 at_:PermAt w 0 gp ga vl vo vt vf R P ks C tk fr
 fp:F gp
 fa:F ga
 fl:OwnF F vl
 fo:OwnF F vo
 ft:OwnF F vt
 ff:OwnF F vf
 nd:ks.Nodup
 tkl:tk.length=C.length
 tkk:∀k,tk[k]?=some true↔k∈ks
 frn:fr.Nodup
 frk:∀k,k∈fr↔tk[k]?=some false
 sz:C.length<=1000
def PermE (w:World) (F:Nat->Prop) (gp R P:Nat) (pr:List (Nat×Nat)):Prop:=
 (∃i l m n k c a j g,PermX w F gp i l m n k R P c a j g/\pr=c.map fun b=>(aB a b,aE a b))/\pr.Pairwise (fun e f=>e.1 < f.1)/\∀d∈pr,d.1 < R/\d.2 < P
def PermAt.vis2 {w w':World} {B gp e:Nat} {j k l i:Value} {R P:Nat} {f:List Nat} {c:List (Nat×Nat)} {g:List Bool} {d:List Nat} (a:PermAt w B gp e j k l i R P f c g d) (b:Vis w w'):PermAt w' B gp e j k l i R P f c g d:=
 ⟨b.bk a.blk dC dC,b.own a.lrow dC dC,b.own a.orow dC dC,b.bk a.ar dC dC,b.own a.trow dC dC,b.own a.frow dC dC,a.apart,a.lt,a.lo⟩
section
variable {w w' : World} {F G : Nat -> Prop} {gp R P : Nat} {pr : List (Nat × Nat)}
def PermE.vis (f:PermE w F gp R P pr) (j:Vis w w'):PermE w' F gp R P pr:=by
 obtain ⟨⟨e,n,o,p,m,k,b,l,d,a,c⟩,g,i⟩:=f;exact ⟨⟨e,n,o,p,m,k,b,l,d,⟨a.at_.vis2 j,a.fp,a.fa,a.fl,a.fo,a.ft,a.ff,a.nd,a.tkl,a.tkk,a.frn,a.frk,a.sz⟩,c⟩,g,i⟩
def PermE.mono (k:PermE w F gp R P pr) (e:∀a,a < w.heap.size->F a->G a):PermE w G gp R P pr:=by
 obtain ⟨⟨j,q,r,s,p,n,f,o,i,b,g⟩,l,m⟩:=k;have d:=b.at_;exact ⟨⟨j,q,r,s,p,n,f,o,i,⟨d,e _ d.blk.lt b.fp,e _ d.ar.lt b.fa,fun a c=>e a (d.lrow.lt a c).2 (b.fl a c),fun a c=>e a (d.orow.lt a c).2 (b.fo a c),fun a c=>e a (d.trow.lt a c).2 (b.ft a c),fun a c=>e a (d.frow.lt a c).2 (b.ff a c),b.nd,b.tkl,b.tkk,b.frn,b.frk,b.sz⟩,g⟩,l,m⟩
def PermE.keep (n:PermE w F gp R P pr) (g:Keep G w w') (f:∀b,F b->¬G b):PermE w' F gp R P pr:=by
 obtain ⟨⟨m,t,u,v,s,q,j,r,l,a,k⟩,o,p⟩:=n;have c:=a.at_;refine ⟨⟨m,t,u,v,s,q,j,r,l,⟨⟨g.bk c.blk (f _ a.fp),aA c.lrow fun b i d e=>g.bk e (f _ (a.fl b d)),aA c.orow fun b i d e=>g.bk e (f _ (a.fo b d)),g.bk c.ar (f _ a.fa),aA c.trow fun b i d e=>g.bk e (f _ (a.ft b d)),aA c.frow fun b i d e=>g.bk e (f _ (a.ff b d)),c.apart,c.lt,c.lo⟩,a.fp,a.fa,a.fl,a.fo,a.ft,a.ff,a.nd,a.tkl,a.tkk,a.frn,a.frk,a.sz⟩,k⟩,o,p⟩
def PermE.below (b:PermE w F gp R P pr) (c:Below w.heap.size w w'):PermE w' F gp R P pr:=b.keep (G:=fun _=>False) (Keep.of_below c) fun _ _ a=>a
end
def PermAt.set_rows {w:World} {B gp j:Nat} {n o q m:Value} {R P:Nat} {k:List Nat} {g:List (Nat×Nat)} {l:List Bool} {i:List Nat} (a:PermAt w B gp j n o q m R P k g l i) (e:Nat):PermAt (w.setCell ⟨gp,3,none⟩ (.int .i64 (e:Int))) B gp j n o q m e P k g l i:=by
 have d:Keep (fun c=>c=gp) w (w.setCell ⟨gp,3,none⟩ (.int .i64 (e:Int))):=Keep.setCell (F:=fun c=>c=gp) (Keep.refl _ _) (p:=⟨gp,3,none⟩) (.inl rfl) _;exact ⟨a.blk.set 3 _,aA a.lrow fun c f _ b=>d.bk b (Bk.ne b a.blk dC),aA a.orow fun c f _ b=>d.bk b (Bk.ne b a.blk dC),d.bk a.ar (Bk.ne a.ar a.blk dC),aA a.trow fun c f _ b=>d.bk b (Bk.ne b a.blk dC),aA a.frow fun c f _ b=>d.bk b (Bk.ne b a.blk dC),a.apart,a.lt,a.lo⟩
def PermAt.set_places {w:World} {B gp j:Nat} {n o q m:Value} {R P:Nat} {k:List Nat} {g:List (Nat×Nat)} {l:List Bool} {i:List Nat} (a:PermAt w B gp j n o q m R P k g l i) (e:Nat):PermAt (w.setCell ⟨gp,4,none⟩ (.int .i64 (e:Int))) B gp j n o q m R e k g l i:=by
 have d:Keep (fun c=>c=gp) w (w.setCell ⟨gp,4,none⟩ (.int .i64 (e:Int))):=Keep.setCell (F:=fun c=>c=gp) (Keep.refl _ _) (p:=⟨gp,4,none⟩) (.inl rfl) _;exact ⟨a.blk.set 4 _,aA a.lrow fun c f _ b=>d.bk b (Bk.ne b a.blk dC),aA a.orow fun c f _ b=>d.bk b (Bk.ne b a.blk dC),d.bk a.ar (Bk.ne a.ar a.blk dC),aA a.trow fun c f _ b=>d.bk b (Bk.ne b a.blk dC),aA a.frow fun c f _ b=>d.bk b (Bk.ne b a.blk dC),a.apart,a.lt,a.lo⟩
def uV {d:List Nat} {b c:List (Nat×Nat)} {f:Nat×Nat->Nat×Nat} (e:∀a,a∈d->(aB c a,aE c a)=f (aB b a,aE b a)):(d.map fun a=>(aB c a,aE c a))=(d.map fun a=>(aB b a,aE b a)).map f:=by
 rw [zCg];exact List.map_congr_left fun a g=>e a g
def aE0 {a b c:Nat} (d:a < b):inR a c < inR b c:=by
 unfold inR;split <;> split <;> omega
def eU:∀ {n:Nat} {a:List Nat},a.Nodup->(∀b∈a,b < n)->a.length<=n
 | 0,a,_,hl=>by
   cases a with
   | nil=>exact zAs _
   | cons b a=>exact absurd (hl b (by simp)) oM
 | n+1,a,h,hl=>by
   have d:=eU (n:=n) (h.erase n) fun b f=>by have e:=(h.mem_erase_iff).1 f;have:=hl b e.2;omega
   by_cases c:n∈a;have:=List.length_erase_of_mem c;omega;rw [List.erase_of_not_mem c] at d;omega
def sK (F:Nat->Prop) (gp R P b:Nat) (pr:List (Nat×Nat)) (w:World) (a5:PermE w F gp R P pr) (am:b<=R) (aj:R<=100000) (ai:P<=100000):
 Calls prog 112 #[gp,(b:Int)] w fun i w'=>i=.returned (.int .i64 0)/\PermE w' F gp (R+1) P (pr.map fun e=>(inR e.1 b,e.2))/\Keep F w w':=by
 obtain ⟨⟨r,o,x,y,v,k,d,u,q,j,rfl⟩,W,N⟩:=a5;have n:=j.at_;have a4:w.cell? ⟨gp,3,none⟩=some (.int .i64 (R:Int)):=(n.blk.cell 3).trans rfl;have ad:=n.blk.frozen 3;have a7:=n.blk.lt;have ap:¬((b:Int) > (R:Int)):=oM;have ao:¬R < b:=oM;have an:decide ((b:Int) < 0)=false:=by simp
 have ac:wrap64 ((R:Int)+1)=((R+1:Nat):Int):=by rw [cU oM oM];rfl
 obtain ⟨a,a3,z⟩:=hqq3 j W N;clear j n W N;go_enter func112,ntmps112;go_wp2_with fail;go_quiet (fail)
 rename_i nq
 have aa:∀Y,((w.alloc (.cells #[(b:Int)] 3)).drewN Y).cell? ⟨gp,3,none⟩=some (.int .i64 (R:Int)):=fun Y=>(World.cell?_alloc_lt w _ ⟨gp,3,none⟩ a7).trans a4;have al:∀(C:Fn) (first A:Array Value) (w:World),(Instr.makeFunc C first A).run prog w=.ok (.func C first A) w:=fun _ _ _ _=>rfl;go_wp2_with fail;have M:=a.out.at_.below (bR.alloc nL (.cells #[(b:Int)] 3));have I:PermAt ((w.alloc (.cells #[(b:Int)] 3)).drewN nq) 0 gp r o x y v R P k d u q:=M.below (below_drewN bR _);have J:=I.set_rows (R+1);have Q:Bk ((w.alloc (.cells #[(b:Int)] 3)).drewN nq) w.heap.size 3 #[(b:Int)]:=Bk.new w _ _;have S:=Q.far (p:=⟨gp,3,none⟩) (fun i=>by have ab:w.heap.size=gp:=i;omega) (.int .i64 ((R+1:Nat):Int));have X:∀g,o.ownBlock=some g->g≠w.heap.size:=fun g s i=>by have:=(a.out.at_.lrow.lt g s).2;omega
 have E:∀c,c∈k->aB d c<=1000000000000/\aE d c<=1000000000000:=fun c a8=>by have:=z.out (aB d c,aE d c) (zAy.2 ⟨c,a8,rfl⟩);have ae:aB d c < R:=this.1;have af:aE d c < P:=this.2;omega
 have ak:=eU a.out.nd a.out.at_.lt;refine (sR 0 gp r w.heap.size b o x y v (R+1) P k d u q _ J a.out.nd (by have:=a.out.sz;omega) S X E).mono ?_;rintro i Z ⟨rfl,U,a0,t,O,K⟩;have V:Keep F w Z:=(Keep.setCell (F:=F) (((Keep.refl _ _).alloc _).drewN _) (p:=⟨gp,3,none⟩) (.inl a.out.fp) _).trans (U.mono fun g _ s=>a.out.fl g s);have H:PermE Z F gp (R+1) P ((k.map fun c=>(aB d c,aE d c)).map fun e=>(inR e.1 b,e.2)):=by
  refine ⟨⟨r,o,x,y,v,k,a0,u,q,⟨K,a.out.fp,a.out.fa,a.out.fl,a.out.fo,a.out.ft,a.out.ff,a.out.nd,by rw [t];exact a.out.tkl,a.out.tkk,a.out.frn,a.out.frk,by rw [t];exact a.out.sz⟩,(uV (f:=fun e=>(inR e.1 b,e.2)) O).symm⟩,?_,fun e j=>?_⟩;exact List.pairwise_map.2 (a3.out.imp fun {m g} a6=>aE0 a6)
  · obtain ⟨l,a9,rfl⟩:=zAy.1 j;have:=z.out l a9;have D:∀m,inR m b<=m+1:=fun m=>by unfold inR;split <;> omega
    have ah:=D l.1;have ag:=D l.2;constructor;show inR l.1 b < _;omega;show l.2 < _;omega
 obtain ⟨a1,a2⟩:=hqq2 H V;clear V H K O U t E X S Q J I M;go_wp2_with fail;go_ret;exact ⟨rfl,a1.out,a2.out⟩
def sM (F:Nat->Prop) (gp R P b:Nat) (pr:List (Nat×Nat)) (w:World) (a5:PermE w F gp R P pr) (am:b<=P) (aj:R<=100000) (ai:P<=100000):
 Calls prog 113 #[gp,(b:Int)] w fun i w'=>i=.returned (.int .i64 0)/\PermE w' F gp R (P+1) (pr.map fun e=>(e.1,inR e.2 b))/\Keep F w w':=by
 obtain ⟨⟨r,o,x,y,v,k,d,u,q,j,rfl⟩,W,N⟩:=a5;have n:=j.at_;have a4:w.cell? ⟨gp,4,none⟩=some (.int .i64 (P:Int)):=(n.blk.cell 4).trans rfl;have ad:=n.blk.frozen 4;have a7:=n.blk.lt;have ap:¬((b:Int) > (P:Int)):=oM;have ao:¬P < b:=oM;have an:decide ((b:Int) < 0)=false:=by simp
 have ac:wrap64 ((P:Int)+1)=((P+1:Nat):Int):=by rw [cU oM oM];rfl
 obtain ⟨a,a3,z⟩:=hqq3 j W N;clear j n W N;go_enter func113,ntmps113;go_wp2_with fail;go_quiet (fail)
 rename_i nq
 have aa:∀Y,((w.alloc (.cells #[(b:Int)] 3)).drewN Y).cell? ⟨gp,4,none⟩=some (.int .i64 (P:Int)):=fun Y=>(World.cell?_alloc_lt w _ ⟨gp,4,none⟩ a7).trans a4;have al:∀(C:Fn) (first A:Array Value) (w:World),(Instr.makeFunc C first A).run prog w=.ok (.func C first A) w:=fun _ _ _ _=>rfl;go_wp2_with fail;have M:=a.out.at_.below (bR.alloc nL (.cells #[(b:Int)] 3));have I:PermAt ((w.alloc (.cells #[(b:Int)] 3)).drewN nq) 0 gp r o x y v R P k d u q:=M.below (below_drewN bR _);have J:=I.set_places (P+1);have Q:Bk ((w.alloc (.cells #[(b:Int)] 3)).drewN nq) w.heap.size 3 #[(b:Int)]:=Bk.new w _ _;have S:=Q.far (p:=⟨gp,4,none⟩) (fun i=>by have ab:w.heap.size=gp:=i;omega) (.int .i64 ((P+1:Nat):Int));have X:∀g,o.ownBlock=some g->g≠w.heap.size:=fun g s i=>by have:=(a.out.at_.lrow.lt g s).2;omega
 have E:∀c,c∈k->aB d c<=1000000000000/\aE d c<=1000000000000:=fun c a8=>by have:=z.out (aB d c,aE d c) (zAy.2 ⟨c,a8,rfl⟩);have ae:aB d c < R:=this.1;have af:aE d c < P:=this.2;omega
 have ak:=eU a.out.nd a.out.at_.lt;refine (sS 0 gp r w.heap.size b o x y v R (P+1) k d u q _ J a.out.nd (by have:=a.out.sz;omega) S X E).mono ?_;rintro i Z ⟨rfl,U,a0,t,O,K⟩;have V:Keep F w Z:=(Keep.setCell (F:=F) (((Keep.refl _ _).alloc _).drewN _) (p:=⟨gp,4,none⟩) (.inl a.out.fp) _).trans (U.mono fun g _ s=>a.out.fl g s);have H:PermE Z F gp R (P+1) ((k.map fun c=>(aB d c,aE d c)).map fun e=>(e.1,inR e.2 b)):=by
  refine ⟨⟨r,o,x,y,v,k,a0,u,q,⟨K,a.out.fp,a.out.fa,a.out.fl,a.out.fo,a.out.ft,a.out.ff,a.out.nd,by rw [t];exact a.out.tkl,a.out.tkk,a.out.frn,a.out.frk,by rw [t];exact a.out.sz⟩,(uV (f:=fun e=>(e.1,inR e.2 b)) O).symm⟩,?_,fun e j=>?_⟩;exact List.pairwise_map.2 (a3.out.imp fun {m g} a6=>a6)
  · obtain ⟨l,a9,rfl⟩:=zAy.1 j;have:=z.out l a9;have D:∀m,inR m b<=m+1:=fun m=>by unfold inR;split <;> omega
    have ah:=D l.1;have ag:=D l.2;constructor;show l.1 < _;omega;show inR l.2 b < _;omega
 obtain ⟨a1,a2⟩:=hqq2 H V;clear V H K O U t E X S Q J I M;go_wp2_with fail;go_ret;exact ⟨rfl,a1.out,a2.out⟩
def wL (B c m s t u g d a:Nat) (e:List (Nat×Nat)) (w:World) (o:w.ownsRow B 179 2 (.slice (some c) m s) m (bA e)) (x:a < e.length) (y:Bk w t 3 #[(g:Int)]) (z:Bk w u 3 #[(d:Int)]) (H:aB e a<=1000000000000):
 Calls prog 185 #[.pointer (some ⟨c,a*2,none⟩),t,u] w fun E w'=>E=.returned (.tuple #[])/\w'.ownsRow B 179 2 (.slice (some c) m s) m (bA (e.set a (mvR g d (aB e a),aE e a)))/\Keep (fun i=>i=c) w w':=by
 obtain ⟨X,a3⟩:=bV e a x;have a2:e.length=m:=by have v:=o.1;rw [cG] at v;omega
 have a0:=(World.ownsRow.cellAt o (a*2) oM).trans X;have ae:w.cell? t=some (.int .i64 (g:Int)):=(y.cell 0).trans rfl;have af:w.cell? u=some (.int .i64 (d:Int)):=(z.cell 0).trans rfl;obtain ⟨a6,q⟩:=cK o;have a8:=q.frozen (a*2);have a9:=q.lt;have aa:=y.lt;have ab:=z.lt;have ac:t≠c:=Bk.ne y q dC;have ad:u≠c:=Bk.ne z q dC;have K:=iJ e a x;have U:=fun f=>gY e a f x;obtain ⟨b,J⟩:=eqx (aB e a);rw [J] at a0 K H;rw [J];obtain ⟨A,Y,O⟩:=hqq3 o K U;have V:∀f:Nat,(w.setCell ⟨c,a*2,none⟩ (.int .i64 (f:Int))).ownsRow B 179 2 (.slice (some c) m s) m (bA (e.set a (f,aE e a))):=fun f=>by have:=(World.ownsRow.stored A.out (a*2) (.int .i64 (f:Int))).1;rwa [O.out] at this
 have W:∀N f:Nat,((w.setCell ⟨c,a*2,none⟩ (.int .i64 (N:Int))).setCell ⟨c,a*2,none⟩ (.int .i64 (f:Int))).ownsRow B 179 2 (.slice (some c) m s) m (bA (e.set a (f,aE e a))):=fun N f=>by have v:=(World.ownsRow.stored (World.ownsRow.stored A.out (a*2) (.int .i64 (N:Int))).1 (a*2) (.int .i64 (f:Int))).1;rw [List.set_set,O.out] at v;exact v
 have S:∀f:Value,Keep (fun i=>i=c) w (w.setCell ⟨c,a*2,none⟩ f):=fun f=>Keep.setCell (F:=fun i=>i=c) (Keep.refl _ _) (p:=⟨c,a*2,none⟩) (.inl rfl) _;obtain ⟨C,Z,a4⟩:=hqq3 V W S;clear o x y z X a3 q K U a2 J V W S;have r:∀f:Nat,mvR g d b=f->e.set a (mvR g d b,aE e a)=e.set a (f,aE e a):=fun f E=>by rw [E]
 by_cases Q:b=g
 · subst Q;have k:mvR b d b=d:=(by unfold mvR;rw [zBx rfl]);rw [k];clear r;go_enter func185,ntmps185;go_wp2_with fail;go_quiet (fail);go_wp2_with fail;refine bodyPost_ret (results_none rfl _ _ _) rfl ?_;exact ⟨rfl,mL (C.out d) rfl,(Keep.setCell (F:=fun i=>i=c) ((Keep.refl _ _).drewN _) (p:=⟨c,a*2,none⟩) (.inl rfl) _)⟩
 · have a5:((b:Int)==(g:Int))=false:=(by rw [zCb];omega);have l:mvR g d b=inR (aQ b g) d:=(by unfold mvR;rw [zBw Q]);by_cases D:g < b
   · obtain ⟨j,I⟩:∃j,b=j+1:=⟨b - 1,by omega⟩;have b1:decide ((b:Int) > (g:Int))=true:=zBz oM;have a7:IntKind.i64.wrap ((b:Int) - 1)=(j:Int):=(by rw [IntKind.wrap_i64];omega);have M:aQ b g=j:=(by unfold aQ;rw [zBx D];omega);rw [M] at l;by_cases n:d<=j
     · have b2:decide ((j:Int)>=(d:Int))=true:=zBz oM;have a1:wrap64 ((j:Int)+1)=(b:Int):=(by rw [cU oM oM];omega);have k:mvR g d b=b:=(by rw [l];unfold inR;rw [zBx n];exact I.symm);rw [k];clear r l M H I;go_enter func185,ntmps185;go_wp2_with fail;go_quiet (fail);go_wp2_with fail;go_quiet (fail);go_wp2_with fail;go_quiet (fail);go_wp2_with fail;go_end0;exact ⟨rfl,mL (Z.out j b) rfl,(Keep.setCell (F:=fun i=>i=c) (Keep.drewN (Keep.setCell (F:=fun i=>i=c) ((Keep.refl _ _).drewN _) (p:=⟨c,a*2,none⟩) (.inl rfl) _) _) (p:=⟨c,a*2,none⟩) (.inl rfl) _)⟩
     · have b2:decide ((j:Int)>=(d:Int))=false:=zBy oM;have k:mvR g d b=j:=(by rw [l];unfold inR;rw [zBw n]);rw [k];clear r l M H I;go_enter func185,ntmps185;go_wp2_with fail;go_quiet (fail);go_wp2_with fail;go_quiet (fail);go_wp2_with fail;go_quiet (fail);go_wp2_with fail;go_end0;exact ⟨rfl,mL (C.out j) rfl,Keep.drewN (Keep.setCell (F:=fun i=>i=c) ((Keep.refl _ _).drewN _) (p:=⟨c,a*2,none⟩) (.inl rfl) _) _⟩
   · have b1:decide ((b:Int) > (g:Int))=false:=zBy oM;by_cases n:d<=b
     · have b2:decide ((b:Int)>=(d:Int))=true:=zBz oM;have a1:wrap64 ((b:Int)+1)=((b+1:Nat):Int):=(by rw [cU oM oM];omega);have k:mvR g d b=b+1:=(by rw [l];unfold aQ;rw [zBw D];unfold inR;rw [zBx n]);rw [k];clear r l;go_enter func185,ntmps185;go_wp2_with fail;go_quiet (fail);go_wp2_with fail;go_quiet (fail);go_wp2_with fail;go_quiet (fail);go_wp2_with fail;go_end0;exact ⟨rfl,mL (C.out (b+1)) rfl,(Keep.setCell (F:=fun i=>i=c) ((Keep.refl _ _).drewN _) (p:=⟨c,a*2,none⟩) (.inl rfl) _)⟩
     · have b2:decide ((b:Int)>=(d:Int))=false:=zBy oM;have k:mvR g d b=b:=(by rw [l];unfold aQ;rw [zBw D];unfold inR;rw [zBw n]);rw [k,Y.out];clear r l;go_enter func185,ntmps185;go_wp2_with fail;go_quiet (fail);go_wp2_with fail;go_quiet (fail);go_wp2_with fail;go_quiet (fail);go_wp2_with fail;go_end0;exact ⟨rfl,A.out,(((Keep.refl _ _).drewN _).drewN _).drewN _⟩
def oX (B gp v S U o p:Nat) (l J K I:Value) (R P:Nat) (d:List Nat) (f:List (Nat×Nat)) (H:List Bool) (u:List Nat) (w:World) (x:PermAt w B gp v l J K I R P d f H u) (C:d.Nodup) (aR:d.length<=1000000) (aS:Bk w S 3 #[(o:Int)]) (aP:∀c,l.ownBlock=some c->c≠S) (aT:Bk w U 3 #[(p:Int)]) (aQ:∀c,l.ownBlock=some c->c≠U) (ai:∀a,a∈d->aB f a<=1000000000000/\aE f a<=1000000000000):
 Calls prog 179 #[gp,.func (.func 185) #[] #[S,U]] w fun j w'=>j=.returned (.tuple #[])/\Keep (fun c=>l.ownBlock=some c) w w'/\∃M,M.length=f.length/\(∀a,a∈d->(aB M a,aE M a)=(mvR o p (aB f a),aE f a))/\PermAt w' B gp v l J K I R P d M H u:=by
 obtain ⟨ap,aF,a9,_,_⟩:=aM x.orow;have aG:w.cell? ⟨gp,2,none⟩=some (.slice ap d.length aF):=(x.blk.cell 2).trans (by rw [a9];rfl);have b1:=x.blk.lt;obtain ⟨E,a8⟩:=eqx d.length;rw [a8] at aG aR;obtain ⟨aq,Hn,aD,az,au⟩:=hqq5 x a8 a9 C ai;clear x a8 a9 C ai;go_enter func179,ntmps179;go_wp2_with fail;go_loopw [11] (fun aa wr=>∃(g:Nat) (b:List (Nat×Nat)),g<=E/\aa=.int .i64 (g:Int)/\b.length=f.length/\(∀a,a∈d.take g->(aB b a,aE b a)=(mvR o p (aB f a),aE f a))/\(∀a,a∈d.drop g->(aB b a,aE b a)=(aB f a,aE f a))/\PermAt wr B gp v l J K I R P d b H u/\Keep (fun c=>l.ownBlock=some c) w wr) (fun aa _=>E -(intOf aa).toNat)
 case atStart=>exact ⟨0,f,zAp _,rfl,rfl,fun a m=>by simp at m,fun a _=>rfl,aq.out,Keep.refl _ _⟩
 case round=>
  obtain ⟨g,b,b3,rfl,a7,W,X,e,m⟩:=hrel;by_cases an:g < E
  · have y:g < d.length:=(by rw [Hn.out];exact an);obtain ⟨a,z⟩:∃a,d[g]?=some a:=⟨_,zAa y⟩;have a6:=zAd z;have a5:a < b.length:=e.lt a a6;have Y:=e.orow;rw [aD.out] at Y;obtain ⟨aK,b6,aI,_,b0⟩:=World.ownsRow.form Y oM;injection aI with e2a _ e2c;subst e2a e2c;have A:=e.lrow;obtain ⟨Q,ao,O,_,aZ⟩:=World.ownsRow.form A oM;rw [O] at A;have aH:wr.cell? ⟨aK,g,none⟩=some (.int .i64 (a:Int)):=(World.ownsRow.cellAt Y g oM).trans (by rw [zAf,z];rfl);have ah:wr.cell? ⟨gp,1,none⟩=some (.slice (some Q) b.length ao):=(e.blk.cell 1).trans (by rw [O];rfl);have b2:=e.blk.lt;have b5:=m.size;have al:a∈d.drop g:=(by rw [zAx y,List.getElem_eq_getElem?_get];simp [z]);have aL:(aB b a,aE b a)=(aB f a,aE f a):=X a al;injection aL with hCr hCp;have aV:=fun (c:Nat) (j:Value.ownBlock l=some c)=>(World.ownsRow.lt e.lrow c j).2;obtain ⟨ag,a3⟩:=eqx b.length;rw [a3] at A ah a5;have aW:=m.bk aS (fun j=>aP _ j rfl);have aX:=m.bk aT (fun j=>aQ _ j rfl);have b4:(a:Int) < (ag:Int):=oM;obtain ⟨a2,a1,af,ae,a0,aw,N,ay,ad⟩:=hqq9 e m A z W X a3 a7 O;obtain ⟨ac,av,ax⟩:=hqq3 hCr hCp a6;clear e m A z W X a3 a7 O hCr hCp a6 al Y aV;go_wp2_with fail;refine (wL B Q ag ao S U o p a b wr af.out (by rw [N.out];exact a5) aW aX (by rw [ac.out];exact (au.out a ax.out).1)).mono ?_;rintro j w1 ⟨rfl,am,r⟩
    have aj:PermAt w1 B gp v l J K I R P d (b.set a (mvR o p (aB b a),aE b a)) H u:=by
        have e:=a2.out;have D:∀c ab t,ab≠179->Bk wr c ab t->c≠Q:=fun c ab t ht n j=>by subst j;obtain ⟨aY,aN⟩:=cK af.out;exact ht (aJ n aN).1
        refine ⟨r.bk e.blk (D _ _ _ dC e.blk),?_,aA e.orow fun c t _ n=>r.bk n (D _ _ _ dC n),r.bk e.ar (D _ _ _ dC e.ar),aA e.trow fun c t _ n=>r.bk n (D _ _ _ dC n),aA e.frow fun c t _ n=>r.bk n (D _ _ _ dC n),e.apart,fun i k=>by rw [zAt];exact e.lt i k,e.lo⟩;rw [zAt,N.out,ad.out,N.out];exact am
    have ak:Keep (fun c=>l.ownBlock=some c) w w1:=a1.out.trans (r.mono fun c _ j=>by rw [ad.out,show c=Q from j];rfl)
    have a4:∀i,(aB (b.set a (mvR o p (aB b a),aE b a)) i,aE (b.set a (mvR o p (aB b a),aE b a)) i)=if i=a then (mvR o p (aB b a),aE b a) else (aB b i,aE b i):=fun i=>by
        unfold aB aE;rw [zAb,zBm];by_cases q:a=i;subst q;rw [zBx rfl,zBx rfl,zBx (by rw [N.out];exact a5)];rfl
        · rw [zBw q,zBw (fun j=>q j.symm),zAb]
    have hrel:∃(Z:Nat) (s:List (Nat×Nat)),Z<=E/\Value.int .i64 ((g+1:Nat):Int)=.int .i64 (Z:Int)/\s.length=f.length/\(∀a,a∈d.take Z->(aB s a,aE s a)=(mvR o p (aB f a),aE f a))/\(∀a,a∈d.drop Z->(aB s a,aE s a)=(aB f a,aE f a))/\PermAt w1 B gp v l J K I R P d s H u/\Keep (fun c=>l.ownBlock=some c) w w1:=by
        refine ⟨g+1,_,by omega,rfl,by rw [zAt];exact ay.out,fun i k=>?_,fun i k=>?_,aj,ak⟩
        · rw [a4];by_cases q:i=a
          · subst q;rw [zBx rfl,ac.out,av.out]
          rw [zBw q];refine a0.out i ?_;rw [zAv,ae.out] at k;simp at k;rcases k with k | k;exact k;exact absurd k q
        · rw [a4];have aU:i≠a:=fun j=>by subst j;have aO:d.drop g=i::d.drop (g+1):=(by have y:g < d.length:=(by rw [Hn.out];exact an);rw [zAx y];have V:=ae.out;rw [zAa y] at V;injection V with V;rw [V]);have C:=(List.drop_sublist g d).nodup az.out;rw [aO,List.nodup_cons] at C;exact C.1 k
          rw [zBw aU];exact aw.out i (List.mem_of_mem_drop (by rw [<-List.drop_drop] at k;exact k:i∈(d.drop g).drop 1))
    have aC:=lhd hrel;clear aj ak a4 hrel r am ah aH;go_wp2_with fail;go_roundw
    case rel=>exact aC.out
    case measure=>simp [intOf];omega
  · obtain rfl:g=E:=oM;obtain ⟨a2,a1,a0⟩:=hqq3 e m W;clear e m W X;go_wp2_with fail;go_end0;refine ⟨rfl,a1.out,b,a7,fun a m=>a0.out a ?_,a2.out⟩;rw [zAg (by rw [Hn.out];exact zAs _)];exact m
end Go.Proofs.YtnmapianpjamnaaGreatDoor
