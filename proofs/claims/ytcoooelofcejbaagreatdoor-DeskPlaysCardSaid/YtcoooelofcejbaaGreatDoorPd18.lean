/- Lemmas of the walk. Conditions: each its own. -/
import Derived.Test.YtcoooelofcejbaaGreatDoorPd15
import Derived.Test.YtcoooelofcejbaaGreatDoorPd16
import Derived.Test.YtcoooelofcejbaaGreatDoorProg
import Derived.Test.YtcoooelofcejbaaGreatDoorShl
set_option linter.all false
set_option maxRecDepth 100000
set_option maxHeartbeats 4000000
open Go.Proofs.Tryz
namespace Go.Proofs.YtcoooelofcejbaaGreatDoor
open Go.RowKit
def aC7 (d e:Nat) {p:Nat} (a:Bool) (b:World) (j:p<=1000):
 Calls prog 211 #[.agg #[d,(e:Int),(p:Int)],.bool a] b fun c f=>c=.returned (.int .i64 ((2*p+(if a then 1 else 0):Nat):Int))/\Below b.heap.size b f:=by
 have g:IntKind.i64.wrap (2*(p:Int))=2*(p:Int):=by rw [IntKind.wrap_i64];omega
 have i:IntKind.i64.wrap (2*(p:Int)+1)=2*(p:Int)+1:=by rw [IntKind.wrap_i64];omega
 go_enter func211,ntmps211;cases a with
 | true=>
   go_wp2_with fail;go_ret;exact ⟨eS (by simp),bR.alloc nL _⟩
 | false=>
   go_wp2_with fail;go_ret;exact ⟨eS (by simp),bR.alloc nL _⟩
def dR {B gv:Nat} {L:List Nat} (l e:Nat) {w:World} (j:WaveAt w B gv L) (N:l < L.length) (a0:L[l]=e) (W:∀A∈L,A < 257) (c2:L.length<=1000):
 Calls prog 139 #[gv,(l:Int)] w fun I cb=>I=.returned (.tuple #[(e:Int),.int .i64 0])/\VB B w cb:=by
 have a3:e < 257:=by rw [<-a0];exact W _ (zBj N)
 have aU:=lE (L:=L) (k:=l) (s0:=e) (zCm N) W a3;have bd:=nW (s:=e) a3;have be:=nY e;have aY:∀a,(aI L a (aW e a))[fB L l e a]?=some (fR e a):=fun a=>by have:=aBh (L:=L) (k:=l) a N;rw [a0] at this;exact this
 obtain ⟨ad,o,a8,y,b3⟩:=j;have cL:=y.lt;have bW:B<=w.heap.size:=oM;have r:=(y.set 10 (.int .i64 0)).alloc (.cells #[(l:Int)] 3);rw [dS] at r;have ao:=VisK.alloc (VB.set_wave y ad 0) (.cells #[(l:Int)] 3);have D:=Bk.new (w.setCell ⟨gv,10,none⟩ (.int .i64 0)) 3 #[(l:Int)];rw [show (w.setCell ⟨gv,10,none⟩ (.int .i64 0)).heap.size=w.heap.size by simp [World.setCell]] at D;obtain ⟨G,ai⟩:=eqx L.length;rw [ai] at y r N c2;have bT:=y.frozen 10;have cd:w.cell? ⟨gv,10,none⟩=some (.int .i64 a8):=(y.cell 10).trans (bV o G a8).2.2.2.2.2.2.2.2.2.2;obtain ⟨t,ae⟩:=eqx ((w.setCell ⟨gv,10,none⟩ (.int .i64 0)).alloc (.cells #[(l:Int)] 3));rw [ae] at r ao D;obtain ⟨aK,aL,aM,aN,aO,aP,aQ,aR,aS,aT,bK⟩:=bV o (G:Int) 0;have ck:∀c,(t.drewN c).cell? gv=some (o 0):=fun c=>(r.cell 0).trans aK;have cl:∀c,(t.drewN c).cell? ⟨gv,1,none⟩=some (o 1):=fun c=>(r.cell 1).trans aL;have cm:∀c,(t.drewN c).cell? ⟨gv,2,none⟩=some (o 2):=fun c=>(r.cell 2).trans aM;have cn:∀c,(t.drewN c).cell? ⟨gv,3,none⟩=some (o 3):=fun c=>(r.cell 3).trans aN;have co:∀c,(t.drewN c).cell? ⟨gv,4,none⟩=some (o 4):=fun c=>(r.cell 4).trans aO;have cp:∀c,(t.drewN c).cell? ⟨gv,5,none⟩=some (o 5):=fun c=>(r.cell 5).trans aP;have cq:∀c,(t.drewN c).cell? ⟨gv,6,none⟩=some (o 6):=fun c=>(r.cell 6).trans aQ;have cs:∀c,(t.drewN c).cell? ⟨gv,7,none⟩=some (o 7):=fun c=>(r.cell 7).trans aR;have ct:∀c,(t.drewN c).cell? ⟨gv,8,none⟩=some (o 8):=fun c=>(r.cell 8).trans aS;have aG:t.cell? ⟨gv,9,none⟩=some (.int .i64 (G:Int)):=(r.cell 9).trans aT;have aJ:t.cell? w.heap.size=some (.int .i64 (l:Int)):=(D.cell 0).trans rfl;have cu:∀c,(t.drewN c).cell? ⟨gv,9,none⟩=some (.int .i64 (G:Int)):=fun c=>aG;have cw:∀c,(t.drewN c).cell? w.heap.size=some (.int .i64 (l:Int)):=fun c=>aJ;have c1:decide ((l:Int) < 0)=false:=by simp
 have cK:¬G<=l:=oM;obtain ⟨bw,cj,ay,bv,bm,bD,bE,bo,ce⟩:=hqq9 ao r D b3 aU bd be aY W;obtain ⟨cf,bn,ci,aw,ch⟩:=hqq5 ai ae a0 y N;clear aK aL aM aN aO aP aQ aR aS aT bK ao r D b3 aU bd be aY W ai ae y a0 N;go_enter func139,ntmps139;go_wp2_with fail;rw [bn.out];clear cd bT;go_quiet (fail);clear aG aJ c1;go_wp2_with fail;go_loopw [6,30] (fun A U wr=>∃a:Nat,a<=9/\U=.int .i64 a/\A=.int .i64 ((aW e a:Nat):Int)/\VB B w wr/\Bk wr w.heap.size 3 #[.int .i64 ((fB L l e a:Nat):Int)]/\w.heap.size < wr.heap.size) (fun _ U _=>9 -(intOf U).toNat)
 case atStart=>exact ⟨0,by omega,rfl,by rw [bD.out];rfl,bw.out.below (below_drewN bR _),by rw [bm.out];exact ay.out.drewN _,ay.out.lt⟩
 case round=>
  obtain ⟨a,cM,rfl,rfl,a4,D,cI⟩:=hrel;by_cases a1:a < 9
  · have c0:=ix9 (lv:=a) o a1;obtain ⟨x,T,an⟩:=bv.out a a1;obtain ⟨au,ah⟩:=eqx (2 ^ a);obtain ⟨b,J⟩:=eqx (aW e a);have b2:b < au:=(by rw [<-ah,<-J];exact lP (s:=e) a a3 oM);rw [ah] at T an;obtain ⟨ac,cv,aV,cN,cH⟩:=World.ownsRow.form T oM;rw [aV] at c0 T;obtain ⟨A,a6⟩:=eqx (fB L l e a);obtain ⟨aa,ar⟩:=eqx (fB L l e (a+1));obtain ⟨q,R⟩:=eqx (fR e a);have aq:=lF (lv:=a) L l e a1;have a7:=bo.out a;rw [J,a6,R,ar] at aq;rw [J,a6,R] at a7;have bc:A < (aI L a b).length:=(zAc.1 a7).1;have bb:(aI L a b).getD A false=q:=(by rw [zAb,a7];rfl);have aj:=nX (lv:=a) e a1;rw [J,R] at aj;rw [J];rw [a6] at D;have cO:(b:Int) < (au:Int):=oM;have a2:=a4.1.own T dC dC;obtain ⟨bh,bi,bj⟩:=eU x a au b b2;have bF:wr.cell? ⟨ac,b*3,none⟩=_:=(World.ownsRow.cellAt a2 (b*3) oM).trans bh;have bG:wr.cell? ⟨ac,b*3+1,none⟩=_:=(World.ownsRow.cellAt a2 (b*3+1) oM).trans bi;have bI:wr.cell? ⟨ac,b*3+2,none⟩=_:=(World.ownsRow.cellAt a2 (b*3+2) oM).trans bj;obtain ⟨az,bB,aF,bA,br,V,bq,cg,bC⟩:=hqq9 D aq bc bb aj (an b b2) J R ar;have ab:=lhd a4;clear T an aV ah J a6 ar R aq a7 bc bb aj a4 D a2 bh bi bj;go_wp2_with fail;obtain ⟨P,Q⟩:=eqx ((wr.alloc (.cells #[.pointer (some ⟨x b,0,none⟩),(a:Int),(b:Int)] 211)).alloc (.cells #[.bool false] 4));have M:Below wr.heap.size wr P:=(by rw [<-Q];exact (bR.alloc nL _).alloc (by simp) _);have b4:Bk P wr.heap.size 211 #[.pointer (some ⟨x b,0,none⟩),(a:Int),(b:Int)]:=(by rw [<-Q];exact (Bk.new wr _ _).alloc _);have aZ:Bk P (wr.heap.size+1) 4 #[.bool false]:=(by rw [<-Q];have j:=Bk.new (wr.alloc (.cells #[.pointer (some ⟨x b,0,none⟩),(a:Int),(b:Int)] 211)) 4 #[.bool false];rw [World.size_alloc] at j;exact j);rw [Q];have b6:VB B w P:=ab.out.below M;obtain ⟨c8,ba⟩:=b6.1.waveC aw.out;have b5:=V.out.2.vis ab.out.1;have af:=az.out.below M az.out.lt;refine (aGO (gv:=gv) (gt:=(x b)) (gk:=w.heap.size) (gn:=(wr.heap.size+1)) (S:=o) (n:=G) (v:=c8) (bs:=(aI L a b)) (k:=A) (w0:=wr) (w:=P) a b ba b5 (Vis.of_below M) oM af aZ aF.out).mono ?_;rintro I H ⟨rfl,Y,b1,X⟩;rw [bA.out] at X;have ag:=Y.bk af dC dC (fun j=>absurd (show w.heap.size=wr.heap.size+1 from j) oM);have am:=Y.bk b4 dC dC (fun j=>absurd (show wr.heap.size=wr.heap.size+1 from j) oM)
    have b7:VB B wr H:=⟨VisF.to_vis (VisF.trans (VisF.of_vis (Vis.of_below M)) Y) (fun q y I=>by have:q=wr.heap.size+1:=I;omega),(Keep.of_below M).trans (b1.mono fun q _ I=>by
        rcases I with rfl | rfl | rfl;exact ad;exact V.out.1
        · omega)⟩
    have b9:=ab.out.trans b7;obtain ⟨aA,aC,ax,aD⟩:=hqq4 ag am X b9;have cJ:=ag.lt;have cQ:=am.lt;have cG:=X.lt;obtain ⟨av,al⟩:=eqx (aW e (a+1));have ak:=br.out;rw [al] at ak;obtain ⟨bu,bt⟩:=hqq2 al ak;have c3:b<=1000:=(by have bU:=lP (s:=e) a a3 oM;have cF:2 ^ a<=2 ^ 9:=zBp dC oM;rw [bq.out] at bU;omega);clear Q M b4 aZ b6 ba b5 af Y b1 X ag am b7 b9 al ak bF bG bI;go_wp2_with fail;refine wp_region_any kR ?_;refine bQ (pre:=(fun _=>True)) (pJ:=(is (av:Int))) B 8 [41,42,43,44,45,46,47,48] (fun _=>False) 7 [] [is gv,is (.agg #[.pointer (some ⟨x b,0,none⟩),(a:Int),(b:Int)]),is (A:Int),is (.bool q),is (aa:Int),is (.agg #[.pointer (some ⟨x b,0,none⟩),(a:Int),(b:Int)]),is (.bool q),dJ] _ rfl dC kR kR kR (trivial) (fun _ _ _ _ _=>trivial) (gW _ _) tA0 ?_ ?_
    · refine bH ?_;refine pH3 0 (.pointer (some gv)) ?_;refine sC3 (fun u g d _ _ _ E _ _ _ _ m=>?_) ?_
      · replace d:VFB B (fun _=>False) H g:=fD d;have bS:u (.tmp 9)=.pointer (some ⟨wr.heap.size,0,none⟩):=E 9 kR;have K:=d.1.bk aC.out dC dC (fun j=>j);have bl:g.cell? ⟨wr.heap.size,0,none⟩=some (.pointer (some ⟨x b,0,none⟩)):=(K.cell 0).trans rfl;have c6:g.cell? ⟨wr.heap.size,1,none⟩=some (.int .i64 (a:Int)):=(K.cell 1).trans rfl;have c7:g.cell? ⟨wr.heap.size,2,none⟩=some (.int .i64 (b:Int)):=(K.cell 2).trans rfl;go_simp;exact m _ _ (aE vR) rfl
      refine sC3 (fun u g d _ _ _ E _ _ _ _ m=>?_) ?_
      · replace d:VFB B (fun _=>False) H g:=fD d;have cx:u (.tmp 3)=.pointer (some w.heap.size):=E 3 kR;have cR:g.cell? w.heap.size=some (.int .i64 (A:Int)):=((d.1.bk aA.out dC dC (fun j=>j)).cell 0).trans rfl;go_simp;exact m _ _ (aE vR) rfl
      refine sC3 (fun u g d _ _ _ E _ _ _ _ m=>?_) ?_
      · replace d:VFB B (fun _=>False) H g:=fD d;have bM:u (.tmp 10)=.pointer (some ⟨wr.heap.size+1,0,none⟩):=E 10 kR;have bJ:g.cell? ⟨wr.heap.size+1,0,none⟩=some (.bool q):=((d.1.bk ax.out dC dC (fun j=>j)).cell 0).trans rfl;go_simp;exact m _ _ (aE vR) rfl
      refine sC3 (fun _ g d _ _ _ _ z _ _ _ m=>?_) ?_
      · replace d:VFB B (fun _=>False) H g:=fD d;have cy:_=_:=z 0 41 kR rfl;have cz:_=_:=z 1 42 kR rfl;have cA:_=_:=z 2 43 kR rfl;have cB:_=_:=z 3 44 kR rfl;go_simp;have O:=VFB.to_vb d (fun q _ j=>j);have b8:=aD.out.trans O;obtain ⟨c9,c5⟩:=b8.1.waveC aw.out;have c4:=V.out.2.vis b8.1;refine (mC (gv:=gv) (gt:=(x b)) (S:=o) (n:=G) (v:=c9) (bs:=(aI L a b)) (k:=A) (w:=g) a b q c5 c4 (zCm aF.out)).mono ?_;rintro I cc ⟨rfl,a5⟩;rw [bB.out];exact m _ _ (aE (a5.mono fun q y=>by rcases y with rfl | rfl;exact ad;exact V.out.1)) rfl
      refine sC3 (fun u g d _ _ _ E _ _ _ _ m=>?_) ?_
      · replace d:VFB B (fun _=>False) H g:=fD d;have bS:u (.tmp 9)=.pointer (some ⟨wr.heap.size,0,none⟩):=E 9 kR;have K:=d.1.bk aC.out dC dC (fun j=>j);have bl:g.cell? ⟨wr.heap.size,0,none⟩=some (.pointer (some ⟨x b,0,none⟩)):=(K.cell 0).trans rfl;have c6:g.cell? ⟨wr.heap.size,1,none⟩=some (.int .i64 (a:Int)):=(K.cell 1).trans rfl;have c7:g.cell? ⟨wr.heap.size,2,none⟩=some (.int .i64 (b:Int)):=(K.cell 2).trans rfl;go_simp;exact m _ _ (aE vR) rfl
      refine sC3 (fun u g d _ _ _ E _ _ _ _ m=>?_) ?_
      · replace d:VFB B (fun _=>False) H g:=fD d;have bM:u (.tmp 10)=.pointer (some ⟨wr.heap.size+1,0,none⟩):=E 10 kR;have bJ:g.cell? ⟨wr.heap.size+1,0,none⟩=some (.bool q):=((d.1.bk ax.out dC dC (fun j=>j)).cell 0).trans rfl;go_simp;exact m _ _ (aE vR) rfl
      refine sC3 (fun _ g _ _ _ _ _ z _ _ _ m=>?_) ?_
      · have cC:_=_:=z 5 46 kR rfl;have cD:_=_:=z 6 47 kR rfl;go_simp;refine (aC7 (p:=b) (x b) a q g c3).mono ?_;rintro I cc ⟨rfl,bZ⟩;rw [<-bt.out];exact m _ _ (aE (VisK.of_below bZ)) rfl
      exact aH
    · intro u a9 C d z aX;replace d:VFB B (fun _=>False) H a9:=fD d;have bN:u (.tmp 45)=.int .i64 (aa:Int):=z 4 45 dC rfl;have bP:u (.tmp 48)=.int .i64 (av:Int):=z 7 48 dC rfl;obtain ⟨ca,bg⟩:=aX 7 dC;have bf:(is (av:Int)) ca a9:=bg;clear bg aX;simp only [zqq];rw [bN];rw [bP];clear z;have O:=VFB.to_vb d (fun q _ j=>j);have Z:=O.1.bk aA.out dC dC;have cr:=Z.cell 0;have cE:=Z.frozen 0;have cP:=O.1.size;obtain ⟨bz,bp⟩:=hqq2 O Z;clear O Z d bf;change wpAny prog Region.Mode.any _ _ (2+C) (bX 8 10) _ a9;rw [show 2+C=C+1+1 by omega];refine bL (f:=C+1) (i:=8) kR ?_;refine bY rfl rfl ?_;generalize m:wpAny prog _ _ _ (C+1) _=K5;go_simp;subst m;refine bL (f:=C) (i:=9) kR ?_;refine bY rfl rfl ?_;generalize m:wpAny prog _ _ _ C _=K5;go_simp;subst m;refine bO kR ?_;have b0:=bp.out.set 0 (.int .i64 (aa:Int));have ap:=aD.out.trans bz.out;have a5:VB B w (a9.setCell w.heap.size (.int .i64 (aa:Int))):=⟨Vis.fresh ap.1 (p:=w.heap.size) nL _,Keep.setCell (F:=fun q=>B<=q) ap.2 (p:=w.heap.size) (.inl bW) _⟩;obtain ⟨bx,aB⟩:=hqq2 a5 b0;clear ap a5 b0;go_wp2_with fail;go_roundw
      case rel=>exact ⟨a+1,by omega,by go_num,by rw [bu.out],bx.out,by rw [bC.out];exact aB.out,aB.out.lt⟩
      case measure=>simp [intOf];omega
  · obtain rfl:a=9:=oM;rw [bE.out];go_wp2_with fail;go_ret2;exact ⟨rfl,a4⟩
def xD {I g:Nat} {own:Nat->Nat} {f:List Nat} {j m:Nat} {d:World} (n:WaveE d I own g f) (aC:f[j]?=some m) (a9:∀r∈f,r < 257) (cG:f.length<=128):
 Calls prog 212 #[g,(j:Int)] d fun o aT=>o=.returned (.tuple #[(m:Int),.int .i64 0])/\∃aS,WaveE aT I aS g (aG f j)/\(∀a,a < d.heap.size->aS a=own a)/\(∀a,d.heap.size<=a->aS a≠1)/\Keep (fun a=>a=g∨16<=own a) d aT:=by
 obtain ⟨O,aD⟩:=zAc.1 aC;have aN:m < 257:=by rw [<-aD];exact a9 _ (zBj O)
 have bj:=lE (zCm O) a9 aN;have bN:=nW aN;have bO:=nY m;have bo:∀b,(aI f b (aW m b))[fB f j m b]?=some (fR m b):=fun b=>by have:=aBh b O;rw [aD] at this;exact this
 obtain ⟨q,dE,n⟩:=n;obtain ⟨u,ad⟩:=eqx f.length;rw [ad] at n O cG;have bB:(aG f j).length+1=u:=by rw [cM oM,ad]
 obtain ⟨cu,ct,cr⟩:=n.cells;have cw:=n.blk.frozen 10;have cE:=n.blk.lt;have dh:I<=d.heap.size:=zAk n.base.1 (zCm cE);obtain ⟨bT,L⟩:=n.vis ((VisK.alloc (VB.set_wave n.blk n.base.1 0) (.cells #[(j:Int)] 3)).1);have cA:g≠d.heap.size:=oM;have N:=Bk.new (d.setCell ⟨g,10,none⟩ (.int .i64 0)) 3 #[(j:Int)];rw [show (d.setCell ⟨g,10,none⟩ (.int .i64 0)).heap.size=d.heap.size by simp [World.setCell]] at N;have aB:Keep (fun a=>a=g∨16<=own a) d ((d.setCell ⟨g,10,none⟩ (.int .i64 0)).alloc (.cells #[(j:Int)] 3)):=(Keep.setCell (F:=fun a=>a=g∨16<=own a) (Keep.refl _ _) (p:=⟨g,10,none⟩) (.inl (.inl rfl)) _).alloc _;obtain ⟨s,aq⟩:=eqx ((d.setCell ⟨g,10,none⟩ (.int .i64 0)).alloc (.cells #[(j:Int)] 3));rw [aq] at L N aB;obtain ⟨v,ba,cs⟩:=L.cells;have d3:∀e,(s.drewN e).cell? g=some (q 0):=fun e=>v 0 oM;have G:∀e,(s.drewN e).cell? ⟨g,1,none⟩=some (q 1):=fun e=>v 1 oM;have an:∀e,(s.drewN e).cell? ⟨g,2,none⟩=some (q 2):=fun e=>v 2 oM;have d4:∀e,(s.drewN e).cell? ⟨g,3,none⟩=some (q 3):=fun e=>v 3 oM;have d5:∀e,(s.drewN e).cell? ⟨g,4,none⟩=some (q 4):=fun e=>v 4 oM;have d6:∀e,(s.drewN e).cell? ⟨g,5,none⟩=some (q 5):=fun e=>v 5 oM;have d7:∀e,(s.drewN e).cell? ⟨g,6,none⟩=some (q 6):=fun e=>v 6 oM;have d8:∀e,(s.drewN e).cell? ⟨g,7,none⟩=some (q 7):=fun e=>v 7 oM;have d9:∀e,(s.drewN e).cell? ⟨g,8,none⟩=some (q 8):=fun e=>v 8 oM;have bb:s.cell? ⟨g,9,none⟩=some (.int .i64 (u:Int)):=ba;have bc:s.cell? d.heap.size=some (.int .i64 (j:Int)):=(N.cell 0).trans rfl;have cD:decide ((j:Int) < 0)=false:=by simp
 have du:¬u<=j:=oM;have dj:=L.blk.lt;have di:=N.lt;obtain ⟨aU,c8,cd,bV,cW,bY,cc,c0,cZ⟩:=hqq9 L N aB bj a9 ad bB aq O;obtain ⟨cX,bt,co,cp,c1,b3⟩:=hqq6 n.base n.bnd bN bO bo aC;have da:∀e,(s.drewN e).cell? ⟨g,9,none⟩=some (.int .i64 (u:Int)):=fun e=>bb;have db:∀e,(s.drewN e).cell? d.heap.size=some (.int .i64 (j:Int)):=fun e=>bc;clear n L N aB bj a9 ad bB aq cu v ba cs O bN bO bo aC aD;go_enter func212,ntmps212;go_wp2_with fail;rw [c0.out];clear cr cw ct;go_quiet (fail);clear bb bc cD;go_wp2_with fail;go_loopw [6,31] (fun cV aQ wr=>∃(b:Nat) (k:Nat->Nat) (R:Int),b<=9/\aQ=.int .i64 b/\cV=.int .i64 ((aW m b:Nat):Int)/\WaveS wr I k g q (fun t=>if t < b then aG f j else f) (u:Int) R/\Bk wr d.heap.size 3 #[.int .i64 ((fB f j m b:Nat):Int)]/\(∀a,a < d.heap.size->k a=own a)/\(∀a,d.heap.size<=a->k a≠1)/\k d.heap.size=0/\Keep (fun a=>a=g∨16<=own a) d wr) (fun _ aQ _=>9 -(intOf aQ).toNat)
 case atStart=>refine ⟨0,own,bT,by omega,rfl,by rw [co.out];rfl,?_,?_,fun _ _=>rfl,fun a z o=>?_,?_,?_⟩;obtain ⟨bU,bi⟩:=aU.out.vis (Vis.of_below (below_drewN bR _));have:bU=bT:=(by have al:=bi.cells.2.2;have am:=aU.out.cells.2.2;have T:=am.symm.trans al;injection T with T;injection T with _ T;exact T.symm);subst this;simpa using bi;rw [bV.out];exact c8.out.drewN _;have:=(bt.out a oM).2;omega;rcases zBa (own d.heap.size) with o | o;exact o;have:=(bt.out d.heap.size oM).2;omega;exact cd.out.drewN _
 case round=>
  obtain ⟨b,k,R,dv,rfl,rfl,B,aa,ae,af,aF,ab⟩:=hrel;by_cases P:b < 9
  · have cC:=ix9 q P;obtain ⟨w,x,cH,aO⟩:=B.rows b P;obtain ⟨aR,ac⟩:=eqx (2 ^ b);obtain ⟨c,y⟩:=eqx (aW m b);have aH:c < aR:=(by rw [<-ac,<-y];exact lP b aN oM);have bG:c < 2 ^ b:=(by rw [ac];exact aH);have cz:=lhd x;rw [ac] at x aO;obtain ⟨ap,ao,bn,dw,dt⟩:=World.ownsRow.form x oM;rw [bn] at cC x;obtain ⟨r,a2⟩:=eqx (fB f j m b);obtain ⟨l,C⟩:=eqx (fB f j m (b+1));obtain ⟨a,Y⟩:=eqx (fR m b);have aP:=lF f j m P;have ah:=c1.out b;have au:=aEr b b3.out;have av:=fun e=>yM b e b3.out;have ag:=nX m P;rw [y,a2,Y,C] at aP;rw [y,a2,Y] at ah;rw [y,a2] at au;rw [y] at av;rw [y,Y] at ag;have bM:r < (aI f b c).length:=(zAc.1 ah).1;have bL:(aI f b c).getD r false=a:=(by rw [zAb,ah];rfl);rw [a2] at aa;rw [y];obtain ⟨cL,aJ⟩:=eqx (aW m (b+1));rw [aJ] at ag;have cI:c<=1000:=(by have:=aKf P bG;omega);have bK:TreeE wr (fun a=>k a=TC b c) (w c) (aI f b c):=(by have:=aO c aH;rw [zBw oM] at this;exact this);have dz:(c:Int) < (aR:Int):=oM;obtain ⟨d1,b8,cm,a7,c5,c6,cl,ch,ci⟩:=hqq9 x bK aP bM au av bL ag aJ;obtain ⟨d2,cY,cn,a6,a5,S,aj,b5,b2⟩:=hqq9 y Y C B aa ae af aF ab;clear aO bn ac y a2 C Y aP bM ah au av bL ag aJ B aa ae af aF ab bK cH;obtain ⟨bP,bQ,bS⟩:=eU w b aR c aH;have cq:wr.cell? ⟨ap,c*3,none⟩=_:=(World.ownsRow.cellAt x (c*3) oM).trans bP;have al:wr.cell? ⟨ap,c*3+1,none⟩=_:=(World.ownsRow.cellAt x (c*3+1) oM).trans bQ;have am:wr.cell? ⟨ap,c*3+2,none⟩=_:=(World.ownsRow.cellAt x (c*3+2) oM).trans bS;have cK:wr.cell? d.heap.size=some (.int .i64 (r:Int)):=(a5.out.cell 0).trans rfl;have ds:=a5.out.lt;clear bP bQ bS x;go_wp2_with fail;obtain ⟨ak,V⟩:=eqx ((wr.alloc (.cells #[.pointer (some ⟨w c,0,none⟩),(b:Int),(c:Int)] 211)).alloc (.cells #[.bool false] 4));have br:Below wr.heap.size wr ak:=(by rw [<-V];exact (bR.alloc nL _).alloc (by simp) _);have bq:Bk ak wr.heap.size 211 #[.pointer (some ⟨w c,0,none⟩),(b:Int),(c:Int)]:=(by rw [<-V];exact (Bk.new wr _ _).alloc _);have bp:Bk ak (wr.heap.size+1) 4 #[.bool false]:=(by rw [<-V];have n:=Bk.new (wr.alloc (.cells #[.pointer (some ⟨w c,0,none⟩),(b:Int),(c:Int)] 211)) 4 #[.bool false];rw [World.size_alloc] at n;exact n);rw [V];obtain ⟨c3,c2,J⟩:=hqq3 bq bp br;clear bq bp br V cq al am cK;obtain ⟨dF,bg⟩:=a6.out.vis (Vis.of_below J.out);have bx:=a5.out.below J.out a5.out.lt;have bH:=b8.out.below J.out;have bA:=a6.out.base.2;have bu:=a6.out.bnd;have dB:=J.out.size;have cB:=a6.out.blk.lt;obtain ⟨aV,ca,b7,cb,aY⟩:=hqq5 bg bx bH bA bu;clear bg bx bH bA bu;refine (mC b c true aV.out.blk b7.out.at (zCm a7.out)).mono ?_;rintro o K ⟨rfl,A⟩;obtain ⟨Q,aE⟩:=eqx (((aI f b c).take r).count true);have bF:(if a then Q else r - Q)=l:=(by have L:=pT ((aI f b c).take r);have cx:((aI f b c).take r).length=r:=(by rw [zAj];have:=a7.out;omega);have cy:=cm.out;cases a;simp;omega;simp;omega);have dx:Q<=r:=(by rw [<-aE];exact zAk zBv (by rw [zAj];omega));rw [aE];obtain ⟨dG,bh⟩:=aV.out.vis A.1;have bI:=b7.out.vis A.1;have az:=A.1.bk ca.out dC dC;have M:=A.1.bk c3.out dC dC;have ar:=A.1.bk c2.out dC dC;have dD:=A.1.size;have cO:K.cell? ⟨wr.heap.size,0,none⟩=some (.pointer (some ⟨w c,0,none⟩)):=(M.cell 0).trans rfl;have cP:K.cell? ⟨wr.heap.size,1,none⟩=some (.int .i64 (b:Int)):=(M.cell 1).trans rfl;have cQ:K.cell? ⟨wr.heap.size,2,none⟩=some (.int .i64 (c:Int)):=(M.cell 2).trans rfl;have dn:=M.lt;have dl:=ar.lt;have dr:=az.lt;have cF:∀(bd:Fn) (first ao:Array Value) (d:World),(Instr.makeFunc bd first ao).run prog d=.ok (.func bd first ao) d:=fun _ _ _ _=>rfl;obtain ⟨b4,ai,ck,b0,c4,aX,b9⟩:=hqq7 bF bh bI az M ar A;clear aE bF bh bI az M ar A;go_wp2_with fail;have a4:∀l,wr.heap.size<=l->¬(k l=TC b c):=fun l C i=>by have:=(aY.out l (by rw [i];unfold TC;omega)).2;omega
    refine (aGP b c ai.out.blk ck.out (fun i=>by rw [cb.out] at i;unfold TC at i;omega) (a4 _ oM) (fun l C=>(ai.out.bnd l (by rw [C];unfold TC;omega)).2) b0.out aX.out (fun l C o=>a4 l oM C) a7.out).mono ?_;rintro o E ⟨rfl,bJ,a1,Z,bU,bs⟩;rw [cl.out] at Z
    have ay:=ai.out.edit (lv:=b) (p:=c) (gx:=wr.heap.size+1) P bG (aA (aM cz.out J.out) fun a cv _ ax=>b9.out.1.bk ax dC dC) (by
        rcases zBa (k (wr.heap.size+1)) with o | o;omega
        · have:=(aY.out _ (by omega:k (wr.heap.size+1)≠0)).2;omega) (fun cv ax=>absurd (aL ax aX.out).1 dC) bJ a1 bs (L':=aG f j) c5.out (fun e cJ=>by rw [zBw (zCl _)];exact c6.out e (fun o=>cJ o.symm))
    have bv:(fun t=>if t=b then aG f j else if t < b then aG f j else f)=fun t=>if t < b+1 then aG f j else f:=by
        funext t;by_cases G:t=b
        · rw [zBx G,zBx oM]
        · by_cases an:t < b
          · rw [zBw G,zBx an,zBx oM]
          · rw [zBw G,zBw an,zBw oM]
    rw [bv] at ay
    have bz:=a1.bk b0.out (fun i=>by
        rcases i with i | i | i;have a8:k d.heap.size=TC b c:=i;rw [b5.out] at a8;unfold TC at a8;omega;exact cA i.symm
        · omega)
    have X:=a1.bk c4.out (fun i=>by
        rcases i with i | i | i;exact a4 _ nL i;omega
        · omega)
    have cR:E.cell? ⟨wr.heap.size,0,none⟩=some (.pointer (some ⟨w c,0,none⟩)):=(X.cell 0).trans rfl;have cS:E.cell? ⟨wr.heap.size,1,none⟩=some (.int .i64 (b:Int)):=(X.cell 1).trans rfl;have cT:E.cell? ⟨wr.heap.size,2,none⟩=some (.int .i64 (c:Int)):=(X.cell 2).trans rfl;have cU:E.cell? ⟨wr.heap.size+1,0,none⟩=some (.bool a):=(Z.cell 0).trans rfl;have dp:=X.lt;have dm:=Z.lt;have bl:k (w c)=TC b c:=b8.out.fg;obtain ⟨c7,ce,b1,aZ,bX,d0⟩:=hqq6 ay a1 bz Z bl a4;clear bJ a1 bs ay bv bz X Z cO cP cQ cF bl a4;go_wp2_with fail;refine (aC7 (w c) b a E cI).mono ?_;rintro o D ⟨rfl,W⟩;rw [<-ch.out];obtain ⟨cN,be⟩:=c7.out.vis (Vis.of_below W);have a0:=b1.out.below W b1.out.lt;have aw:=aZ.out.below W aZ.out.lt;have dJ:D.cell? ⟨wr.heap.size+1,0,none⟩=some (.bool a):=(aw.cell 0).trans rfl;have dK:D.cell? d.heap.size=some (.int .i64 (r:Int)):=(a0.cell 0).trans rfl;have df:=a0.frozen 0;have dq:=a0.lt;have dk:=aw.lt;have bw:=a0.set 0 (.int .i64 (l:Int));have aK:dI k K.heap.size E.heap.size (TC b c) d.heap.size=0:=(by unfold dI;rw [zBx oM];exact b5.out);have bf:=be.far (w':=D.setCell d.heap.size (.int .i64 (l:Int))) (H:=fun a=>a=d.heap.size) (Keep.setCell (F:=fun a=>a=d.heap.size) (Keep.refl _ _) (p:=d.heap.size) (.inl rfl) _) (fun a o=>by rw [show a=d.heap.size from o,aK];omega);have dA:=b2.out.size
    have bC:Keep (fun a=>a=g∨16<=own a) d (D.setCell d.heap.size (.int .i64 (l:Int))):=Keep.setCell (F:=fun a=>a=g∨16<=own a) ((((b2.out.trans (Keep.of_below J.out)).trans' b9.out.2 (fun a z i=>by
        rcases i with i | i;exact .inl i
        · right;rw [<-S.out a z,i,bX.out];unfold TC;omega)).trans' ce.out (fun a z i=>by
        rcases i with i | i | i;right;have a8:k a=TC b c:=i;rw [<-S.out a z,a8];unfold TC;omega;exact .inl i
        · omega)).trans (Keep.of_below W)) (p:=d.heap.size) (.inr nL) _
    obtain ⟨bW,c9,cf,cj⟩:=hqq4 bf bw bC aK;clear W be a0 aw bw bf bC aK cR cS cT cU
    have hrel:∃(a3:Nat) (k:Nat->Nat) (R:Int),a3<=9/\Value.int .i64 ((b+1:Nat):Int)=.int .i64 a3/\Value.int .i64 (cL:Int)=.int .i64 ((aW m a3:Nat):Int)/\WaveS (D.setCell d.heap.size (.int .i64 (l:Int))) I k g q (fun t=>if t < a3 then aG f j else f) (u:Int) R/\Bk (D.setCell d.heap.size (.int .i64 (l:Int))) d.heap.size 3 #[.int .i64 ((fB f j m a3:Nat):Int)]/\(∀a,a < d.heap.size->k a=own a)/\(∀a,d.heap.size<=a->k a≠1)/\k d.heap.size=0/\Keep (fun a=>a=g∨16<=own a) d (D.setCell d.heap.size (.int .i64 (l:Int))):=by
        refine ⟨b+1,dI k K.heap.size E.heap.size (TC b c),cN,by omega,rfl,by rw [ci.out],bW.out,?_,fun a z=>?_,fun a z=>?_,cj.out,cf.out⟩;rw [cn.out];exact c9.out;unfold dI;rw [zBx oM];exact S.out a z
        · unfold dI;by_cases G:a < K.heap.size;rw [zBx G];exact aj.out a z
          · rw [zBw G];unfold TC;split <;> omega
    have b6:=lhd hrel;clear hrel;cases a with
    | true=>
      obtain rfl:Q=l:=(by have:=b4.out;simpa using this);go_wp2_with fail;go_roundw
      case rel=>exact b6.out
      case measure=>simp [intOf];omega
    | false=>
      have dy:r - Q=l:=(by have:=b4.out;simpa using this);have dd:IntKind.i64.wrap ((r:Int) -(Q:Int))=(l:Int):=(by have cx:=a7.out;have cy:(aI f b c).length<=f.length:=(by rw [jG];exact zBh);have dg:=bY.out;rw [IntKind.wrap_i64];omega);go_wp2_with fail;go_roundw
      case rel=>exact b6.out
      case measure=>simp [intOf];omega
  · obtain rfl:b=9:=oM;have U:WaveS wr I k g q (fun _=>aG f j) (u:Int) R:=⟨B.blk,B.base,fun t bE=>by have:=B.rows t bE;simpa [bE] using this,B.bnd⟩;obtain ⟨_,dH,_⟩:=U.cells;have de:=U.blk.frozen 9;have cB:=U.blk.lt;have bm:=U.set_n ((u:Int) - 1);have dc:IntKind.i64.wrap ((u:Int) - 1)=(u:Int) - 1:=(by rw [IntKind.wrap_i64];omega);have bD:Keep (fun a=>a=g∨16<=own a) d (wr.setCell ⟨g,9,none⟩ (.int .i64 ((u:Int) - 1))):=Keep.setCell (F:=fun a=>a=g∨16<=own a) ab (p:=⟨g,9,none⟩) (.inl (.inl rfl)) _;rw [cp.out];obtain ⟨bZ,cg,S,aj⟩:=hqq4 bm bD ae af;clear B U bm ab bD aa ae af aF;go_wp2_with fail;go_ret2;refine ⟨rfl,k,⟨q,R,?_⟩,S.out,aj.out,cg.out⟩;rw [show (((aG f j).length:Nat):Int)=(u:Int) - 1 by have:=cc.out;omega];exact bZ.out
def jU {C:List (Nat×Nat)} {k:Nat} (c:Nat) (p:k < C.length):(bG C).set (k*2) (.int .i64 (c:Int))=bG (C.set k (c,aJ C k)):=by
 apply List.ext_getElem?;intro a;have q:=cU C;have n:=cU (C.set k (c,aJ C k));rw [zAt] at n;rw [zBm];by_cases o:a < C.length*2
 · have d:a / 2 < C.length:=oM;obtain ⟨i,j⟩:=cC C (a / 2) d;obtain ⟨f,g⟩:=cC (C.set k (c,aJ C k)) (a / 2) (by rw [zAt];exact d);have m:aC (C.set k (c,aJ C k)) (a / 2)=if k=a / 2 then c else aC C (a / 2):=by
    unfold aC;rw [zAb,zBm,zAb];by_cases b:k=a / 2
    · simp [b,d]
    · simp [b]
   have l:aJ (C.set k (c,aJ C k)) (a / 2)=aJ C (a / 2):=by
    unfold aJ;rw [zAb,zBm,zAb,zAb];by_cases b:k=a / 2
    · subst b;simp [d]
    · simp [b]
   rw [m] at f;rw [l] at g;by_cases r:a % 2=0
   · have e:a / 2*2=a:=oM;rw [e] at i f;rw [f];by_cases b:k*2=a
     · rw [zBx b,zBx oM,zBx oM]
     · rw [zBw b,i,zBw oM]
   · have e:a / 2*2+1=a:=oM;rw [e] at j g;rw [g,zBw oM,j]
 · rw [zBw oM,zBg oM,zBg oM]
def mV (a:List (Nat×Nat)) (c e:Nat) (q:c < a.length):(bG a).set (c*2+1) (.int .i64 (e:Int))=bG (a.set c (aC a c,e)):=by
 apply List.ext_getElem?;intro b;have r:=cU a;have o:=cU (a.set c (aC a c,e));rw [zAt] at o;rw [zBm];by_cases p:b < a.length*2
 · have f:b / 2 < a.length:=oM;obtain ⟨k,l⟩:=cC a (b / 2) f;obtain ⟨i,j⟩:=cC (a.set c (aC a c,e)) (b / 2) (by rw [zAt];exact f);have n:aC (a.set c (aC a c,e)) (b / 2)=aC a (b / 2):=by
    unfold aC;rw [zAb,zBm,zAb,zAb];by_cases d:c=b / 2
    · subst d;simp [f]
    · simp [d]
   have m:aJ (a.set c (aC a c,e)) (b / 2)=if c=b / 2 then e else aJ a (b / 2):=by
    unfold aJ;rw [zAb,zBm,zAb];by_cases d:c=b / 2
    · simp [d,f]
    · simp [d]
   rw [n] at i;rw [m] at j;by_cases s:b % 2=0
   · have g:b / 2*2=b:=oM;rw [g] at k i;rw [i,zBw oM,k]
   · have g:b / 2*2+1=b:=oM;rw [g] at l j;rw [j];by_cases d:c*2+1=b
     · rw [zBx d,zBx oM,zBx oM]
     · rw [zBw d,l,zBw oM]
 · rw [zBw oM,zBg oM,zBg oM]
def dK {a:Int} (b:-9223372036854775808<=a) (c:a<=9223372036854775807):wrap64 a=a:=by unfold wrap64;omega
def qS {g i:World} {a d e:Nat} {b:TypeId} {f:Value} {j:List Value} (k:g.ownsRow a b e f d j) (l:i.heap=g.heap):i.ownsRow a b e f d j:=aA k fun m n _ c=>by unfold Bk at c⊢;rw [l];exact c
def kW {a:List (Nat×Nat)} {b:Nat} (d:b < a.length):a.set b (aC a b,aJ a b)=a:=by
 have c:(aC a b,aJ a b)=a[b]:=by unfold aC aJ;rw [zAb,zAa d];rfl
 rw [c,List.set_getElem_self]
def mvR (a c b:Nat):Nat:=if b=a then c else inR (aU b a) c
def aEB {v e g x n d:Nat} (a:Nat) {b:List (Nat×Nat)} {i:World} (f:i.ownsRow v 112 2 (.slice (some e) g x) g (bG b)) (j:a < b.length) (u:Bk i n 3 #[(d:Int)]) (J:aC b a<=1000000000000):
 Calls prog 223 #[.pointer (some ⟨e,a*2,none⟩),n] i fun H A=>H=.returned (.tuple #[])/\A.ownsRow v 112 2 (.slice (some e) g x) g (bG (b.set a (inR (aC b a) d,aJ b a)))/\Keep (fun l=>l=e) i A:=by
 obtain ⟨y,z⟩:=cC b a j;have K:b.length=g:=by have I:=f.1;rw [cU] at I;omega
 have E:=(World.ownsRow.cellAt f (a*2) oM).trans y;have G:=(World.ownsRow.cellAt f (a*2+1) oM).trans z;have U:i.cell? n=some (.int .i64 (d:Int)):=(u.cell 0).trans rfl;obtain ⟨O,o⟩:=gS f;have Q:=o.frozen (a*2);have R:=o.lt;have S:=u.lt;have k:=kW j;have t:=fun M=>jU M j;obtain ⟨c,s⟩:=eqx (aC b a);obtain ⟨L,r⟩:=eqx (aJ b a);rw [s] at E k J;rw [r] at G k t;rw [s,r];obtain ⟨w,C,D⟩:=hqq3 f k t;clear f j u y z o k t K s r;by_cases T:d<=c
 · have N:decide ((c:Int)>=(d:Int))=true:=zBz oM;have P:wrap64 ((c:Int)+1)=((c+1:Nat):Int):=(by unfold wrap64;omega);have q:=(World.ownsRow.stored w.out (a*2) (.int .i64 ((c+1:Nat):Int))).1;rw [D.out] at q;have B:=lhd q;clear q;go_enter func223,ntmps223;go_wp2_with fail;go_quiet (fail);go_wp2_with fail;go_end0;refine ⟨rfl,?_,Keep.setCell (F:=fun l=>l=e) ((Keep.refl _ _).drewN _) (p:=⟨e,a*2,none⟩) (.inl rfl) _⟩;have m:inR (c) d=c+1:=(by unfold inR;rw [zBx oM]);rw [m];exact B.out
 · have N:decide ((c:Int)>=(d:Int))=false:=zBy oM;go_enter func223,ntmps223;go_wp2_with fail;go_quiet (fail);go_wp2_with fail;go_end0;refine ⟨rfl,?_,(Keep.refl _ _).drewN _⟩;have m:inR (c) d=c:=(by unfold inR;rw [zBw oM]);rw [m,C.out];exact w.out
def aEC {v e g x n d:Nat} (a:Nat) {b:List (Nat×Nat)} {i:World} (f:i.ownsRow v 112 2 (.slice (some e) g x) g (bG b)) (j:a < b.length) (u:Bk i n 3 #[(d:Int)]) (J:aJ b a<=1000000000000):
 Calls prog 224 #[.pointer (some ⟨e,a*2,none⟩),n] i fun H A=>H=.returned (.tuple #[])/\A.ownsRow v 112 2 (.slice (some e) g x) g (bG (b.set a (aC b a,inR (aJ b a) d)))/\Keep (fun l=>l=e) i A:=by
 obtain ⟨y,z⟩:=cC b a j;have K:b.length=g:=by have I:=f.1;rw [cU] at I;omega
 have E:=(World.ownsRow.cellAt f (a*2) oM).trans y;have G:=(World.ownsRow.cellAt f (a*2+1) oM).trans z;have U:i.cell? n=some (.int .i64 (d:Int)):=(u.cell 0).trans rfl;obtain ⟨N,o⟩:=gS f;have P:=o.frozen (a*2+1);have Q:=o.lt;have R:=u.lt;have k:=kW j;have t:=fun L=>mV b a L j;obtain ⟨T,s⟩:=eqx (aC b a);obtain ⟨c,r⟩:=eqx (aJ b a);rw [s] at E k t;rw [r] at G k J;rw [s,r];obtain ⟨w,C,D⟩:=hqq3 f k t;clear f j u y z o k t K s r;by_cases S:d<=c
 · have M:decide ((c:Int)>=(d:Int))=true:=zBz oM;have O:wrap64 ((c:Int)+1)=((c+1:Nat):Int):=(by unfold wrap64;omega);have q:=(World.ownsRow.stored w.out (a*2+1) (.int .i64 ((c+1:Nat):Int))).1;rw [D.out] at q;have B:=lhd q;clear q;go_enter func224,ntmps224;go_wp2_with fail;go_quiet (fail);go_wp2_with fail;go_end0;refine ⟨rfl,?_,Keep.setCell (F:=fun l=>l=e) ((Keep.refl _ _).drewN _) (p:=⟨e,a*2+1,none⟩) (.inl rfl) _⟩;have m:inR (c) d=c+1:=(by unfold inR;rw [zBx oM]);rw [m];exact B.out
 · have M:decide ((c:Int)>=(d:Int))=false:=zBy oM;go_enter func224,ntmps224;go_wp2_with fail;go_quiet (fail);go_wp2_with fail;go_end0;refine ⟨rfl,?_,(Keep.refl _ _).drewN _⟩;have m:inR (c) d=c:=(by unfold inR;rw [zBw oM]);rw [m,C.out];exact w.out
def nQ {s r C U:Nat} {ag:Array Value} (q:Nat->Nat->Nat×Nat) {l N O M:Value} {z y:Nat} {d:List Nat} {f:List (Nat×Nat)} {L:List Bool} {B:List Nat} {m:World} (D:PermAt m s r C l N O M z y d f L B) (H:d.Nodup) (aR:d.length<=1000000) (ai:∀a,a∈d->aC f a<=1000000000000/\aJ f a<=1000000000000)
 (aW:∀af m,(callFunc U af).run prog m=.ok (.enter U af) m) (aN:∀(o u J a:Nat) (t:List (Nat×Nat)) (wr:World),Keep (fun c=>l.ownBlock=some c) m wr->wr.ownsRow s 112 2 (.slice (some o) u J) u (bG t)->a < t.length->aC t a<=1000000000000/\aJ t a<=1000000000000->
  Calls prog U (#[.pointer (some ⟨o,a*2,none⟩)]++ag) wr fun j P=>j=.returned (.tuple #[])/\P.ownsRow s 112 2 (.slice (some o) u J) u (bG (t.set a (q (aC t a) (aJ t a))))/\Keep (fun c=>c=o) wr P):
 Calls prog 214 #[r,.func (.func U) #[] ag] m fun j P=>j=.returned (.tuple #[])/\Keep (fun c=>l.ownBlock=some c) m P/\∃Q,Q.length=f.length/\(∀a,a∈d->(aC Q a,aJ Q a)=q (aC f a) (aJ f a))/\PermAt P s r C l N O M z y d Q L B:=by
 obtain ⟨ap,aF,a9,_,_⟩:=aQ D.orow;have aG:m.cell? ⟨r,2,none⟩=some (.slice ap d.length aF):=(D.blk.cell 2).trans (by rw [a9];rfl);have aZ:=D.blk.lt;obtain ⟨K,a8⟩:=eqx d.length;rw [a8] at aG aR;obtain ⟨aq,a1,aE,aB,au⟩:=hqq5 D a8 a9 H ai;clear D a8 a9 H ai;go_enter func214,ntmps214;go_wp2_with fail;go_loopw [11] (fun aa wr=>∃(g:Nat) (b:List (Nat×Nat)),g<=K/\aa=.int .i64 (g:Int)/\b.length=f.length/\(∀a,a∈d.take g->(aC b a,aJ b a)=q (aC f a) (aJ f a))/\(∀a,a∈d.drop g->(aC b a,aJ b a)=(aC f a,aJ f a))/\PermAt wr s r C l N O M z y d b L B/\Keep (fun c=>l.ownBlock=some c) m wr) (fun aa _=>K -(intOf aa).toNat)
 case atStart=>exact ⟨0,f,zAp _,rfl,rfl,fun a p=>by simp at p,fun a _=>rfl,aq.out,Keep.refl _ _⟩
 case round=>
  obtain ⟨g,b,b1,rfl,a7,W,X,e,p⟩:=hrel;by_cases ao:g < K
  · have E:g < d.length:=(by rw [a1.out];exact ao);obtain ⟨a,F⟩:∃a,d[g]?=some a:=⟨_,zAa E⟩;have a6:=zAd F;have a5:a < b.length:=e.lt a a6;have Y:=e.orow;rw [aE.out] at Y;obtain ⟨aK,b4,aI,_,aY⟩:=World.ownsRow.form Y oM;injection aI with e2a _ e2c;subst e2a e2c;have G:=e.lrow;obtain ⟨o,J,T,_,aX⟩:=World.ownsRow.form G oM;rw [T] at G;have aH:wr.cell? ⟨aK,g,none⟩=some (.int .i64 (a:Int)):=(World.ownsRow.cellAt Y g oM).trans (by rw [zAf,F];rfl);have ah:wr.cell? ⟨r,1,none⟩=some (.slice (some o) b.length J):=(e.blk.cell 1).trans (by rw [T];rfl);have b0:=e.blk.lt;have b3:=p.size;have am:a∈d.drop g:=(by rw [zAx E,List.getElem_eq_getElem?_get];simp [F]);have aM:(aC b a,aJ b a)=(aC f a,aJ f a):=X a am;injection aM with hCr hCp;have aU:=fun (c:Nat) (j:Value.ownBlock l=some c)=>(World.ownsRow.lt e.lrow c j).2;obtain ⟨u,a3⟩:=eqx b.length;rw [a3] at G ah a5;have ak:aC b a<=1000000000000/\aJ b a<=1000000000000:=(by rw [hCr,hCp];exact au.out a a6);have b2:(a:Int) < (u:Int):=oM;obtain ⟨a2,S,ae,ad,a0,ay,R,az,ac⟩:=hqq9 e p G F W X a3 a7 T;obtain ⟨aw,av,ax⟩:=hqq3 hCr hCp ak;clear e p G F W X a3 a7 T hCr hCp a6 am Y aU ak;go_wp2_with fail;refine (aN o u J a b wr S.out ae.out (by rw [R.out];exact a5) ax.out).mono ?_;rintro j w1 ⟨rfl,an,w⟩
    have aj:PermAt w1 s r C l N O M z y d (b.set a (q (aC b a) (aJ b a))) L B:=by
        have e:=a2.out;have I:∀c ab A,ab≠112->Bk wr c ab A->c≠o:=fun c ab A aS n j=>by subst j;obtain ⟨aV,aO⟩:=gS ae.out;exact aS (aL n aO).1
        refine ⟨w.bk e.blk (I _ _ _ dC e.blk),?_,aA e.orow fun c A _ n=>w.bk n (I _ _ _ dC n),w.bk e.ar (I _ _ _ dC e.ar),aA e.trow fun c A _ n=>w.bk n (I _ _ _ dC n),aA e.frow fun c A _ n=>w.bk n (I _ _ _ dC n),e.apart,fun i k=>by rw [zAt];exact e.lt i k,e.lo⟩;rw [zAt,R.out,ac.out,R.out];exact an
    have al:Keep (fun c=>l.ownBlock=some c) m w1:=S.out.trans (w.mono fun c _ j=>by rw [ac.out,show c=o from j];rfl)
    have a4:∀i,(aC (b.set a (q (aC b a) (aJ b a))) i,aJ (b.set a (q (aC b a) (aJ b a))) i)=if i=a then q (aC b a) (aJ b a) else (aC b i,aJ b i):=fun i=>by
        unfold aC aJ;rw [zAb,zBm];by_cases v:a=i;subst v;rw [zBx rfl,zBx rfl,zBx (by rw [R.out];exact a5)];rfl
        · rw [zBw v,zBw (fun j=>v j.symm),zAb]
    have hrel:∃(Z:Nat) (x:List (Nat×Nat)),Z<=K/\Value.int .i64 ((g+1:Nat):Int)=.int .i64 (Z:Int)/\x.length=f.length/\(∀a,a∈d.take Z->(aC x a,aJ x a)=q (aC f a) (aJ f a))/\(∀a,a∈d.drop Z->(aC x a,aJ x a)=(aC f a,aJ f a))/\PermAt w1 s r C l N O M z y d x L B/\Keep (fun c=>l.ownBlock=some c) m w1:=by
        refine ⟨g+1,_,by omega,rfl,by rw [zAt];exact az.out,fun i k=>?_,fun i k=>?_,aj,al⟩
        · rw [a4];by_cases v:i=a
          · subst v;rw [zBx rfl,aw.out,av.out]
          rw [zBw v];refine a0.out i ?_;rw [zAv,ad.out] at k;simp at k;rcases k with k | k;exact k;exact absurd k v
        · rw [a4];have aT:i≠a:=fun j=>by subst j;have aP:d.drop g=i::d.drop (g+1):=(by have E:g < d.length:=(by rw [a1.out];exact ao);rw [zAx E];have V:=ad.out;rw [zAa E] at V;injection V with V;rw [V]);have H:=(List.drop_sublist g d).nodup aB.out;rw [aP,List.nodup_cons] at H;exact H.1 k
          rw [zBw aT];exact ay.out i (List.mem_of_mem_drop (by rw [<-List.drop_drop] at k;exact k:i∈(d.drop g).drop 1))
    have aD:=lhd hrel;clear aj al a4 hrel w an ah aH;go_wp2_with fail;go_roundw
    case rel=>exact aD.out
    case measure=>simp [intOf];omega
  · obtain rfl:g=K:=oM;obtain ⟨a2,S,a0⟩:=hqq3 e p W;clear e p W X;go_wp2_with fail;go_end0;refine ⟨rfl,S.out,b,a7,fun a p=>a0.out a ?_,a2.out⟩;rw [zAg (by rw [a1.out];exact zAs _)];exact p
def zC {m j q k l:Nat} {f t u s:Value} {o n:Nat} {c:List Nat} {b:List (Nat×Nat)} {r:List Bool} {p:List Nat} {g:World} (w:PermAt g m j q f t u s o n c b r p) (D:c.Nodup) (C:c.length<=1000000) (F:Bk g k 3 #[(l:Int)]) (A:∀e,f.ownBlock=some e->e≠k) (x:∀a,a∈c->aC b a<=1000000000000/\aJ b a<=1000000000000):
 Calls prog 214 #[j,.func (.func 223) #[] #[k]] g fun i v=>i=.returned (.tuple #[])/\Keep (fun e=>f.ownBlock=some e) g v/\∃d,d.length=b.length/\(∀a,a∈c->(aC d a,aJ d a)=(inR (aC b a) l,aJ b a))/\PermAt v m j q f t u s o n c d r p:=
 nQ (fun H G=>(inR H l,G)) w D C x (kJ func223 kR kR) fun _ _ _ a _ _ B E y z=>aEB a E y (B.bk F fun i=>A _ i rfl) z.1
def zD {m j q k l:Nat} {f t u s:Value} {o n:Nat} {c:List Nat} {b:List (Nat×Nat)} {r:List Bool} {p:List Nat} {g:World} (w:PermAt g m j q f t u s o n c b r p) (D:c.Nodup) (C:c.length<=1000000) (F:Bk g k 3 #[(l:Int)]) (A:∀e,f.ownBlock=some e->e≠k) (x:∀a,a∈c->aC b a<=1000000000000/\aJ b a<=1000000000000):
 Calls prog 214 #[j,.func (.func 224) #[] #[k]] g fun i v=>i=.returned (.tuple #[])/\Keep (fun e=>f.ownBlock=some e) g v/\∃d,d.length=b.length/\(∀a,a∈c->(aC d a,aJ d a)=(aC b a,inR (aJ b a) l))/\PermAt v m j q f t u s o n c d r p:=
 nQ (fun H G=>(H,inR G l)) w D C x (kJ func224 kR kR) fun _ _ _ a _ _ B E y z=>aEC a E y (B.bk F fun i=>A _ i rfl) z.2
end Go.Proofs.YtcoooelofcejbaaGreatDoor
