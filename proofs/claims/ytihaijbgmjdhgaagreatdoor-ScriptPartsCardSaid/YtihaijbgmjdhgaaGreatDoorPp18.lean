/- Lemmas of the walk. Conditions: each its own. -/
import Derived.Test.YtihaijbgmjdhgaaGreatDoorPp16
import Derived.Test.YtihaijbgmjdhgaaGreatDoorPp17
import Derived.Test.YtihaijbgmjdhgaaGreatDoorProg
import Derived.Test.YtihaijbgmjdhgaaGreatDoorShl
import Derived.Test.YtihaijbgmjdhgaaGreatDoorShi
import Derived.Test.YtihaijbgmjdhgaaGreatDoorSht
set_option linter.all false
set_option maxRecDepth 100000
set_option maxHeartbeats 4000000
open Go.Proofs.Tryz
namespace Go.Proofs.YtihaijbgmjdhgaaGreatDoor
section
open Go.RowKit
theorem aCs (d e a:Nat) (b:Bool) (w:World) (i:a<=1000):
 Calls prog 212 #[.agg #[d,(e:Int),(a:Int)],.bool b] w fun c w'=>c=.returned (.int .i64 ((2*a+(if b then 1 else 0):Nat):Int))/\Below w.heap.size w w':=by
 have f:IntKind.i64.wrap (2*(a:Int))=2*(a:Int):=by rw [IntKind.wrap_i64];omega
 have g:IntKind.i64.wrap (2*(a:Int)+1)=2*(a:Int)+1:=by rw [IntKind.wrap_i64];omega
 go_enter func212,ntmps212;cases b with
 | true=>
   go_wp2_with fail;go_ret;exact ⟨dR (by simp),bR.alloc nL _⟩
 | false=>
   go_wp2_with fail;go_ret;exact ⟨dR (by simp),bR.alloc nL _⟩
theorem nD (B j:Nat) (L:List Nat) (l k:Nat) (w:World) (g:WaveAt w B j L) (J:l < L.length) (Z:L[l]=k) (V:∀x∈L,x < 257) (bT:L.length<=1000):
 Calls prog 135 #[j,(l:Int)] w fun D w'=>D=.returned (.tuple #[(k:Int),.int .i64 0])/\VB B w w':=by
 have a2:k < 257:=by rw [<-Z];exact V _ (zBi J)
 have aQ:=rH L l k (zCh J) V a2;have b9:=mI k a2;have ba:=mK k;have aT:∀a,(aU L a (bH k a))[iM L l k a]?=some (iH k a):=fun a=>by have:=aC9 L l a J;rw [Z] at this;exact this
 obtain ⟨ab,q,bf,u,aZ⟩:=g;have cD:=u.lt;have bO:B<=w.heap.size:=oM;have o:=(u.set 10 (.int .i64 0)).alloc (.cells #[(l:Int)] 3);rw [cM] at o;have am:=VisK.alloc (VB.set_wave u ab 0) (.cells #[(l:Int)] 3);have z:=Bk.new (w.setCell ⟨j,10,none⟩ (.int .i64 0)) 3 #[(l:Int)];rw [show (w.setCell ⟨j,10,none⟩ (.int .i64 0)).heap.size=w.heap.size by simp [World.setCell]] at z;obtain ⟨H,ag⟩:=eqx L.length;rw [ag] at u o J bT;have bM:=u.frozen 10;have c5:w.cell? ⟨j,10,none⟩=some (.int .i64 bf):=(u.cell 10).trans (bJ q H bf).2.2.2.2.2.2.2.2.2.2;obtain ⟨r,ac⟩:=eqx ((w.setCell ⟨j,10,none⟩ (.int .i64 0)).alloc (.cells #[(l:Int)] 3));rw [ac] at o am z;obtain ⟨aG,aH,aI,aJ,aK,aL,aM,aN,aO,aP,bD⟩:=bJ q (H:Int) 0;have cc:∀c,(r.drewN c).cell? j=some (q 0):=fun c=>(o.cell 0).trans aG;have cd:∀c,(r.drewN c).cell? ⟨j,1,none⟩=some (q 1):=fun c=>(o.cell 1).trans aH;have ce:∀c,(r.drewN c).cell? ⟨j,2,none⟩=some (q 2):=fun c=>(o.cell 2).trans aI;have cf:∀c,(r.drewN c).cell? ⟨j,3,none⟩=some (q 3):=fun c=>(o.cell 3).trans aJ;have cg:∀c,(r.drewN c).cell? ⟨j,4,none⟩=some (q 4):=fun c=>(o.cell 4).trans aK;have ch:∀c,(r.drewN c).cell? ⟨j,5,none⟩=some (q 5):=fun c=>(o.cell 5).trans aL;have ci:∀c,(r.drewN c).cell? ⟨j,6,none⟩=some (q 6):=fun c=>(o.cell 6).trans aM;have ck:∀c,(r.drewN c).cell? ⟨j,7,none⟩=some (q 7):=fun c=>(o.cell 7).trans aN;have cl:∀c,(r.drewN c).cell? ⟨j,8,none⟩=some (q 8):=fun c=>(o.cell 8).trans aO;have aE:r.cell? ⟨j,9,none⟩=some (.int .i64 (H:Int)):=(o.cell 9).trans aP;have aF:r.cell? w.heap.size=some (.int .i64 (l:Int)):=(z.cell 0).trans rfl;have cm:∀c,(r.drewN c).cell? ⟨j,9,none⟩=some (.int .i64 (H:Int)):=fun c=>aE;have co:∀c,(r.drewN c).cell? w.heap.size=some (.int .i64 (l:Int)):=fun c=>aF;have bS:decide ((l:Int) < 0)=false:=by simp
 have cC:¬H<=l:=oM;obtain ⟨bq,cb,aw,bp,bg,bw,bx,bi,c6⟩:=hqq9 am o z aZ aQ b9 ba aT V;obtain ⟨c7,bh,ca,au,c9⟩:=hqq5 ag ac Z u J;clear aG aH aI aJ aK aL aM aN aO aP bD am o z aZ aQ b9 ba aT V ag ac u Z J;go_enter func135,ntmps135;go_wp2_with fail;rw [bh.out];clear c5 bM;go_quiet (fail);clear aE aF bS;go_wp2_with fail;go_loopw [6,30] (fun x S wr=>∃a:Nat,a<=9/\S=.int .i64 a/\x=.int .i64 ((bH k a:Nat):Int)/\VB B w wr/\Bk wr w.heap.size 3 #[.int .i64 ((iM L l k a:Nat):Int)]/\w.heap.size < wr.heap.size) (fun _ S _=>9 -(intOf S).toNat)
 case atStart=>exact ⟨0,by omega,rfl,by rw [bw.out];rfl,bq.out.below (below_drewN bR _),by rw [bg.out];exact aw.out.drewN _,aw.out.lt⟩
 case round=>
  obtain ⟨a,cE,rfl,rfl,a3,z,cA⟩:=hrel;by_cases a0:a < 9
  · have bQ:=ix9 q a a0;obtain ⟨t,Q,al⟩:=bp.out a a0;obtain ⟨aq,af⟩:=eqx (2 ^ a);obtain ⟨b,E⟩:=eqx (bH k a);have aY:b < aq:=(by rw [<-af,<-E];exact nR k a a2 oM);rw [af] at Q al;obtain ⟨aa,cn,aR,cF,cz⟩:=World.ownsRow.form Q oM;rw [aR] at bQ Q;obtain ⟨x,a5⟩:=eqx (iM L l k a);obtain ⟨a8,ap⟩:=eqx (iM L l k (a+1));obtain ⟨n,O⟩:=eqx (iH k a);have ao:=rI L l k a a0;have a6:=bi.out a;rw [E,a5,O,ap] at ao;rw [E,a5,O] at a6;have b8:x < (aU L a b).length:=(zAc.1 a6).1;have b7:(aU L a b).getD x false=n:=(by rw [zAb,a6];rfl);have ah:=mJ k a a0;rw [E,O] at ah;rw [E];rw [a5] at z;have cG:(b:Int) < (aq:Int):=oM;have a1:=a3.1.own Q dC dC;obtain ⟨bc,bd,be⟩:=gX t a aq b aY;have bz:wr.cell? ⟨aa,b*3,none⟩=_:=(World.ownsRow.cellAt a1 (b*3) oM).trans bc;have bA:wr.cell? ⟨aa,b*3+1,none⟩=_:=(World.ownsRow.cellAt a1 (b*3+1) oM).trans bd;have bB:wr.cell? ⟨aa,b*3+2,none⟩=_:=(World.ownsRow.cellAt a1 (b*3+2) oM).trans be;obtain ⟨ax,bu,aD,bt,bm,U,bl,c8,bv⟩:=hqq9 z ao b8 b7 ah (al b aY) E O ap;have a9:=lhd a3;clear Q al aR af E a5 ap O ao a6 b8 b7 ah a3 z a1 bc bd be;go_wp2_with fail;obtain ⟨M,N⟩:=eqx ((wr.alloc (.cells #[.pointer (some ⟨t b,0,none⟩),(a:Int),(b:Int)] 232)).alloc (.cells #[.bool false] 4));have I:Below wr.heap.size wr M:=(by rw [<-N];exact (bR.alloc nL _).alloc (by simp) _);have b0:Bk M wr.heap.size 232 #[.pointer (some ⟨t b,0,none⟩),(a:Int),(b:Int)]:=(by rw [<-N];exact (Bk.new wr _ _).alloc _);have aV:Bk M (wr.heap.size+1) 4 #[.bool false]:=(by rw [<-N];have g:=Bk.new (wr.alloc (.cells #[.pointer (some ⟨t b,0,none⟩),(a:Int),(b:Int)] 232)) 4 #[.bool false];rw [World.size_alloc] at g;exact g);rw [N];have b2:VB B w M:=a9.out.below I;obtain ⟨c1,b6⟩:=b2.1.waveC au.out;have b1:=U.out.2.vis a9.out.1;have ad:=ax.out.below I ax.out.lt;refine (aA6 j (t b) w.heap.size (wr.heap.size+1) q H c1 a b _ (aU L a b) x wr M b6 b1 (Vis.of_below I) oM ad aV aD.out).mono ?_;rintro D C ⟨rfl,X,aX,W⟩;rw [bt.out] at W;have ae:=X.bk ad dC dC (fun g=>absurd (show w.heap.size=wr.heap.size+1 from g) oM);have ak:=X.bk b0 dC dC (fun g=>absurd (show wr.heap.size=wr.heap.size+1 from g) oM)
    have b3:VB B wr C:=⟨VisF.to_vis (VisF.trans (VisF.of_vis (Vis.of_below I)) X) (fun n u D=>by have:n=wr.heap.size+1:=D;omega),(Keep.of_below I).trans (aX.mono fun n _ D=>by
        rcases D with rfl | rfl | rfl;exact ab;exact U.out.1
        · omega)⟩
    have b5:=a9.out.trans b3;obtain ⟨ay,aA,av,aB⟩:=hqq4 ae ak W b5;have cB:=ae.lt;have cI:=ak.lt;have cy:=W.lt;obtain ⟨ar,aj⟩:=eqx (bH k (a+1));have ai:=bm.out;rw [aj] at ai;obtain ⟨bo,bn⟩:=hqq2 aj ai;have bU:b<=1000:=(by have bN:=nR k a a2 oM;have cx:2 ^ a<=2 ^ 9:=zBn dC oM;rw [bl.out] at bN;omega);clear N I b0 aV b2 b6 b1 ad X aX W ae ak b3 b5 aj ai bz bA bB;go_wp2_with fail;refine wp_region_any kR ?_;refine nX B 8 [41,42,43,44,45,46,47,48] (fun _=>False) 7 [] (fun _=>True) (is (ar:Int)) [is j,is (.agg #[.pointer (some ⟨t b,0,none⟩),(a:Int),(b:Int)]),is (x:Int),is (.bool n),is (a8:Int),is (.agg #[.pointer (some ⟨t b,0,none⟩),(a:Int),(b:Int)]),is (.bool n),dJ] _ _ rfl dC kR kR kR (trivial) (fun _ _ _ _ _=>trivial) (nO _ _) tA2 ?_ ?_
    · refine fR ?_;refine pH3 0 (.pointer (some j)) ?_;refine sC3 (fun s e d _ _ _ A _ _ _ _ m=>?_) ?_
      · replace d:VFB B (fun _=>False) C e:=fD d;have bL:s (.tmp 9)=.pointer (some ⟨wr.heap.size,0,none⟩):=A 9 kR;have G:=d.1.bk aA.out dC dC (fun g=>g);have bY:e.cell? ⟨wr.heap.size,0,none⟩=some (.pointer (some ⟨t b,0,none⟩)):=(G.cell 0).trans rfl;have bZ:e.cell? ⟨wr.heap.size,1,none⟩=some (.int .i64 (a:Int)):=(G.cell 1).trans rfl;have c0:e.cell? ⟨wr.heap.size,2,none⟩=some (.int .i64 (b:Int)):=(G.cell 2).trans rfl;go_simp;exact m _ _ (bE vR) rfl
      refine sC3 (fun s e d _ _ _ A _ _ _ _ m=>?_) ?_
      · replace d:VFB B (fun _=>False) C e:=fD d;have cp:s (.tmp 3)=.pointer (some w.heap.size):=A 3 kR;have cJ:e.cell? w.heap.size=some (.int .i64 (x:Int)):=((d.1.bk ay.out dC dC (fun g=>g)).cell 0).trans rfl;go_simp;exact m _ _ (bE vR) rfl
      refine sC3 (fun s e d _ _ _ A _ _ _ _ m=>?_) ?_
      · replace d:VFB B (fun _=>False) C e:=fD d;have bF:s (.tmp 10)=.pointer (some ⟨wr.heap.size+1,0,none⟩):=A 10 kR;have bC:e.cell? ⟨wr.heap.size+1,0,none⟩=some (.bool n):=((d.1.bk av.out dC dC (fun g=>g)).cell 0).trans rfl;go_simp;exact m _ _ (bE vR) rfl
      refine sC3 (fun _ e d _ _ _ _ v _ _ _ m=>?_) ?_
      · replace d:VFB B (fun _=>False) C e:=fD d;have cq:_=_:=v 0 41 kR rfl;have cr:_=_:=v 1 42 kR rfl;have cs:_=_:=v 2 43 kR rfl;have ct:_=_:=v 3 44 kR rfl;go_simp;have K:=VFB.to_vb d (fun n _ g=>g);have b4:=aB.out.trans K;obtain ⟨c2,bW⟩:=b4.1.waveC au.out;have bV:=U.out.2.vis b4.1;refine (pC j (t b) q H c2 a b (aU L a b) x n e bW bV (zCh aD.out)).mono ?_;rintro D c4 ⟨rfl,a4⟩;rw [bu.out];exact m _ _ (bE (a4.mono fun n u=>by rcases u with rfl | rfl;exact ab;exact U.out.1)) rfl
      refine sC3 (fun s e d _ _ _ A _ _ _ _ m=>?_) ?_
      · replace d:VFB B (fun _=>False) C e:=fD d;have bL:s (.tmp 9)=.pointer (some ⟨wr.heap.size,0,none⟩):=A 9 kR;have G:=d.1.bk aA.out dC dC (fun g=>g);have bY:e.cell? ⟨wr.heap.size,0,none⟩=some (.pointer (some ⟨t b,0,none⟩)):=(G.cell 0).trans rfl;have bZ:e.cell? ⟨wr.heap.size,1,none⟩=some (.int .i64 (a:Int)):=(G.cell 1).trans rfl;have c0:e.cell? ⟨wr.heap.size,2,none⟩=some (.int .i64 (b:Int)):=(G.cell 2).trans rfl;go_simp;exact m _ _ (bE vR) rfl
      refine sC3 (fun s e d _ _ _ A _ _ _ _ m=>?_) ?_
      · replace d:VFB B (fun _=>False) C e:=fD d;have bF:s (.tmp 10)=.pointer (some ⟨wr.heap.size+1,0,none⟩):=A 10 kR;have bC:e.cell? ⟨wr.heap.size+1,0,none⟩=some (.bool n):=((d.1.bk av.out dC dC (fun g=>g)).cell 0).trans rfl;go_simp;exact m _ _ (bE vR) rfl
      refine sC3 (fun _ e _ _ _ _ _ v _ _ _ m=>?_) ?_
      · have cu:_=_:=v 5 46 kR rfl;have cv:_=_:=v 6 47 kR rfl;go_simp;refine (aCs (t b) a b n e bU).mono ?_;rintro D c4 ⟨rfl,bP⟩;rw [<-bn.out];exact m _ _ (bE (VisK.of_below bP)) rfl
      exact aC
    · intro s a7 y d v aS;replace d:VFB B (fun _=>False) C a7:=fD d;have bI:s (.tmp 45)=.int .i64 (a8:Int):=v 4 45 dC rfl;have bK:s (.tmp 48)=.int .i64 (ar:Int):=v 7 48 dC rfl;obtain ⟨c3,bb⟩:=aS 7 dC;have bX:(is (ar:Int)) c3 a7:=bb;clear bb aS;simp only [zqq];rw [bI];rw [bK];clear v;have K:=VFB.to_vb d (fun n _ g=>g);have Y:=K.1.bk ay.out dC dC;have cj:=Y.cell 0;have cw:=Y.frozen 0;have cH:=K.1.size;obtain ⟨bs,bj⟩:=hqq2 K Y;clear K Y d bX;change wpAny prog Region.Mode.any _ _ (2+y) (bG 8 10) _ a7;rw [show 2+y=y+1+1 by omega];refine dW (f:=y+1) (i:=8) kR ?_;refine eT rfl rfl ?_;generalize m:wpAny prog _ _ _ (y+1) _=K5;go_simp;subst m;refine dW (f:=y) (i:=9) kR ?_;refine eT rfl rfl ?_;generalize m:wpAny prog _ _ _ y _=K5;go_simp;subst m;refine fK kR ?_;have aW:=bj.out.set 0 (.int .i64 (a8:Int));have an:=aB.out.trans bs.out;have a4:VB B w (a7.setCell w.heap.size (.int .i64 (a8:Int))):=⟨Vis.fresh an.1 (p:=w.heap.size) nL _,Keep.setCell (F:=fun n=>B<=n) an.2 (p:=w.heap.size) (.inl bO) _⟩;obtain ⟨br,az⟩:=hqq2 a4 aW;clear an a4 aW;go_wp2_with fail;go_roundw
      case rel=>exact ⟨a+1,by omega,by go_num,by rw [bo.out],br.out,by rw [bv.out];exact az.out,az.out.lt⟩
      case measure=>simp [intOf];omega
  · obtain rfl:a=9:=oM;rw [bx.out];go_wp2_with fail;go_ret2;exact ⟨rfl,a3⟩
theorem yD (B gk:Nat) (L:List Nat) (b:Nat) (w:World) (d:WalkAt w B gk L) (g:b < L.length):
 Calls prog 156 #[gk,(b:Int)] w fun c w'=>c=.returned (.bool true)/\w=w':=by
 obtain ⟨i,a⟩:=eqx L.length;rw [a] at g;have j:(b:Int) < (i:Int):=oM;obtain ⟨f,e⟩:=hqq2 a d;clear a d;go_enter func156,ntmps156;go_wp2_with fail;refine (nE B gk L w e.out).mono ?_;rintro c w' ⟨rfl,rfl⟩;rw [f.out];go_wp2_with fail;go_ret;exact ⟨rfl,rfl⟩
theorem lS (B gk:Nat) (L:List Nat) (d b:Nat) (w:World) (D:WalkAt w B gk L) (n:L[d]?=some b) (u:∀y∈L,y < 257) (x:L.length<=1000):
 Calls prog 154 #[gk,(d:Int)] w fun f w'=>f=.returned (.int .i64 ((fB L b d:Nat):Int))/\VB B w w':=by
 have J:=(zAc.1 n).1;have M:b < 257:=u _ (zAd n);have H:=D;obtain ⟨l,ag,m,F,a2⟩:=D;have Z:=m.cell 0;have aj:=m.lt;obtain ⟨j,v⟩:=eqx (fB L b d);obtain ⟨q,o⟩:∃a6,L.countP (fun y=>decide (y < b))=a6:=⟨_,rfl⟩;obtain ⟨r,p⟩:=eqx ((L.take d).count b);have K:q+r=j:=by rw [<-o,<-p,<-v];rfl
 have ah:q<=1000:=by rw [<-o];exact zAk zBg x
 have ai:r<=1000:=by rw [<-p];exact zAk zBt (by rw [zAj];omega)
 rw [v];obtain ⟨z,N,A,s,U,C,t,W,X⟩:=hqq9 H m F J n u x o p;have V:=lhd K;clear H m F a2 J n u x o p v K;go_enter func154,ntmps154;go_wp2_with fail;refine (yD B gk L d w z.out s.out).mono ?_;rintro f w1 ⟨rfl,rfl⟩;go_wp2_with fail;refine (nD B l L d b w A.out s.out (zAc.1 U.out).2 C.out t.out).mono ?_;rintro f k ⟨rfl,i⟩;have I:=z.out.vis i.1;have E:=i.1.bk N.out dC dC;have G:=A.out.vis i.1;obtain ⟨S,O,Q,Y⟩:=hqq4 I E G i;clear I E G i Z;go_wp2_with fail;refine wp_region_any kR ?_;refine aI [20,21,22,23,24,25,26,27,28,29,30,4] (VB B) (Vs [is gk,is (b:Int),is (q:Int),is gk,is gk,is gk,is l,is (d:Int),is (b:Int),is (r:Int),is (j:Int),is (j:Int)]) _ _ rfl kR vR (fun _ _=>VisK.trans) (fS tA2) ?_ ?_
 · refine aG ?_;refine pH 0 (.pointer (some gk)) ?_;refine pH 5 (.int .i64 (b:Int)) ?_;refine sC (fun _ e a _ _ _ c _ _ _ g=>?_) ?_
   · have a9:_=_:=c 0 20 kR rfl;have aa:_=_:=c 1 21 kR rfl;replace a:(VB B) k e:=bD a;go_simp;refine (qC B gk L b e (S.out.vis a.1) M t.out).mono ?_;rintro f a8 ⟨rfl,a3⟩;rw [W.out];exact g _ _ (VisK.of_below a3) rfl
   refine pH 0 (.pointer (some gk)) ?_;refine pV 3 23 ?_;refine pV 4 24 ?_;refine pL 5 25 (fun e a=>have a:(VB B) k e:=bD a;(((a.1.bk O.out dC dC).cell 0).trans rfl:e.cell? gk=some (.pointer (some l)))) ?_;refine pH 1 (.int .i64 (d:Int)) ?_;refine pH 5 (.int .i64 (b:Int)) ?_;refine sC (fun _ e a _ _ _ c _ _ _ g=>?_) ?_
   · have ac:_=_:=c 6 26 kR rfl;have ad:_=_:=c 7 27 kR rfl;have ae:_=_:=c 8 28 kR rfl;replace a:(VB B) k e:=bD a;go_simp;refine (sU B l L d b e (Q.out.vis a.1) M (zCh s.out) C.out t.out).mono ?_;rintro f a8 ⟨rfl,a5⟩;rw [X.out];exact g _ _ a5 rfl
   refine sC (fun _ _ _ _ _ _ c _ _ _ g=>?_) ?_
   · have ab:_=_:=c 2 22 kR rfl;have af:_=_:=c 9 29 kR rfl;have ak:IntKind.i64.wrap ((q:Int)+(r:Int))=(j:Int):=(by rw [IntKind.wrap_i64];have:=V.out;omega);go_simp;exact g _ _ vR rfl
   refine pV 10 30 ?_;exact aC
 · intro a1 a7 a c;replace a:(VB B) k a7:=bD a;have a0:a1 (.tmp 4)=.int .i64 (j:Int):=c 11 4 rfl;simp only [zqq];rw [a0];clear c;have a4:=Y.out.trans a;go_wp2_with fail;go_ret;exact ⟨rfl,a4⟩
theorem uG {a:List UInt8} {c:List Nat} (d:IsSuf (aJ a) c):c[0]?=some a.length:=by
 obtain ⟨n,k,l⟩:=gM a;obtain ⟨i,g,f⟩:=d.row (p:=a.length) oM;rcases zAz i with e | e
 · subst e;rw [zAa g,f]
 · exfalso;have b:=zAr.1 d.sorted 0 i oM g e;rw [f] at b;have m:=d.lt (zBi (show 0 < c.length by omega));have o:c[0]' oM≠a.length:=fun j=>by exact (zAr.1 d.nodup 0 i oM g e) (by rw [j,f])
   rw [oD,gI (by omega:a.length < (aJ a).length),gI m,k] at b;have:=l (c[0]' oM) oM;rcases b with b | b;omega;omega
theorem yY {n d:List Nat} (e:IsSuf n d) {b c k:Nat} (l:d[b]?=some k) (m:d[c]?=some k):b=c:=by
 obtain ⟨f,g⟩:=zAc.1 l;obtain ⟨i,j⟩:=zAc.1 m;rcases Nat.lt_trichotomy b c with a | a | a;exact absurd (by rw [g,j]) (zAr.1 e.nodup b c f i a);exact a;exact absurd (by rw [g,j]) (zAr.1 e.nodup c b i f a)
structure LiveG (w:World) (Bw gl gk gp rate n:Nat) (L:List Nat) (pr:List (Nat×Nat)):Prop where
 blk:∃mv:Int,Bk w gl 108 #[gk,gp,(rate:Int),.int .i64 mv]
 walk:WalkAt w Bw gk L
 perm:PermR w gp n n pr
theorem LiveG.vis {w w':World} {c gl gk gp rate d:Nat} {L:List Nat} {pr:List (Nat×Nat)} (a:LiveG w c gl gk gp rate d L pr) (b:Vis w w'):LiveG w' c gl gk gp rate d L pr:=by
 obtain ⟨mv,e⟩:=a.blk;exact ⟨⟨mv,b.bk e dC dC⟩,a.walk.vis b,a.perm.vis b⟩
theorem LiveG.lvw {w:World} {a gl gk gp rate d:Nat} {L:List Nat} {pr:List (Nat×Nat)} (b:LiveG w a gl gk gp rate d L pr):LvW w a gl L:=by
 obtain ⟨mv,c⟩:=b.blk;exact ⟨gk,_,_,_,c,b.walk⟩
theorem LiveG.mono {w:World} {b B' gl gk gp rate c:Nat} {L:List Nat} {pr:List (Nat×Nat)} (a:LiveG w b gl gk gp rate c L pr) (d:B'<=b):LiveG w B' gl gk gp rate c L pr:=⟨a.blk,a.walk.mono d,a.perm⟩
theorem LiveG.lt {w:World} {a gl gk gp rate c:Nat} {L:List Nat} {pr:List (Nat×Nat)} (b:LiveG w a gl gk gp rate c L pr):gl < w.heap.size:=b.lvw.lt
theorem mY (a:List (Nat×Nat)):a=(List.range a.length).map fun c=>(bC a c,eB a c):=by
 apply List.ext_getElem?;intro d;rw [zAf];by_cases b:d < a.length;rw [zCg b,zAa b];unfold bC eB;rw [Option.map_some,zAb,zAa b];rfl;rw [zBf oM,zBf (by simpa using b)];rfl
theorem LiveAt.g {w:World} {c gl gk gp d:Nat} {j k l:Value} {B f rate:Nat} {L:List Nat} {a:List (Nat×Nat)} {i:List Bool} (b:LiveAt w c gl gk gp d j k l B f rate L a i) (o:a.Pairwise (fun m n=>m.1 < n.1)) (e:a.length<=1000):LiveG w c gl gk gp rate f L a:=
 ⟨⟨0,b.blk⟩,b.walk,B,d,j,k,l,_,_,a,i, [],b.perm,sI a o,e,by rw [zCe];exact e,mY a⟩
theorem oK {rs:List Nat} {rate n:Nat} (e:n<=rs.length):∀a∈bO rs rate n,rs[a.1]?=some a.2:=fun a c=>by
 obtain ⟨d,b⟩:=jG c;rw [b,zAb,zAa (show a.1 < rs.length by omega)];rfl
theorem aAd {c:List UInt8} {b:List Nat} {rate:Nat} (a:IsSuf (aJ c) b):∃g∈bO b rate (c.length+1),g.2=0:=by
 obtain ⟨f,e,d⟩:=a.row (p:=0) (by rw [aT];omega);refine ⟨(f,0),(aBx _ _ _ _ _).2 ⟨?_,?_,Nat.zero_mod _⟩,rfl⟩;have:=a.len;rw [aT] at this;omega;rw [zAb,zAa e,d];rfl
theorem tH (j gl gk gp rate:Nat) (e:List UInt8) (d:List Nat) (t:List (Nat×Nat)) (aa c:Nat) (w:World) (K:LiveG w j gl gk gp rate (e.length+1) (aS (aJ e) d) t) (aq:∀g∈t,d[g.1]?=some g.2) (l:IsSuf (aJ e) d) (aV:e.length<=127) (a1:d[aa]?=some c):
 Calls prog 88 #[gl,(c:Int)] w fun m w'=>m=.returned (.int .i64 (aa:Int))/\VB j w w':=by
 have a3:d.length=e.length+1:=by rw [l.len,aT]
 have Y:(aS (aJ e) d).length=e.length+1:=by rw [dZ,a3]
 have aX:c < e.length+1:=by have:=l.lt (zAd a1);rwa [aT] at this
 have a6:=uG l;obtain ⟨i,Z⟩:=eqx e.length;have ar:∀a b:Nat,d[a]?=some (b+1)->∃s J,(aS (aJ e) d)[a]?=some s/\fB (aS (aJ e) d) s a=J/\d[J]?=some b:=fun a b x=>by obtain ⟨N,ai⟩:=zAc.1 x;have aN:b+1 < (aJ e).length:=l.lt (zAd x);obtain ⟨J,ak,aj⟩:=l.row (p:=b) oM;have an:=gM e;have aP:=uX an N ai (by rw [aT] at aN;omega);exact ⟨(aJ e).getD b 0,J,zAc.2 ⟨_,aP⟩,lf l an N ak ai aj,zAc.2 ⟨ak,aj⟩⟩
 have a4:∀a b:Nat,d[a]?=some b->b<=e.length/\a<=e.length:=fun a b x=>by have k:=l.lt (zAd x);rw [aT] at k;have M:=(zAc.1 x).1;omega
 have au:∀a,d[a]?=some c->a=aa:=fun a N=>yY l N a1;rw [Z] at K;rw [Z] at Y aX aV a3 a6 a4;have b3:decide ((c:Int) < 0)=false:=by simp
 have aW:¬i < c:=oM;have b4:decide (i < c)=false:=zBw aW;obtain ⟨r,aA,ay,af,az,ag,I⟩:=hqq7 K a6 aq ar a4 au Y;have ae:=lhd (iR (jE e) (rs:=d));obtain ⟨mv,O⟩:=K.blk;have aD:=O.cell 0;have aE:=O.cell 1;have aQ:=O.lt;clear K a6 aq ar a4 au Y l a1 Z a3 O;go_enter func88,ntmps88;go_wp2_with fail;refine (eA j gl _ i w r.out.lvw I.out oM).mono ?_;rintro m w1 ⟨rfl,rfl⟩;go_wp2_with fail;refine (eA j gl _ i w r.out.lvw I.out oM).mono ?_;rintro m w1 ⟨rfl,rfl⟩;go_wp2_with fail;have a5:=qD gp (i+1) (i+1) t c w r.out.perm;unfold mS at a5;refine a5.mono ?_;rintro m aw ⟨b8,rfl,H,al⟩;clear a5;have a9:VB j w aw:=VisK.of_below al;have M:=r.out.vis a9.1;obtain ⟨b6,Q⟩:=M.blk;have aG:=Q.cell 0;have aH:=Q.cell 1;have aU:=Q.lt;obtain ⟨ax,ah⟩:=hqq2 M a9;clear al a9 M aD aE aQ Q;rcases H with ⟨H,_⟩|⟨⟨b5,q⟩,aO,H,a2,_⟩
 · subst H;go_wp2_with fail;go_loopw [5,6] (fun g ad wr=>∃a f:Nat,c<=a/\a<=i/\d[f]?=some a/\g=.int .i64 (a:Int)/\ad=.int .i64 (f:Int)/\VB j w wr) (fun g _ _=>(intOf g).toNat)
   case atStart=>exact ⟨i,0,by omega,zAs _,aA.out,rfl,rfl,ah.out⟩
   case round=>
    obtain ⟨a,f,aY,aK,z,rfl,rfl,o⟩:=hrel;have k:=r.out.vis o.1;obtain ⟨b1,n⟩:=k.blk;have aF:=n.cell 0;have aR:=n.lt;obtain ⟨v,S,u⟩:=hqq3 o k z;clear k o z n;by_cases aL:c < a
    · obtain ⟨b,y⟩:∃b,a=b+1:=⟨a - 1,by omega⟩;obtain ⟨s,ab,C,D,E⟩:=af.out f b (by rw [<-y];exact u.out);have aI:IntKind.i64.wrap ((a:Int) - 1)=(b:Int):=(by rw [IntKind.wrap_i64];omega);obtain ⟨U,V,W⟩:=hqq3 C D E;have a0:c<=b:=oM;have aM:b < a:=oM;clear C D E y;go_wp2_with fail;refine (lS j gk _ f s wr S.out.walk U.out ae.out (by rw [I.out];omega)).mono ?_;rintro m b2 ⟨rfl,F⟩;rw [V.out];have G:=v.out.trans F;have X:=lhd G;clear F G;go_wp2_with fail;go_roundw
      case rel=>exact ⟨b,ab,a0,by omega,W.out,by go_num,by first | rfl | trivial,X.out⟩
      case measure=>simp [intOf];omega
    · obtain rfl:a=c:=oM;have a7:=ag.out f u.out;subst a7;go_wp2_with fail;go_ret;exact ⟨rfl,v.out⟩
 · subst H;have a2:c<=q:=a2;have ao:∃g∈t,g.2=q:=⟨_,aO,rfl⟩;have aZ:decide ((q:Int)>=0)=true:=(by simp);go_wp2_with fail;have a8:=tC gp (i+1) (i+1) t q aw ax.out.perm ao;unfold vU at a8;refine a8.mono ?_;rintro m b7 ⟨ac,ap,rfl,am⟩;have A:=ay.out _ ap;have A:d[ac]?=some q:=A;have av:=ah.out.below am;obtain ⟨aB,aC⟩:=hqq2 A av;have b0:=(az.out ac q A).1;clear a8 ap A am av ao aG aH aU aZ;go_wp2_with fail;go_loopw [5,6] (fun g ad wr=>∃a f:Nat,c<=a/\a<=i/\d[f]?=some a/\g=.int .i64 (a:Int)/\ad=.int .i64 (f:Int)/\VB j w wr) (fun g _ _=>(intOf g).toNat)
   case atStart=>exact ⟨q,ac,a2,b0,aB.out,rfl,rfl,aC.out⟩
   case round=>
    obtain ⟨a,f,aY,aK,z,rfl,rfl,o⟩:=hrel;have k:=r.out.vis o.1;obtain ⟨b1,n⟩:=k.blk;have aF:=n.cell 0;have aR:=n.lt;obtain ⟨v,S,u⟩:=hqq3 o k z;clear k o z n;by_cases aL:c < a
    · obtain ⟨b,y⟩:∃b,a=b+1:=⟨a - 1,by omega⟩;obtain ⟨s,ab,C,D,E⟩:=af.out f b (by rw [<-y];exact u.out);have aI:IntKind.i64.wrap ((a:Int) - 1)=(b:Int):=(by rw [IntKind.wrap_i64];omega);obtain ⟨U,V,W⟩:=hqq3 C D E;have a0:c<=b:=oM;have aM:b < a:=oM;clear C D E y;go_wp2_with fail;refine (lS j gk _ f s wr S.out.walk U.out ae.out (by rw [I.out];omega)).mono ?_;rintro m b2 ⟨rfl,F⟩;rw [V.out];have G:=v.out.trans F;have X:=lhd G;clear F G;go_wp2_with fail;go_roundw
      case rel=>exact ⟨b,ab,a0,by omega,W.out,by go_num,by first | rfl | trivial,X.out⟩
      case measure=>simp [intOf];omega
    · obtain rfl:a=c:=oM;have a7:=ag.out f u.out;subst a7;go_wp2_with fail;go_ret;exact ⟨rfl,v.out⟩
end
section
open Go.RowKit Go.Shelf
theorem VisF.mono {c G:Nat->Prop} {w w':World} (b:VisF c w w') (f:∀a,a < w.heap.size->c a->G a):VisF G w w':=⟨b.os,b.tape,b.output,b.size,fun a d g=>b.block a d fun e=>g (f a d e)⟩
theorem VisF.trans' {b d:Nat->Prop} {w w1 w':World} (g:VisF b w w1) (k:VisF d w1 w') (j:∀a,a < w.heap.size->d a->b a):VisF b w w':=by
 have i:=VisF.trans (F:=fun a=>b a∨w.heap.size<=a) (g.mono fun a _ c=>.inl c) (k.mono fun a _ f=>by
  by_cases e:a < w.heap.size;exact .inl (j a e f)
  · exact .inr oM)
 exact i.mono fun a m c=>c.elim id fun l=>by omega
structure LF (B:Nat) (w w':World) (own own':Nat->Nat):Prop where
 old:∀b,b < w.heap.size->own' b=own b
 vis:VisF (fun b=>own b≠0) w w'
 keep:Keep (fun b=>B<=b) w w'
theorem LF.refl (B:Nat) (w:World) (own:Nat->Nat):LF B w w own own:=⟨fun _ _=>rfl,VisF.of_vis (Vis.refl w),Keep.refl _ _⟩
theorem LF.trans {B:Nat} {w w1 w':World} {own e own':Nat->Nat} (a:LF B w w1 own e) (d:LF B w1 w' e own'):LF B w w' own own':=by
 have g:=a.keep.size;refine ⟨fun b c=>(d.old b oM).trans (a.old b c),a.vis.trans' d.vis fun b c f=>?_,a.keep.trans d.keep⟩;rw [<-a.old b c];exact f
theorem LF.of_vb {B:Nat} {w w':World} {own:Nat->Nat} (a:VB B w w'):LF B w w' own own:=⟨fun _ _=>rfl,VisF.of_vis a.1,a.2⟩
structure LiveM (w:World) (B:Nat) (own:Nat->Nat) (gl gk gp rate:Nat) (mv:Int) (R P:Nat) (L T:List Nat) (pr:List (Nat×Nat)):Prop where
 blk:Bk w gl 108 #[gk,gp,(rate:Int),.int .i64 mv]
 col:own gl=3
 walk:WalkE w B own gk L T
 perm:PermE w (fun b=>own b=1) gp R P pr
section
variable {w w' : World} {B : Nat} {own own' : Nat -> Nat} {gl gk gp rate : Nat} {mv : Int} {R P R' P' : Nat} {L T L' T' : List Nat} {pr pr' : List (Nat × Nat)}
theorem LiveM.bnd (b:LiveM w B own gl gk gp rate mv R P L T pr):∀a,own a≠0->B<=a/\a < w.heap.size:=b.walk.bnd
theorem LiveM.lo (a:LiveM w B own gl gk gp rate mv R P L T pr):B<=gl:=(a.bnd gl (by rw [a.col];decide)).1
theorem LiveM.gw (c:LiveM w B own gl gk gp rate mv R P L T pr):∃a b,Bk w gk 176 #[.pointer (some ⟨a,0,none⟩),.pointer (some ⟨b,0,none⟩)]/\WaveAt w B a L:=by
 obtain ⟨a,b,d,_,e,_⟩:=c.walk;exact ⟨a,b,d,e.at⟩
theorem LiveM.vis (a:LiveM w B own gl gk gp rate mv R P L T pr) (b:Vis w w'):LiveM w' B own gl gk gp rate mv R P L T pr:=
 ⟨b.bk a.blk dC dC,a.col,a.walk.vis b,a.perm.vis b⟩
theorem LiveM.len (b:LiveM w B own gl gk gp rate mv R P L T pr):LvW w B gl L∨¬T.Perm L:=by
 by_cases a:T.Perm L;exact .inl ⟨gk,_,_,_,b.blk,b.walk.at a⟩;exact .inr a
theorem LiveM.permR (g:LiveM w B own gl gk gp rate mv R P L T pr):PermR w gp R P pr:=by
 obtain ⟨⟨f,m,n,o,l,j,d,k,e,a,b⟩,c,p⟩:=g.perm;rw [b] at c;have i:=List.pairwise_map.1 c;have q:=xI a.nd a.at_.lt;exact ⟨0,f,m,n,o,l,j,d,k,e,a.at_,i,a.sz,by have:=a.sz;omega,b⟩
theorem LiveM.g (a:LiveM w B own gl gk gp rate mv R R L T pr) (b:T.Perm L):LiveG w B gl gk gp rate R L pr:=⟨⟨mv,a.blk⟩,a.walk.at b,a.permR⟩
end
section
variable {w : World} {B : Nat} {own : Nat -> Nat} {gl gk gp rate : Nat} {mv : Int} {R P : Nat} {L T : List Nat} {pr : List (Nat × Nat)}
end
end
section
open Go.RowKit
theorem aDy {a:List UInt8} {b:List Nat} (n:IsSuf (aJ a) b) {e m d:Nat} {c:UInt8} (p:b[e]?=some (d+1)) (q:b[m]?=some d) (i:a[d]?=some c):
 (aS (aJ a) b)[e]?=some (c.toNat+1)/\fB (aS (aJ a) b) (c.toNat+1) e=m:=by
 obtain ⟨j,k⟩:=zAc.1 p;obtain ⟨r,s⟩:=zAc.1 q;have l:=(zAc.1 i).1;have o:(aJ a).getD d 0=c.toNat+1:=by unfold aJ pT;rw [zAb,zAn (by simpa using l),zAf,i];rfl
 have f:=lf n (gM a) j r k s;have g:=uX (gM a) j k l;rw [o] at f g;exact ⟨zAc.2 ⟨_,g⟩,f⟩
theorem vT (b:UInt8) (a:Nat) (n:a=b.toNat+1) (w:World):
 Calls prog 89 #[(a:Int)] w fun g w'=>g=.returned (.tuple #[bv b,.bool true])/\Below w.heap.size w w':=by
 have m:=b.toNat_lt;have q:¬((a:Int)=0):=oM;have r:((a:Int)==0)=false:=by rw [zBz];omega
 have s:IntKind.i64.wrap ((a:Int) - 1)=(b.toNat:Int):=by rw [IntKind.wrap_i64];omega
 have t:IntKind.u8.wrap (b.toNat:Int)=(b.toNat:Int):=by rw [IntKind.wrap_u8];omega
 have k:¬a=0:=oM;have u:decide (a=0)=false:=zBw k;have o:a < 257:=oM;clear n m;go_enter func89,ntmps89;go_wp2_with fail;refine (eR a w o).mono ?_;rintro g w1 ⟨rfl,l⟩;go_wp2_with fail;go_ret2;exact ⟨rfl,l⟩
@[irreducible] def zerC (e:Nat):Array Value:=gC .i64 e fun _=>0
@[irreducible] def filC (L:List Nat) (d:Nat):Array Value:=gC .i64 257 fun a=>if a < d then fB L a 0 else 0
@[irreducible] def firC (L:List Nat) (d:Nat):Array Value:=gC .i64 257 fun a=>fB L a d
@[irreducible] def toC (L:List Nat) (e d:Nat):Array Value:=gC .i64 e fun c=>if c < d then fB L (L.getD c 0) c else 0
@[irreducible] def seenC (p:List Nat) (e f:Nat):Array Value:=gC .i64 e fun c=>if f < p.getD c 0 then 1 else 0
@[irreducible] def txtC (j:List UInt8) (f:Nat):Array Value:=gC .u8 j.length fun i=>if i < f then 0 else (j.getD i 0).toNat
theorem yU (a:Nat):Array.replicate a (Value.int .i64 0)=zerC a:=by unfold zerC;exact jP _ _
theorem aAA (L:List Nat):Array.replicate 257 (Value.int .i64 0)=filC L 0:=by
 unfold filC;rw [jP];exact bY fun b a=>by rw [zBu oM]
theorem aB1 {L:List Nat} {a:Nat} (e:a < 257):(filC L a).setIfInBounds a (.int .i64 ((L.countP (fun f=>decide (f < a)):Nat):Int))=filC L (a+1):=by
 unfold filC;rw [gT e];refine bY fun d g=>?_;by_cases b:d=a
 · subst b;rw [zBv rfl,zBv oM];unfold fB;simp
 · rw [zBu b];by_cases c:d < a
   · rw [zBv c,zBv oM]
   · rw [zBu c,zBu oM]
theorem aB3 (L:List Nat):filC L 257=firC L 0:=by
 unfold filC firC;exact bY fun b a=>by rw [zBv a]
theorem aB2 {L:List Nat} {k a:Nat} (b:a < 257):∃c,(filC L k)[a]?=some c:=by
 unfold filC;exact ⟨_,dP b⟩
theorem aB0 {L:List Nat} {b a:Nat} (c:a < 257):(firC L b)[a]?=some (.int .i64 ((fB L a b:Nat):Int)):=by
 unfold firC;exact dP c
theorem aBZ {L:List Nat} {b a:Nat} (e:L[b]?=some a) (d:a < 257):(firC L b).setIfInBounds a (.int .i64 ((fB L a b+1:Nat):Int))=firC L (b+1):=by
 unfold firC;rw [gT d];refine bY fun f g=>?_;rw [aAn e];by_cases c:f=a
 · subst c;simp
 · rw [zBu c,zBu c]
theorem aBl (L:List Nat) (a:Nat):zerC a=toC L a 0:=by
 unfold zerC toC;exact bY fun c b=>by rw [zBu oM]
theorem yX {L:List Nat} {c b a:Nat} (d:a < c):(toC L c b)[a]?=some (.int .i64 (((if a < b then fB L (L.getD a 0) a else 0:Nat)):Int)):=by
 unfold toC;exact dP d
theorem aCB {L:List Nat} {b a f:Nat} (i:L[a]?=some f) (g:a < b):(toC L b a).setIfInBounds a (.int .i64 ((fB L f a:Nat):Int))=toC L b (a+1):=by
 unfold toC;rw [gT g];refine bY fun e j=>?_;by_cases c:e=a;subst c;rw [zBv rfl,zBv oM,zAb,i];rfl
 · rw [zBu c];by_cases d:e < a
   · rw [zBv d,zBv oM]
   · rw [zBu d,zBu oM]
theorem wO {b:List Nat} {d c:Nat} (f:∀a∈b,a<=c):zerC d=seenC b d c:=by
 unfold zerC seenC;refine bY fun g i=>?_;rw [zBu];rw [zAb];cases e:b[g]? with
 | none=>simp
 | some a=>simpa using f a (zAd e)
theorem aAc {d:List Nat} {c b a:Nat} (e:a < c) (f:d[a]?=some b):(seenC d c b)[a]?=some (.int .i64 0):=by
 unfold seenC;rw [dP e,zAb,f];simp
theorem aAb {a:List Nat} {n b c:Nat} {o:List Nat} (m:IsSuf o a) (q:a.length=n) (l:c < n) (g:a[c]?=some (b+1)):(seenC a n (b+1)).setIfInBounds c (.int .i64 ((1:Nat):Int))=seenC a n b:=by
 unfold seenC;rw [gT l];refine bY fun j p=>?_;by_cases e:j=c
 · subst e;rw [zBv rfl,zAb,g,zBv (by simp)]
 · rw [zBu e];obtain ⟨d,i⟩:∃d,a[j]?=some d:=⟨_,zAa oM⟩;have r:d≠b+1:=fun k=>e (yY m (by rw [i,k]) g);rw [zAb,i];simp only [Option.getD_some];by_cases f:b+1 < d
   · rw [zBv f,zBv oM]
   · rw [zBu f,zBu oM]
theorem zK (a:List UInt8):Array.replicate a.length (Value.int .u8 0)=txtC a a.length:=by
 unfold txtC;rw [jP];exact bY fun c b=>by rw [zBv b]
theorem aBh {b:List UInt8} {a:Nat} {c:UInt8} (f:b[a]?=some c):(txtC b (a+1)).setIfInBounds a (bv c)=txtC b a:=by
 have i:=(zAc.1 f).1;unfold txtC bv;rw [gT i];refine bY fun g j=>?_;by_cases d:g=a;subst d;rw [zBv rfl,zBu oM,zAb,f];rfl
 · rw [zBu d];by_cases e:g < a
   · rw [zBv e,zBv oM]
   · rw [zBu e,zBu oM]
theorem aBi {t:List UInt8} {j a:Nat} (b:a < t.length):∃c,(txtC t j)[a]?=some c:=by
 unfold txtC;exact ⟨_,dP b⟩
theorem aBj (b:List UInt8):(txtC b 0).toList=b.map bv:=by
 unfold txtC;rw [aAL];apply List.ext_getElem?;intro c;rw [zAf,zAf];by_cases a:c < b.length
 · rw [zCg a,zAa a];simp [bv,a]
 rw [zBf (by simpa using a),zBf (by simpa using a)];rfl
theorem zL (a:List UInt8) (b:Nat):(txtC a b).size=a.length:=by unfold txtC;exact gS _ _ _
theorem aAf (a:Nat) (i:a<=1000000) (w:World):(Instr.makeSlice 22 (.int .i64 (a:Int)) (.int .i64 (a:Int))).run prog w=.ok (.slice (some w.heap.size) a a) (w.alloc (.cells (Array.replicate a (.int .u8 0)) 5)):=by
 obtain ⟨g,c,d,e,f⟩:=info_parts rU;have:=run_make (P:=prog) w 22 5 g (.int .u8 0) underlying22 c d .i64 .i64 a a oM (Int.le_refl _) (by rw [f];omega) oM;rw [this,e];have b:madeCells #[.int .u8 0] a=Array.replicate a (.int .u8 0):=by apply Array.ext';rw [toList_madeCells_one];simp
 simp only [Value.cells,zBp,zBk];rw [b]
theorem pM (aH:Option Addr) (V B:Nat) (g:List UInt8) (N:List Nat) (w:World) (ai:IsSuf (aJ g) N) (a8:Rd w B 1 aH (g.length+1) ((aS (aJ g) N).map sv)) (aR:B<=w.heap.size) (cq:g.length<=127):
 Calls prog 173 #[.slice aH (g.length+1) V] w fun o w'=>∃bm br,o=.returned (.tuple #[.slice bm g.length br,.bool true])/\Made w' w.heap.size 5 1 bm g.length br (g.map bv)/\Below w.heap.size w w':=by
 obtain ⟨L,ay⟩:=eqx (aS (aJ g) N);have z:=iR (rs:=N) (jE g);have aX:=xX ai;have b5:L.length=g.length+1:=by rw [<-ay,dZ,ai.len,aT]
 rw [ay] at a8 z aX;obtain ⟨v,ae⟩:=eqx g.length;obtain ⟨b,b8⟩:=eqx (v+1);rw [ae,b8] at a8 b5;rw [ae] at cq;have bN:=lU aH b V B L w a8 aR oM z;obtain ⟨U,a0,rfl,cg,bE⟩:=a8.2 oM;have bF:∀wr,Below w.heap.size w wr->∀(a i:Nat),L[a]?=some i->wr.cell? ⟨U,a0+a,none⟩=some (.int .i64 (i:Int)):=fun wr f a i I=>(f.cell (p:=⟨U,a0+a,none⟩) (zAl cg aR)).trans (bE a _ (by rw [zAf,I];rfl));obtain ⟨c7,aM,c4,ap,al,a3,c1⟩:=hqq7 a8 bF z b5 ay ae aX;rw [ae,b8];clear a8 bE bF z b5 ay ae aX;go_enter func173,ntmps173;go_wp2_with fail;refine bN.mono ?_;clear bN;rintro o w1 ⟨a5,rfl,cT,bB,bw⟩;obtain ⟨ao,aI⟩:=hqq2 bB bw;clear bB bw;go_wp2_with fail;have ba:=nH a5 L 0 w1 ao.out oM;rw [c1.out] at ba;refine ba.mono ?_;clear ba;rintro o a4 ⟨rfl,aV⟩;obtain ⟨aL,am⟩:=hqq2 (ao.out.below aV ao.out.lt) (aI.out.trans (aV.mono aI.out.size));clear aV ao aI;go_wp2_with fail;have cZ:b<=128:=oM;refine wp_region_any kR ?_;refine nZ [29,30,31,32,33,34,6,7] [31,34] 8 (Grow) (Below a4.heap.size a4) [k0 (is (.slice (some ⟨U,a0,none⟩) b V)),k0 (is (b:Int)),k0 (fun a1 a2=>∃e,a1=.slice (some ⟨e,0,none⟩) b b/\a4.heap.size<=e/\Bk a2 e 3 (zerC b)),k0 (is (.slice (some ⟨U,a0,none⟩) b V)),k0 (is (b:Int)),k0 (fun a1 a2=>∃e,a1=.slice (some ⟨e,0,none⟩) b b/\a4.heap.size<=e/\Bk a2 e 3 (zerC b)),kEq 31,kEq 34] _ _ rfl kR kR (bR.drew) (pB rfl) (fun w w' aw a=>a.elim (fun a=>aw.trans (a.mono aw.size)) (fun a=>aw.trans (a.mono aw.size))) (by repeat' (first | exact xV _ | exact zD _ |(refine zAe.2 ⟨?_,?_⟩)|(intro c D;cases D))) (by repeat' (first | exact nP _ _ | exact kS _ _ | exact fG (fun _ _ _ ⟨e,aP,aQ,ad⟩ a=>⟨e,aP,aQ,ad.below a ad.lt⟩)|(refine zAe.2 ⟨?_,?_⟩)|(intro c D;cases D))) (by simp only [List.eraseIdx_cons_zero,List.eraseIdx_cons_succ,List.eraseIdx_nil];repeat' (first | exact nP _ _ | exact kS _ _ | exact fG (fun _ _ _ ⟨e,aP,aQ,ad⟩ a=>⟨e,aP,aQ,ad.below a ad.lt⟩)|(refine zAe.2 ⟨?_,?_⟩)|(intro c D;cases D))) ?_ ?_
 · refine aG ?_;refine aD (bP rfl rfl fun x _ _ _ _ _ l _ _ _ _ q=>?_) ?_
   · have ce:x (.tmp 0)=.slice (some ⟨U,a0,none⟩) b V:=l 0 kR;clear l;go_simp;exact q _ _ (cF bR rfl rfl) rfl
   refine aD (bP rfl rfl fun _ _ _ _ _ _ l E _ _ _ q=>?_) ?_
   · have cH:_=_:=E 0 29 kR rfl;clear l;go_simp;exact q _ _ (cF bR rfl rfl) rfl
   refine aD (bP rfl rfl fun _ _ aU _ _ _ l E _ _ _ q=>?_) ?_
   · obtain ⟨W,ax⟩:=aU;have cI:_=_:=E 1 30 kR rfl;clear l;have bj:=iN b oM;go_simp;exact q _ _ (fM (bR.alloc nL _) rfl (fun e ag=>by simp [blk?] at ag;subst ag;simp)) ⟨_,rfl,W.size,by rw [<-yU];exact Bk.new _ _ _⟩
   refine aD (bP rfl rfl fun x _ _ _ _ _ l _ _ _ _ q=>?_) ?_
   · have ce:x (.tmp 0)=.slice (some ⟨U,a0,none⟩) b V:=l 0 kR;clear l;go_simp;exact q _ _ (cF bR rfl rfl) rfl
   refine aD (bP rfl rfl fun _ _ _ _ _ _ l E _ _ _ q=>?_) ?_
   · have cJ:_=_:=E 3 32 kR rfl;clear l;go_simp;exact q _ _ (cF bR rfl rfl) rfl
   refine aD (bP rfl rfl fun _ _ aU _ _ _ l E _ _ _ q=>?_) ?_
   · obtain ⟨W,ax⟩:=aU;have cK:_=_:=E 4 33 kR rfl;clear l;have bj:=iN b oM;go_simp;exact q _ _ (fM (bR.alloc nL _) rfl (fun e ag=>by simp [blk?] at ag;subst ag;simp)) ⟨_,rfl,W.size,by rw [<-yU];exact Bk.new _ _ _⟩
   refine aD (bP rfl rfl fun _ _ _ _ _ _ l _ _ _ _ q=>?_) ?_
   · clear l;go_simp;exact q _ _ (cF bR rfl rfl) rfl
   refine aD (bP rfl rfl fun _ _ _ _ _ _ l _ _ _ _ q=>?_) ?_
   · clear l;go_simp;exact q _ _ (cF bR rfl rfl) rfl
   exact aC
 · intro x ak W ax E cf;have bt:x (.tmp 6)=x (.tmp 31):=E 6 6 rfl;have bu:x (.tmp 7)=x (.tmp 34):=E 7 7 rfl;have ct:(fun a1 a2=>∃e,a1=.slice (some ⟨e,0,none⟩) b b/\a4.heap.size<=e/\Bk a2 e 3 (zerC b)) (x (.tmp 31)) ak:=E 2 31 rfl;have cu:(fun a1 a2=>∃e,a1=.slice (some ⟨e,0,none⟩) b b/\a4.heap.size<=e/\Bk a2 e 3 (zerC b)) (x (.tmp 34)) ak:=E 5 34 rfl;simp only [zqq];clear E cf;obtain ⟨y,bd,be,bV⟩:=ct;obtain ⟨m,O,ah,bO⟩:=cu;have bG:y≠m:=fun o=>ax.2 31 (by simp) 34 (by simp) dC y (by rw [bd];rfl) (by rw [O,o];rfl);have bx:=am.out.trans (W.mono am.out.size);have bC:=aL.out.below W aL.out.lt;have cQ:=am.out.size;rw [bt,bu,bd,O];generalize x (.tmp 29)=u29;generalize x (.tmp 30)=u30;generalize x (.tmp 32)=u32;generalize x (.tmp 33)=u33;obtain ⟨ar,aq,aK,ab⟩:=hqq4 bV bO bx bC;clear bV bO bx bC ax bt bu bd O W;go_wp2_with fail;obtain ⟨C,a6⟩:=eqx ak.heap.size;have aZ:Bk (ak.alloc (.cells Tryz.zeroCells243 243)) C 243 (filC L 0):=(by rw [<-a6,<-aAA];exact Bk.new _ _ _);have Q:=ar.out.alloc (.cells Tryz.zeroCells243 243);have Y:=aq.out.alloc (.cells Tryz.zeroCells243 243);have bh:=ab.out.alloc (.cells Tryz.zeroCells243 243);have X:=aK.out.alloc aK.out.size (.cells Tryz.zeroCells243 243);have cj:y < C:=(by rw [<-a6];exact ar.out.lt);have cR:m < C:=(by rw [<-a6];exact aq.out.lt);have cS:a5 < C:=(by rw [<-a6];exact ab.out.lt);have cV:a5≠y:=Bk.ne ab.out ar.out dC;have cU:a5≠m:=Bk.ne ab.out aq.out dC;rw [a6];generalize ak.alloc (.cells Tryz.zeroCells243 243)=W1 at aZ Q Y bh X⊢;clear ar aq aK ab aL am a6;go_loopw [35] (fun J wr=>∃a:Nat,a<=257/\J=.int .i64 (a:Int)/\Bk wr C 243 (filC L a)/\Bk wr y 3 (zerC b)/\Bk wr m 3 (zerC b)/\Bk wr a5 245 (tcells L)/\Below w.heap.size w wr) (fun J _=>257 -(intOf J).toNat)
   case atStart=>exact ⟨0,by omega,rfl,aZ,Q,Y,bh,X⟩
   case round=>
    clear aZ Q Y bh X;obtain ⟨a,b0,rfl,H,F,r,aB,f⟩:=hrel;by_cases z:a < 257
    · have cY:((a:Int) < 257):=oM;have aW:=iZ a5 L a wr aB z (by rw [ap.out];omega);obtain ⟨d,Z⟩:∃d,L.countP (fun i=>decide (i < a))=d:=⟨_,rfl⟩;have bf:=aB1 (L:=L) z;rw [Z] at aW bf;obtain ⟨S,u,s,bp,c8⟩:=hqq5 H F r aB bf;clear H F r aB bf Z;go_wp2_with fail;refine aW.mono ?_;clear aW;rintro o d2 ⟨rfl,af⟩;have az:=S.out.below af S.out.lt;obtain ⟨cw,aj⟩:=aB2 (L:=L) (k:=a) z;have cA:=(az.cell a).trans aj;have cN:=az.frozen a;have c2:=lhd az;clear az aj;go_wp2_with fail;go_roundw
      case rel=>exact ⟨a+1,by omega,by go_num,by rw [<-c8.out];exact c2.out.set a _,(u.out.below af u.out.lt).far (by simp;omega) _,(s.out.below af s.out.lt).far (by simp;omega) _,(bp.out.below af bp.out.lt).far (by simp;omega) _,(f.trans (af.mono f.size)).setCell (by simp;omega) _⟩
      case measure=>simp [intOf];omega
    · have b1:a=257:=oM;subst b1;rw [aB3] at H;have bs:((257:Nat):Int)=257:=rfl;rw [bs];clear bs;obtain ⟨S,u,s,A⟩:=hqq4 H F r f;clear H F r aB f z b0;go_wp2_with fail;have ck:w.heap.size<=m:=oM;have cm:w.heap.size<=y:=oM;have ci:w.heap.size<=C:=oM;have bL:C≠m:=oM;have bM:m≠C:=oM;go_loopw [46] (fun J wr=>∃a:Nat,a<=b/\J=.int .i64 (a:Int)/\Bk wr C 243 (firC L a)/\Bk wr y 3 (zerC b)/\Bk wr m 3 (toC L b a)/\Below w.heap.size w wr) (fun J _=>b -(intOf J).toNat)
      case atStart=>exact ⟨0,by omega,rfl,S.out,u.out,by rw [<-aBl];exact s.out,A.out⟩
      case round=>
         clear S u s A;obtain ⟨a,b0,rfl,H,F,r,f⟩:=hrel;by_cases z:a < b
         · obtain ⟨i,I⟩:∃i,L[a]?=some i:=⟨_,zAa (by rw [ap.out];exact z)⟩;have bX:=c4.out i (zAd I);have au:=aM.out wr f a i I;obtain ⟨d,Z⟩:=eqx (fB L i a);have d0:d<=1000:=(by have:=aCX L i a;rw [Z,ap.out] at this;omega);have cy:wr.cell? ⟨C,i,none⟩=some (.int .i64 (d:Int)):=(by rw [<-Z];exact (H.cell i).trans (aB0 bX));have cL:=H.frozen i;have cz:wr.cell? ⟨m,a,none⟩=some (.int .i64 (((if a < a then fB L (L.getD a 0) a else 0:Nat)):Int)):=(r.cell a).trans (yX z);have cM:=r.frozen a;have a9:=aCB I z;have aa:=aBZ I bX;rw [Z] at a9 aa;have cP:IntKind.i64.wrap ((d:Int)+1)=((d+1:Nat):Int):=(by rw [IntKind.wrap_i64];omega);obtain ⟨S,u,s,aN,aO⟩:=hqq5 H F r a9 aa;clear H F r a9 aa Z;go_wp2_with fail;go_roundw
           case rel=>exact ⟨a+1,by omega,by go_num,by rw [<-aO.out];exact (S.out.far (p:=⟨m,a,none⟩) bL _).set i _,(u.out.far (p:=⟨m,a,none⟩) bG _).far (p:=⟨C,i,none⟩) (Nat.ne_of_lt cj) _,by rw [<-aN.out];exact (s.out.set a _).far (p:=⟨C,i,none⟩) bM _,(f.setCell (p:=⟨m,a,none⟩) ck _).setCell (p:=⟨C,i,none⟩) ci _⟩
           case measure=>simp [intOf];omega
         · have b1:b=a:=oM;subst b1;obtain ⟨u,s,A⟩:=hqq3 F r f;have ch:=f.size;clear H F r f z b0 bL bM;have cO:((b:Int) - 1)=(v:Int):=oM;have bj:=aAf v oM;go_wp2_with fail;obtain ⟨G,a7⟩:=eqx wr.heap.size;have bi:Bk (wr.alloc (.cells (Array.replicate v (.int .u8 0)) 5)) G 5 (txtC g v):=(by rw [<-a7,<-a3.out,<-zK];exact Bk.new _ _ _);have Q:=u.out.alloc (.cells (Array.replicate v (.int .u8 0)) 5);have Y:=s.out.alloc (.cells (Array.replicate v (.int .u8 0)) 5);have X:=A.out.alloc A.out.size (.cells (Array.replicate v (.int .u8 0)) 5);have bK:y≠G:=Nat.ne_of_lt (by rw [<-a7];exact u.out.lt);have bJ:m≠G:=Nat.ne_of_lt (by rw [<-a7];exact s.out.lt);have bI:w.heap.size<=G:=(by rw [<-a7];exact A.out.size);rw [a7];generalize wr.alloc (.cells (Array.replicate v (.int .u8 0)) 5)=W2 at bi Q Y X⊢;clear u s A a7 bj ch;have bU:N.length=b:=(by have:=congrArg List.length al.out;rw [dZ,ap.out] at this;exact this);have b4:∀c∈N,c<=v:=fun c D=>by have:=ai.lt D;rw [aT,a3.out] at this;omega
           rw [wO b4] at Q;have bc:=uG ai;rw [a3.out] at bc;obtain ⟨bo,cx,ac⟩:=hqq3 bU b4 ai;clear bU b4;go_loopw [13,14] (fun cv J wr=>∃M c:Nat,M<=v/\N[c]?=some M/\cv=.int .i64 (c:Int)/\J=.int .i64 ((M:Int) - 1)/\Bk wr y 3 (seenC N b M)/\Bk wr m 3 (toC L b b)/\Bk wr G 5 (txtC g M)/\Below w.heap.size w wr) (fun _ J _=>(intOf J+1).toNat)
           case atStart=>exact ⟨v,0,by omega,bc,rfl,by first | rfl | go_num,Q,Y,bi,X⟩
           case round=>
            clear Q Y bi X bc;obtain ⟨M,c,cX,D,rfl,rfl,F,r,I,f⟩:=hrel;have aA:c < b:=(by rw [<-bo.out];exact (zAc.1 D).1);by_cases co:M=0
            · subst co;have b2:=aAr ac.out D;rw [al.out] at b2;have au:=aM.out wr f c 0 b2;have cp:(((0:Nat):Int) - 1)=-1:=rfl;rw [cp];have b7:=zA (B:=w.heap.size) I bI ((zL g 0).trans a3.out) (by unfold maxLen;omega);rw [aBj] at b7;obtain ⟨bn,A⟩:=hqq2 b7 f;clear F r I f b7 b2;have b3:=jB (some ⟨G,0,none⟩) v v wr.heap.size g wr bn.out.rd nL oM;rw [b8] at b3;go_wp2_with fail;refine b3.mono ?_;clear b3;rintro o bl ⟨d1,bZ,cd,be,rfl,b6,K⟩;have cs:=be.unique ac.out;subst cs;rw [al.out] at b6;have bW:=pK bZ (some ⟨U,a0,none⟩) b cd V bl.heap.size L bl b6.rd (((c7.out.below (A.out.mono aR)).below (K.mono (by have:=A.out.size;omega))).mono (by have:=A.out.size;have:=K.size;omega)) nL oM;have an:=lhd K;clear K b6 be au;go_wp2_with fail;refine bW.mono ?_;clear bW;rintro o d3 ⟨rfl,bA⟩;have c0:=lhd bA;clear bA;go_wp2_with fail;go_ret2;have bz:=an.out.trans (c0.out.mono an.out.size);exact ⟨_,_,rfl,bn.out.below bz,A.out.trans (bz.mono A.out.size)⟩
            · obtain ⟨d,rfl⟩:∃d,M=d+1:=⟨M - 1,by omega⟩;have cr:(((d+1:Nat):Int) - 1)=(d:Int):=oM;rw [cr];have bT:d < g.length:=(by rw [a3.out];omega);obtain ⟨av,aY⟩:∃av,g[d]?=some av:=⟨_,zAa bT⟩;obtain ⟨bk,bS,bQ⟩:=ac.out.row (p:=d) (by rw [aT,a3.out];omega);have bb:N[bk]?=some d:=(by rw [zAa bS,bQ]);obtain ⟨O,ah⟩:=aDy ac.out D bb aY;rw [al.out] at O ah;have au:=aM.out wr f c _ O;obtain ⟨bY,bg⟩:=eqx (av.toNat+1);have bD:=vT av bY bg.symm wr;rw [bg] at O ah au;have a9:=aAb (n:=b) ac.out bo.out aA D;have aa:=aBh aY;have bH:(toC L b b)[c]?=some (.int .i64 (bk:Int)):=(by rw [yX aA,zBv aA,zAb,O];show some (Value.int .i64 ((fB L bY c:Nat):Int))=_;rw [ah]);obtain ⟨cw,aj⟩:=aBi (t:=g) (j:=d+1) bT;obtain ⟨c6,aN,aO,c3,u,s,bq,ca,c9⟩:=hqq9 bb a9 aa bH F r I aj (aAc aA D);clear bb bQ bS O ah bg a9 aa bH F r I aj aY;go_wp2_with fail;refine bD.mono ?_;clear bD;rintro o bl ⟨rfl,K⟩;have aF:=u.out.below K u.out.lt;have b9:=s.out.below K s.out.lt;have aE:=bq.out.below K bq.out.lt;have cB:=(aF.cell c).trans c9.out;have cC:=aF.frozen c;have cD:=(b9.cell c).trans c3.out;have cE:=(aE.cell d).trans ca.out;have cG:=aE.frozen d;have cl:m≠y:=fun o=>bG o.symm;have cn:G≠y:=fun o=>bK o.symm;have cW:G≠m:=fun o=>bJ o.symm;obtain ⟨cc,c5,cb,an⟩:=hqq4 aF b9 aE (f.trans (K.mono f.size));clear aF b9 aE K f;unfold bv;go_wp2_with fail;go_roundw
              case rel=>
               refine ⟨d,bk,by omega,c6.out,rfl,?_,?_,?_,?_,?_⟩
               · first | rfl | go_num
               rw [<-aN.out];exact (cc.out.set c _).far (p:=⟨G,d,none⟩) bK _;exact (c5.out.far (p:=⟨y,c,none⟩) cl _).far (p:=⟨G,d,none⟩) bJ _;rw [<-aO.out];exact (cb.out.far (p:=⟨y,c,none⟩) cn _).set d _;exact (an.out.setCell (p:=⟨y,c,none⟩) cm _).setCell (p:=⟨G,d,none⟩) bI _
              case measure=>simp [intOf]
end
end Go.Proofs.YtihaijbgmjdhgaaGreatDoor
