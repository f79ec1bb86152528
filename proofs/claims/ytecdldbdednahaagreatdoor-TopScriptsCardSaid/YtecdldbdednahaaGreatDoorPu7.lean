/- Lemmas of the walk. Conditions: each its own. -/
import Derived.Test.YtecdldbdednahaaGreatDoorPu4
import Derived.Test.YtecdldbdednahaaGreatDoorPu5
import Derived.Test.YtecdldbdednahaaGreatDoorProg
import Derived.Test.YtecdldbdednahaaGreatDoorShl
import Derived.Test.YtecdldbdednahaaGreatDoorShi
set_option linter.all false
set_option maxRecDepth 100000
set_option maxHeartbeats 4000000
open Go.Proofs.Tryz
namespace Go.Proofs.YtecdldbdednahaaGreatDoor
section
open Go.RowKit
def aJC (d gk c:Nat) (x y:Int) (l b) (a:Nat) (w) (o:TreeAt w d b) (i:Bk w gk 3 #[(a:Int)]) (j:Bk w c 4 #[l]) (n:a < b.length):
 Calls prog 152 #[.agg #[d,(x:Int),(y:Int)],gk,c] w fun m w'=>m=.returned (.tuple #[])/\
  ∃w1,VisK (fun f=>f=d) w w1/\Bk w1 c 4 #[l]/\w'=w1.setCell c (.bool (b.getD a false)):=by
 have A:w.cell? gk=some (.int .i64 (a:Int)):=(i.cell 0).trans rfl;have H:=i.lt;have I:=j.lt;obtain ⟨z,g⟩:=eqx (b.getD a false);rw [g];obtain ⟨r,v,t,s⟩:=hqq4 g o j n;clear o i j g n;go_enter func152,ntmps152;go_wp2_with fail;refine (aDl d b a _ (v.out.below (bR.alloc nL _)) s.out).mono ?_;rintro m w1 ⟨rfl,p⟩;rw [r.out];have k:VisK (fun f=>f=d) w w1:=(kd (bR.alloc nL _)).trans p;have e:=k.1.bk t.out dC dC;have D:w1.cell? c=some l:=(e.cell 0).trans rfl;have E:=e.frozen 0;obtain ⟨q,u⟩:=hqq2 k e;clear p k e;go_wp2_with fail;go_end0;exact ⟨rfl,w1,q.out,u.out,rfl⟩
def aHw (b d gk c:Nat) (u:Nat->Value) (A af N g:Int) (ah s) (q:Nat) (w0 w) (M:Bk w b 180 (wcells u A af)) (Z:TreeAt w0 d s) (a0:Vis w0 w) (az:w0.heap.size<=c) (V:Bk w gk 3 #[(q:Int)]) (J:Bk w c 4 #[ah]) (aF:q < s.length):
 Calls prog 151 #[b,.agg #[d,(N:Int),(g:Int)],.func (.func 152) #[] #[gk,c]] w fun i w'=>i=.returned (.tuple #[])/\
  VisF (fun a=>a=c) w w'/\Keep (fun a=>a=b∨a=d∨a=c) w w'/\Bk w' c 4 #[.bool (s.getD q false)]:=by
 have ab:=Z.vis a0;obtain ⟨n,S⟩:=eqx (s.getD q false);rw [S];obtain ⟨ap,au,ao⟩:=hqq3 S Z a0;clear S Z a0;obtain ⟨aJ,X⟩:=eqx (Obj.cells #[d,(N:Int),(g:Int)] 183);have a8:=(kh w.heap.size w).alloc nL aJ;have Y:=ke w 183 #[d,(N:Int),(g:Int)];rw [X] at Y;have aZ:=V.lt;have b0:=J.lt;have b1:=M.lt;have aI:=Bk.ne J M dC;obtain ⟨O,a3,a2,a5,m,a4,aq⟩:=hqq7 ab J V M a8 Y X;clear ab V J M a8 Y X;go_enter func151,ntmps151;go_wp2_with fail;rw [aq.out];refine (aJC d gk c N g ah s q _ (O.out.below m.out) (a2.out.alloc _) (a3.out.alloc _) aF).mono ?_;rintro i r ⟨rfl,w1,o,aa,rfl⟩;rw [ap.out];obtain ⟨l,ad⟩:=((kc m.out).trans o.1).waveC a5.out;have z:=ad.far (p:=c) (fun f=>aI f.symm) (.bool n);have aG:=O.out.vis ((kc m.out).trans o.1);have y:TreeAt (w1.setCell c (.bool n)) d s:=au.out.vis (((ao.out.trans (kc m.out)).trans o.1).fresh (p:=c) az _);obtain ⟨vt,a1⟩:=y.visits;have t:=(o.1.bk a4.out dC dC).far (p:=c) (fun f=>absurd (show w.heap.size=c from f) oM) (.bool n);have K:=aa.set 0 (.bool n);have U:VisF (fun a=>a=c) w (w1.setCell c (.bool n)):=VisF.put (F:=fun a=>a=c) (VisF.of_vis ((kc m.out).trans o.1)) (p:=c) (.inl rfl) _;have W:Keep (fun a=>a=b∨a=d∨a=c) w (w1.setCell c (.bool n)):=ka (F:=fun a=>a=b∨a=d∨a=c) ((kF m.out).trans (o.2.mono fun a _ i=>.inr (.inl i))) (p:=c) (.inl (.inr (.inr rfl))) _;obtain ⟨E,a7⟩:=eqx (w1.setCell c (.bool n));rw [a7] at z y a1 t K U W⊢;have aL:E.cell? w.heap.size=some (.pointer (some d)):=(t.cell 0).trans rfl;obtain ⟨D,ar,an,al,am,av,aw⟩:=hqq7 z t K U W y a1;have aH:=y.lt;have aX:=t.lt;have aB:=Bk.ne z t dC;have aA:=Bk.ne z K dC;have aD:d≠b:=by rintro rfl;obtain ⟨ga,af,⟨_,_,H⟩|⟨_,_,_,_,_,I⟩⟩:=av.out;exact absurd (aP H D.out).1 dC;exact absurd (aP I.tree D.out).1 dC
 clear z t K U W y a1 a7 ad aG aa o m O a3 a2 a5 a4 aL;go_wp2_with fail;refine wp_region_any kR ?_;refine aY [9,10,11,12,13,14,15,16,17,18] (fun a=>a=b) 10 [3,10] (fun r=>Bk r b 180 (wcells u A l)) (fun _ r=>Bk r b 180 (wcells u A (IntKind.i64.wrap (l+vt)))) [is b,is b,is (.pointer (some ⟨b,10,none⟩)),is (.int .i64 l),is w.heap.size,is d,is (.int .i64 vt),is (.int .i64 (IntKind.i64.wrap (l+vt))),is b,is (.pointer (some ⟨b,10,none⟩)),cJ] _ _ rfl kR kR (D.out) (fun r b3 f _ ay=>kg f ay f.lt) (fun _ _ _ f q=>kg f q f.lt) tA0 ?_ ?_
 · refine aK ?_;refine pH3 0 (.pointer (some b)) ?_;refine pV3 0 9 ?_;refine pV3 1 10 ?_;refine sC3 (fun _ j _ Q _ _ _ k _ _ _ v=>?_) ?_
   · have x:=Q rfl;have aQ:_=_:=k 2 11 kR rfl;have aN:j.cell? ⟨b,10,none⟩=some (.int .i64 l):=(x.cell 10).trans (bI _ _ _).2.2.2.2.2.2.2.2.2.2;go_simp;exact kq v rfl
   refine pH3 4 (.pointer (some w.heap.size)) ?_;refine pL3 4 13 (fun j e=>have e:Keep (fun a=>a=b) E j:=kD e;(((e.bk ar.out (fun f=>aB (show w.heap.size=b from f).symm)).cell 0).trans rfl:j.cell? w.heap.size=some (.pointer (some d)))) ?_;refine sC3 (fun _ j e _ _ _ _ k _ _ _ v=>?_) ?_
   · replace e:Keep (fun a=>a=b) E j:=kD e;have aR:_=_:=k 5 14 kR rfl;go_simp;refine (fZ d vt j ((e.cell aH aD).trans aw.out)).mono ?_;rintro i b4 ⟨rfl,ax⟩;exact v _ _ (aE ax) rfl
   refine pW3 3 12 6 15 ?_;refine pV3 0 9 ?_;refine pV3 8 17 ?_;refine sC3 (fun _ j _ Q _ _ _ k _ _ _ v=>?_) ?_
   · have x:=Q rfl;have aU:_=_:=k 9 18 kR rfl;have aS:_=_:=k 7 16 kR rfl;have aO:j.cell? ⟨b,10,none⟩=some (.int .i64 l):=(x.cell 10).trans (bI _ _ _).2.2.2.2.2.2.2.2.2.2;have aW:=x.frozen 10;go_simp;refine v (.bool true) _ (aT (ka (F:=fun a=>a=b) (kf _ _) (p:=⟨b,10,none⟩) (.inl rfl) _)) ?_;rw [<-cR u A l];exact x.set 10 _
   exact aC
 · intro aV ag e k a9;replace e:Keep (fun a=>a=b) E ag:=kD e;obtain ⟨b2,ae⟩:∃aM,(fun _ r=>Bk r b 180 (wcells u A (IntKind.i64.wrap (l+vt)))) aM ag:=a9 10 dC;simp only [zqq];clear k a9;have ac:=Vis.of_wave e D.out ae;have a6:=VisF.trans al.out (VisF.of_vis ac);have H:=am.out.trans (e.mono fun a _ i=>.inl i);have I:=e.bk an.out (fun i=>aA (show c=b from i).symm);obtain ⟨ai,aj,ak⟩:=hqq3 a6 H I;clear ac a6 H I ae e;go_wp2_with fail;go_end0;exact ⟨rfl,ai.out,aj.out,ak.out⟩
def aDJ (d e a:Nat) (b w) (i:a<=1000):
 Calls prog 155 #[.agg #[d,(e:Int),(a:Int)],.bool b] w fun c w'=>c=.returned (.int .i64 ((2*a+(if b then 1 else 0):Nat):Int))/\Below w.heap.size w w':=by
 have f:IntKind.i64.wrap (2*(a:Int))=2*(a:Int):=by rw [wI0];omega
 have g:IntKind.i64.wrap (2*(a:Int)+1)=2*(a:Int)+1:=by rw [wI0];omega
 go_enter func155,ntmps155;cases b with
 | true=>
   go_wp2_with fail;go_ret;exact ⟨fR (by simp),bR.alloc nL _⟩
 | false=>
   go_wp2_with fail;go_ret;exact ⟨fR (by simp),bR.alloc nL _⟩
def eI (B j L l k w) (g:WaveAt w B j L) (K:l < L.length) (a0:L[l]=k) (W:∀v∈L,v < 257) (bW:L.length<=1000):
 Calls prog 93 #[j,(l:Int)] w fun D w'=>D=.returned (.tuple #[(k:Int),o0])/\VB B w w':=by
 have a3:k < 257:=by rw [<-a0];exact W _ (zBj K)
 have aT:=mA L l k (zCm K) W a3;have bb:=oR k a3;have bc:=oT k;have aW:∀a,(aL L a (bG k a))[gF L l k a]?=some (hQ k a):=fun a=>by have:=aBw L l a K;rw [a0] at this;exact this
 obtain ⟨ac,q,bh,t,b1⟩:=g;have cK:=t.lt;have bP:B<=w.heap.size:=oM;have o:=(t.set 10 (.int .i64 0)).alloc (.cells #[(l:Int)] 3);rw [cR] at o;have an:=VisK.alloc (VB.set_wave t ac 0) (.cells #[(l:Int)] 3);have y:=ke (w.setCell ⟨j,10,none⟩ (.int .i64 0)) 3 #[(l:Int)];rw [show (w.setCell ⟨j,10,none⟩ (.int .i64 0)).heap.size=w.heap.size by simp [World.setCell]] at y;obtain ⟨I,ah⟩:=eqx L.length;rw [ah] at t o K bW;have bN:=t.frozen 10;have ca:w.cell? ⟨j,10,none⟩=some (.int .i64 bh):=(t.cell 10).trans (bI q I bh).2.2.2.2.2.2.2.2.2.2;obtain ⟨r,ad⟩:=eqx ((w.setCell ⟨j,10,none⟩ (.int .i64 0)).alloc (.cells #[(l:Int)] 3));rw [ad] at o an y;obtain ⟨aI,aJ,aK,aM,aN,aO,aP,aQ,aR,aS,bF⟩:=bI q (I:Int) 0;have ch:∀c,(r.drewN c).cell? j=some (q 0):=fun c=>(o.cell 0).trans aI;have ci:∀c,(r.drewN c).cell? ⟨j,1,none⟩=some (q 1):=fun c=>(o.cell 1).trans aJ;have cj:∀c,(r.drewN c).cell? ⟨j,2,none⟩=some (q 2):=fun c=>(o.cell 2).trans aK;have ck:∀c,(r.drewN c).cell? ⟨j,3,none⟩=some (q 3):=fun c=>(o.cell 3).trans aM;have cl:∀c,(r.drewN c).cell? ⟨j,4,none⟩=some (q 4):=fun c=>(o.cell 4).trans aN;have cm:∀c,(r.drewN c).cell? ⟨j,5,none⟩=some (q 5):=fun c=>(o.cell 5).trans aO;have cn:∀c,(r.drewN c).cell? ⟨j,6,none⟩=some (q 6):=fun c=>(o.cell 6).trans aP;have cp:∀c,(r.drewN c).cell? ⟨j,7,none⟩=some (q 7):=fun c=>(o.cell 7).trans aQ;have cq:∀c,(r.drewN c).cell? ⟨j,8,none⟩=some (q 8):=fun c=>(o.cell 8).trans aR;have aF:r.cell? ⟨j,9,none⟩=some (.int .i64 (I:Int)):=(o.cell 9).trans aS;have aH:r.cell? w.heap.size=some (.int .i64 (l:Int)):=(y.cell 0).trans rfl;have cr:∀c,(r.drewN c).cell? ⟨j,9,none⟩=some (.int .i64 (I:Int)):=fun c=>aF;have ct:∀c,(r.drewN c).cell? w.heap.size=some (.int .i64 (l:Int)):=fun c=>aH;have bU:decide ((l:Int) < 0)=false:=by simp
 have cI:¬I<=l:=oM;obtain ⟨bs,cg,ax,br,bi,bz,bA,bl,cb⟩:=hqq9 an o y b1 aT bb bc aW W;obtain ⟨cc,bj,cf,av,ce⟩:=hqq5 ah ad a0 t K;clear aI aJ aK aM aN aO aP aQ aR aS bF an o y b1 aT bb bc aW W ah ad t a0 K;go_enter func93,ntmps93;go_wp2_with fail;rw [bj.out];clear ca bN;go_quiet (fail);clear aF aH bU;go_wp2_with fail;go_loopw [6,30] (fun v U wr=>∃a:Nat,a<=9/\U=.int .i64 a/\v=.int .i64 ((bG k a:Nat):Int)/\VB B w wr/\Bk wr w.heap.size 3 #[.int .i64 ((gF L l k a:Nat):Int)]/\w.heap.size < wr.heap.size) (fun _ U _=>9 -(intOf U).toNat)
 case atStart=>exact ⟨0,by omega,rfl,by rw [bz.out];rfl,bs.out.below (kn bR _),by rw [bi.out];exact ax.out.drewN _,ax.out.lt⟩
 case round=>
  obtain ⟨a,cL,rfl,rfl,a4,y,cG⟩:=hrel;by_cases a1:a < 9
  · have bT:=ix9 q a a1;obtain ⟨G,S,am⟩:=br.out a a1;obtain ⟨ar,ag⟩:=eqx (2 ^ a);obtain ⟨b,E⟩:=eqx (bG k a);have b0:b < ar:=(by rw [<-ag,<-E];exact mO k a a3 oM);rw [ag] at S am;obtain ⟨ab,cs,aU,cM,cF⟩:=kk S oM;rw [aU] at bT S;obtain ⟨v,a6⟩:=eqx (gF L l k a);obtain ⟨a9,aq⟩:=eqx (gF L l k (a+1));obtain ⟨n,Q⟩:=eqx (hQ k a);have ap:=mB L l k a a1;have a7:=bl.out a;rw [E,a6,Q,aq] at ap;rw [E,a6,Q] at a7;have ba:v < (aL L a b).length:=(zAc.1 a7).1;have b9:(aL L a b).getD v false=n:=(by rw [zAb,a7];rfl);have ai:=oS k a a1;rw [E,Q] at ai;rw [E];rw [a6] at y;have cN:(b:Int) < (ar:Int):=oM;have a2:=a4.1.own S dC dC;obtain ⟨be,bf,bg⟩:=fV G a ar b b0;have bB:wr.cell? ⟨ab,b*3,none⟩=_:=(ki a2 (b*3) oM).trans be;have bC:wr.cell? ⟨ab,b*3+1,none⟩=_:=(ki a2 (b*3+1) oM).trans bf;have bD:wr.cell? ⟨ab,b*3+2,none⟩=_:=(ki a2 (b*3+2) oM).trans bg;obtain ⟨ay,bw,aE,bv,bo,V,bn,cd,bx⟩:=hqq9 y ap ba b9 ai (am b b0) E Q aq;have aa:=lhd a4;clear S am aU ag E a6 aq Q ap a7 ba b9 ai a4 y a2 be bf bg;go_wp2_with fail;obtain ⟨N,O⟩:=eqx ((wr.alloc (.cells #[.pointer (some ⟨G b,0,none⟩),(a:Int),(b:Int)] 183)).alloc (.cells #[false] 4));have J:Below wr.heap.size wr N:=(by rw [<-O];exact (bR.alloc nL _).alloc (by simp) _);have b2:Bk N wr.heap.size 183 #[.pointer (some ⟨G b,0,none⟩),(a:Int),(b:Int)]:=(by rw [<-O];exact (ke wr _ _).alloc _);have aX:Bk N (wr.heap.size+1) 4 #[false]:=(by rw [<-O];have g:=ke (wr.alloc (.cells #[.pointer (some ⟨G b,0,none⟩),(a:Int),(b:Int)] 183)) 4 #[false];rw [sZ0] at g;exact g);rw [O];have b4:VB B w N:=aa.out.below J;obtain ⟨c6,b8⟩:=b4.1.waveC av.out;have b3:=V.out.2.vis aa.out.1;have ae:=ay.out.below J ay.out.lt;refine (aHw j (G b) w.heap.size (wr.heap.size+1) q I c6 a b _ (aL L a b) v wr N b8 b3 (kc J) oM ae aX aE.out).mono ?_;rintro D A ⟨rfl,Y,aZ,X⟩;rw [bv.out] at X;have af:=Y.bk ae dC dC (fun g=>absurd (show w.heap.size=wr.heap.size+1 from g) oM);have al:=Y.bk b2 dC dC (fun g=>absurd (show wr.heap.size=wr.heap.size+1 from g) oM)
    have b5:VB B wr A:=⟨VisF.to_vis (VisF.trans (VisF.of_vis (kc J)) Y) (fun n t D=>by have:n=wr.heap.size+1:=D;omega),(kF J).trans (aZ.mono fun n _ D=>by
        rcases D with rfl | rfl | rfl;exact ac;exact V.out.1
        · omega)⟩
    have b7:=aa.out.trans b5;obtain ⟨az,aB,aw,aD⟩:=hqq4 af al X b7;have cH:=af.lt;have cP:=al.lt;have cE:=X.lt;obtain ⟨au,ak⟩:=eqx (bG k (a+1));have aj:=bo.out;rw [ak] at aj;obtain ⟨bq,bp⟩:=hqq2 ak aj;have bZ:b<=1000:=(by have bO:=mO k a a3 oM;have cD:2 ^ a<=2 ^ 9:=zBp dC oM;rw [bn.out] at bO;omega);clear O J b2 aX b4 b8 b3 ae Y aZ X af al b5 b7 ak aj bB bC bD;go_wp2_with fail;refine wp_region_any kR ?_;refine cB B 8 [41,42,43,44,45,46,47,48] (fun _=>False) 7 [] (fun _=>True) (is (au:Int)) [is j,is (.agg #[.pointer (some ⟨G b,0,none⟩),(a:Int),(b:Int)]),is (v:Int),is (.bool n),is (a9:Int),is (.agg #[.pointer (some ⟨G b,0,none⟩),(a:Int),(b:Int)]),is (.bool n),cJ] _ _ rfl dC kR kR kR (trivial) (fun _ _ _ _ _=>trivial) (jA _ _) tA1 ?_ ?_
    · refine bJ ?_;refine pH3 0 (.pointer (some j)) ?_;refine sC3 (fun s e d _ _ _ z _ _ _ _ m=>?_) ?_
      · replace d:VFB B (fun _=>False) A e:=fD d;have bM:s (.tmp 9)=.pointer (some wr.heap.size):=z 9 kR;have H:=d.1.bk aB.out dC dC (fun g=>g);have c3:e.cell? ⟨wr.heap.size,0,none⟩=some (.pointer (some ⟨G b,0,none⟩)):=(H.cell 0).trans rfl;have c4:e.cell? ⟨wr.heap.size,1,none⟩=some (.int .i64 (a:Int)):=(H.cell 1).trans rfl;have c5:e.cell? ⟨wr.heap.size,2,none⟩=some (.int .i64 (b:Int)):=(H.cell 2).trans rfl;go_simp;exact m _ _ (aG vR) rfl
      refine sC3 (fun s e d _ _ _ z _ _ _ _ m=>?_) ?_
      · replace d:VFB B (fun _=>False) A e:=fD d;have cu:s (.tmp 3)=.pointer (some w.heap.size):=z 3 kR;have cQ:e.cell? w.heap.size=some (.int .i64 (v:Int)):=((d.1.bk az.out dC dC (fun g=>g)).cell 0).trans rfl;go_simp;exact m _ _ (aG vR) rfl
      refine sC3 (fun s e d _ _ _ z _ _ _ _ m=>?_) ?_
      · replace d:VFB B (fun _=>False) A e:=fD d;have bH:s (.tmp 10)=.pointer (some ⟨wr.heap.size+1,0,none⟩):=z 10 kR;have bE:e.cell? ⟨wr.heap.size+1,0,none⟩=some (.bool n):=((d.1.bk aw.out dC dC (fun g=>g)).cell 0).trans rfl;go_simp;exact m _ _ (aG vR) rfl
      refine sC3 (fun _ e d _ _ _ _ u _ _ _ m=>?_) ?_
      · replace d:VFB B (fun _=>False) A e:=fD d;have cv:_=_:=u 0 41 kR rfl;have cw:_=_:=u 1 42 kR rfl;have cx:_=_:=u 2 43 kR rfl;have cy:_=_:=u 3 44 kR rfl;go_simp;have M:=VFB.to_vb d (fun n _ g=>g);have b6:=aD.out.trans M;obtain ⟨c7,c1⟩:=b6.1.waveC av.out;have c0:=V.out.2.vis b6.1;refine (mZ j (G b) q I c7 a b (aL L a b) v n e c1 c0 (zCm aE.out)).mono ?_;rintro D c9 ⟨rfl,a5⟩;rw [bw.out];exact m _ _ (aG (a5.mono fun n t=>by rcases t with rfl | rfl;exact ac;exact V.out.1)) rfl
      refine sC3 (fun s e d _ _ _ z _ _ _ _ m=>?_) ?_
      · replace d:VFB B (fun _=>False) A e:=fD d;have bM:s (.tmp 9)=.pointer (some wr.heap.size):=z 9 kR;have H:=d.1.bk aB.out dC dC (fun g=>g);have c3:e.cell? ⟨wr.heap.size,0,none⟩=some (.pointer (some ⟨G b,0,none⟩)):=(H.cell 0).trans rfl;have c4:e.cell? ⟨wr.heap.size,1,none⟩=some (.int .i64 (a:Int)):=(H.cell 1).trans rfl;have c5:e.cell? ⟨wr.heap.size,2,none⟩=some (.int .i64 (b:Int)):=(H.cell 2).trans rfl;go_simp;exact m _ _ (aG vR) rfl
      refine sC3 (fun s e d _ _ _ z _ _ _ _ m=>?_) ?_
      · replace d:VFB B (fun _=>False) A e:=fD d;have bH:s (.tmp 10)=.pointer (some ⟨wr.heap.size+1,0,none⟩):=z 10 kR;have bE:e.cell? ⟨wr.heap.size+1,0,none⟩=some (.bool n):=((d.1.bk aw.out dC dC (fun g=>g)).cell 0).trans rfl;go_simp;exact m _ _ (aG vR) rfl
      refine sC3 (fun _ e _ _ _ _ _ u _ _ _ m=>?_) ?_
      · have cz:_=_:=u 5 46 kR rfl;have cA:_=_:=u 6 47 kR rfl;go_simp;refine (aDJ (G b) a b n e bZ).mono ?_;rintro D c9 ⟨rfl,bS⟩;rw [<-bp.out];exact m _ _ (aG (kd bS)) rfl
      exact aC
    · intro s a8 x d u aV;replace d:VFB B (fun _=>False) A a8:=fD d;have bK:s (.tmp 45)=.int .i64 (a9:Int):=u 4 45 dC rfl;have bL:s (.tmp 48)=.int .i64 (au:Int):=u 7 48 dC rfl;obtain ⟨c8,bd⟩:=aV 7 dC;have c2:(is (au:Int)) c8 a8:=bd;clear bd aV;simp only [zqq];rw [bK];rw [bL];clear u;have M:=VFB.to_vb d (fun n _ g=>g);have Z:=M.1.bk az.out dC dC;have co:=Z.cell 0;have cC:=Z.frozen 0;have cO:=M.1.size;obtain ⟨bu,bm⟩:=hqq2 M Z;clear M Z d c2;change wpAny prog Region.Mode.any _ _ (2+x) (bX 8 10) _ a8;rw [show 2+x=x+1+1 by omega];refine bQ (f:=x+1) (i:=8) kR ?_;refine bY rfl rfl ?_;generalize m:wpAny prog _ _ _ (x+1) _=K5;go_simp;subst m;refine bQ (f:=x) (i:=9) kR ?_;refine bY rfl rfl ?_;generalize m:wpAny prog _ _ _ x _=K5;go_simp;subst m;refine bV kR ?_;have aY:=bm.out.set 0 (.int .i64 (a9:Int));have ao:=aD.out.trans bu.out;have a5:VB B w (a8.setCell w.heap.size (.int .i64 (a9:Int))):=⟨Vis.fresh ao.1 (p:=w.heap.size) nL _,ka (F:=fun n=>B<=n) ao.2 (p:=w.heap.size) (.inl bP) _⟩;obtain ⟨bt,aA⟩:=hqq2 a5 aY;clear ao a5 aY;go_wp2_with fail;go_roundw
      case rel=>exact ⟨a+1,by omega,by go_num,by rw [bq.out],bt.out,by rw [bx.out];exact aA.out,aA.out.lt⟩
      case measure=>simp [intOf];omega
  · obtain rfl:a=9:=oM;rw [bA.out];go_wp2_with fail;go_ret2;exact ⟨rfl,a4⟩
def aJh (b:Nat) (d:TypeId) (c:Array Value):Value->World->Prop:=fun e w=>∃a,e=.pointer (some ⟨a,0,none⟩)/\Bk w a d c/\b<=a
def aJg {B F} (c a i) (j:a≠226) (k:a≠180) (l:∀g,¬F g):aHh (VFB B F) (aJh c a i):=fun _ _ _ ⟨b,d,e,f⟩ m=>⟨b,d,m.1.bk e j k (l b),f⟩
def WaveS.cells {w B own c} {b:Nat->Value} {g:Nat->List Nat} {d e} (f:WaveS w B own c b g d e):(∀a,a < 9->w.cell? ⟨c,a,none⟩=some (b a))/\w.cell? ⟨c,9,none⟩=some (.int .i64 d)/\w.cell? ⟨c,10,none⟩=some (.int .i64 e):=by
 obtain ⟨l,m,n,o,p,q,r,s,t,j,i⟩:=bI b d e;exact ⟨fun a k=>(f.blk.cell a).trans (tM b d e a k),(f.blk.cell 9).trans j,(f.blk.cell 10).trans i⟩
def yI (B g:Nat) (own L) (k j:Nat) (w) (r:WaveE w B own g L) (ae:j < 257) (ar:k<=L.length) (aH:∀O∈L,O < 257) (c3:L.length<=127):
 Calls prog 165 #[g,(k:Int),(j:Int)] w fun n w'=>n=.returned (.int .i64 0)/\∃own',WaveE w' B own' g (aV L k j)/\(∀a,a < w.heap.size->own' a=own a)/\(∀a,w.heap.size<=a->own' a≠1)/\Keep (fun a=>a=g∨16<=own a) w w':=by
 have bA:=mA L k j ar aH ae;obtain ⟨l,ea,r⟩:=r;obtain ⟨q,ax⟩:=eqx L.length;rw [ax] at r ar c3;have bU:(aV L k j).length=q+1:=by rw [gO _ _ oM,ax]
 obtain ⟨cP,cO,cF⟩:=r.cells;have cR:=r.blk.frozen 10;have d2:=r.blk.lt;have dS:B<=w.heap.size:=zAk r.base.1 (zCm d2);obtain ⟨eb,a8⟩:=r.vis ((VisK.alloc (VB.set_wave r.blk r.base.1 0) (.cells #[(k:Int)] 3)).1);have cY:g≠w.heap.size:=oM;have Z:=ke (w.setCell ⟨g,10,none⟩ (.int .i64 0)) 3 #[(k:Int)];rw [show (w.setCell ⟨g,10,none⟩ (.int .i64 0)).heap.size=w.heap.size by simp [World.setCell]] at Z;have aW:Keep (fun a=>a=g∨16<=own a) w ((w.setCell ⟨g,10,none⟩ (.int .i64 0)).alloc (.cells #[(k:Int)] 3)):=(ka (F:=fun a=>a=g∨16<=own a) (kf _ _) (p:=⟨g,10,none⟩) (.inl (.inl rfl)) _).alloc _;obtain ⟨z,aI⟩:=eqx ((w.setCell ⟨g,10,none⟩ (.int .i64 0)).alloc (.cells #[(k:Int)] 3));rw [aI] at a8 Z aW;obtain ⟨I,bp,cG⟩:=a8.cells;have cE:∀b,(z.drewN b).cell? g=some (l 0):=fun b=>I 0 oM;have S:∀b,(z.drewN b).cell? ⟨g,1,none⟩=some (l 1):=fun b=>I 1 oM;have al:∀b,(z.drewN b).cell? ⟨g,2,none⟩=some (l 2):=fun b=>I 2 oM;have cH:∀b,(z.drewN b).cell? ⟨g,3,none⟩=some (l 3):=fun b=>I 3 oM;have cI:∀b,(z.drewN b).cell? ⟨g,4,none⟩=some (l 4):=fun b=>I 4 oM;have cK:∀b,(z.drewN b).cell? ⟨g,5,none⟩=some (l 5):=fun b=>I 5 oM;have cL:∀b,(z.drewN b).cell? ⟨g,6,none⟩=some (l 6):=fun b=>I 6 oM;have cM:∀b,(z.drewN b).cell? ⟨g,7,none⟩=some (l 7):=fun b=>I 7 oM;have cN:∀b,(z.drewN b).cell? ⟨g,8,none⟩=some (l 8):=fun b=>I 8 oM;have bq:z.cell? ⟨g,9,none⟩=some (.int .i64 (q:Int)):=bp;have br:z.cell? w.heap.size=some (.int .i64 (k:Int)):=(Z.cell 0).trans rfl;have d0:decide ((k:Int) < 0)=false:=by simp
 have e3:¬q < k:=oM;have e4:¬((k:Int) > (q:Int)):=oM;have bE:=a8.blk.lt;have aJ:=Z.lt;obtain ⟨b8,be,bh,cc,du,cf,cr,ba,dw⟩:=hqq9 a8 Z aW bA aH ax bU aI ar;obtain ⟨dv,bL⟩:=hqq2 r.base r.bnd;clear r a8 Z aW bA aH ax bU aI cP I bp cG ar;go_enter func165,ntmps165;go_wp2_with fail;rw [ba.out];clear cF cR cO;refine (fO j _ ae).mono ?_;rintro n w1 ⟨rfl,X⟩;have bs:w1.cell? ⟨g,9,none⟩=some (.int .i64 (q:Int)):=(X.cell (p:=⟨g,9,none⟩) bE).trans bq;have bt:w1.cell? w.heap.size=some (.int .i64 (k:Int)):=(X.cell (p:=w.heap.size) aJ).trans br;obtain ⟨cb,v⟩:=b8.out.vis (kc X);have aU:=be.out.below X aJ;have bW:Keep (fun a=>a=g∨16<=own a) w w1:=bh.out.trans (kF X);have dD:∀b,(w1.drewN b).cell? g=some (l 0):=fun b=>v.cells.1 0 oM;have cQ:∀b,(w1.drewN b).cell? ⟨g,1,none⟩=some (l 1):=fun b=>v.cells.1 1 oM;have dE:∀b,(w1.drewN b).cell? ⟨g,2,none⟩=some (l 2):=fun b=>v.cells.1 2 oM;have dF:∀b,(w1.drewN b).cell? ⟨g,3,none⟩=some (l 3):=fun b=>v.cells.1 3 oM;have dG:∀b,(w1.drewN b).cell? ⟨g,4,none⟩=some (l 4):=fun b=>v.cells.1 4 oM;have dM:∀b,(w1.drewN b).cell? ⟨g,5,none⟩=some (l 5):=fun b=>v.cells.1 5 oM;have dN:∀b,(w1.drewN b).cell? ⟨g,6,none⟩=some (l 6):=fun b=>v.cells.1 6 oM;have dO:∀b,(w1.drewN b).cell? ⟨g,7,none⟩=some (l 7):=fun b=>v.cells.1 7 oM;have dP:∀b,(w1.drewN b).cell? ⟨g,8,none⟩=some (l 8):=fun b=>v.cells.1 8 oM;have e1:=v.blk.lt;have dW:=aU.lt;have dz:∀b,(w1.drewN b).cell? ⟨g,9,none⟩=some (.int .i64 (q:Int)):=fun b=>bs;have dA:∀b,(w1.drewN b).cell? w.heap.size=some (.int .i64 (k:Int)):=fun b=>bt;obtain ⟨b9,cp,cs⟩:=hqq3 v aU bW;clear v aU bW X b8 be bh cE S al cH cI cK cL cM cN bq br bE aJ ba;go_wp2_with fail;go_quiet (fail);clear bs bt d0;go_wp2_with fail;go_loopw [35] (fun ag wr=>∃(d:Nat) (u:Nat->Nat) (aB:Int),d<=9/\ag=.int .i64 d/\WaveS wr B u g l (fun D=>if D < d then aV L k j else L) (q:Int) aB/\Bk wr w.heap.size 3 #[.int .i64 ((gF L k j d:Nat):Int)]/\(∀a,a < w.heap.size->u a=own a)/\(∀a,w.heap.size<=a->u a≠1)/\u w.heap.size=0/\Keep (fun a=>a=g∨16<=own a) w wr) (fun ag _=>9 -(intOf ag).toNat)
 case atStart=>refine ⟨0,own,cb,by omega,rfl,?_,?_,fun _ _=>rfl,fun a M n=>?_,?_,?_⟩;obtain ⟨b6,a9⟩:=b9.out.vis (kc (kn bR _));have:b6=cb:=(by have bn:=a9.cells.2.2;have bo:=b9.out.cells.2.2;have a6:=bo.symm.trans bn;injection a6 with a6;injection a6 with _ a6;exact a6.symm);subst this;simpa using a9;rw [cc.out];exact cp.out.drewN _;have:=(bL.out a oM).2;omega;rcases zBa (own w.heap.size) with n | n;exact n;have:=(bL.out w.heap.size oM).2;omega;exact cs.out.drewN _
 case round=>
  obtain ⟨d,u,aB,e5,rfl,U,ao,ay,az,aX,au⟩:=hrel;by_cases a1:d < 9
  · have cZ:=ix9 l d a1;obtain ⟨G,a2,d4,b2⟩:=U.rows d a1;obtain ⟨ah,av⟩:=eqx (2 ^ d);obtain ⟨c,N⟩:=eqx (bG j d);have aY:c < ah:=(by rw [<-av,<-N];exact mO j d ae oM);have d5:c < 2 ^ d:=(by rw [av];exact aY);have cW:=lhd a2;rw [av] at a2 b2;obtain ⟨W,a7,bD,e6,e0⟩:=kk a2 oM;rw [bD] at cZ a2;obtain ⟨O,af⟩:=eqx (gF L k j d);obtain ⟨y,a3⟩:=eqx (gF L k j (d+1));obtain ⟨a,an⟩:=eqx (hQ j d);have b4:=mB L k j d a1;have b3:=aFZ L k j d;have aN:=aE4 L k j d;have aS:=zS L k j d;have aR:(aL L d (bG j d)).length<=127:=(by rw [jM];exact zAk zBh (by rw [cf.out];exact c3));rw [N,af,an,a3] at b4;rw [N,af] at b3;rw [N,af,an] at aN;rw [N] at aR aS;rw [af] at ao;have c6:TreeE wr (fun a=>u a=TC d c) (G c) (aL L d c):=(by have:=b2 c aY;rw [zBw oM] at this;exact this);have e7:(c:Int) < (ah:Int):=oM;obtain ⟨cw,bl,cC,ak,ci,cl,ck,cx,ch⟩:=hqq9 a2 c6 b4 b3 aN aS aR N an;obtain ⟨cD,aj,aD,a5,aE,bj,bi⟩:=hqq7 a3 U ao ay az aX au;clear a2 b2 bD av N af a3 an b4 b3 aN aS aR U ao ay az aX au c6 d4;go_wp2_with fail;refine wp_region_any kR ?_;refine cB wr.heap.size 11 [39,40,41,42,43,44,45,46,47,9,10] (fun _=>False) 8 [] (fun _=>True) (is (.bool a)) [is (.slice (some W) ah a7),is (j:Int),is (d:Int),is (c:Int),is (.pointer (some ⟨W,c*3,none⟩)),is (.agg #[.pointer (some ⟨G c,0,none⟩),(d:Int),(c:Int)]),is (j:Int),is (d:Int),cJ,aJh wr.heap.size 183 #[.pointer none,o0,o0],aJh wr.heap.size 4 #[false]] _ _ rfl dC kR kR kR (trivial) (fun _ _ _ _ _=>trivial) (jA _ _) (by repeat' (first | exact jA _ _ | exact kM _ | exact aJg _ _ _ dC dC (fun _ e=>e)|(refine zAe.2 ⟨?_,?_⟩)|(intro c N;cases N))) ?_ ?_
    · refine bJ ?_;refine pH3 8 (.slice (some W) ah a7) ?_;refine pH3 2 (.int .i64 (j:Int)) ?_;refine pH3 7 (.int .i64 (d:Int)) ?_;refine sC3 (fun _ x _ _ _ _ _ t _ _ _ s=>?_) ?_
      · have dH:_=_:=t 1 40 kR rfl;have dI:_=_:=t 2 41 kR rfl;go_simp;refine (lK j d x ae oM).mono ?_;rintro n di ⟨rfl,aM⟩;rw [cx.out];exact s _ _ (aG (kd aM)) rfl
      refine pW3 0 39 3 42 ?_;refine sC3 (fun _ x o _ _ _ _ t _ _ _ s=>?_) ?_
      · replace o:VFB wr.heap.size (fun _=>False) wr x:=fD o;have dJ:_=_:=t 4 43 kR rfl;have d7:=o.1.to_vis (fun _ _ e=>e);have b0:=d7.own cw.out dC dC;obtain ⟨dc,dd,de⟩:=fV G d ah c aY;have dx:x.cell? ⟨W,c*3,none⟩=_:=(ki b0 (c*3) oM).trans dc;have bn:x.cell? ⟨W,c*3+1,none⟩=_:=(ki b0 (c*3+1) oM).trans dd;have bo:x.cell? ⟨W,c*3+2,none⟩=_:=(ki b0 (c*3+2) oM).trans de;go_simp;exact s _ _ (aG vR) rfl
      refine pH3 2 (.int .i64 (j:Int)) ?_;refine pH3 7 (.int .i64 (d:Int)) ?_;refine sC3 (fun _ x _ _ _ _ _ t _ _ _ s=>?_) ?_
      · have dK:_=_:=t 6 45 kR rfl;have dL:_=_:=t 7 46 kR rfl;go_simp;refine (nB j d x ae oM).mono ?_;rintro n di ⟨rfl,aM⟩;rw [ch.out];exact s _ _ (aG (kd aM)) rfl
      refine sC3 (fun _ x o _ _ _ _ _ _ _ _ s=>?_) ?_
      · replace o:VFB wr.heap.size (fun _=>False) wr x:=fD o;go_simp;exact s _ _ (aG (kd (bR.alloc nL _))) ⟨_,rfl,ke _ _ _,o.1.size⟩
      refine sC3 (fun _ x o _ _ _ _ _ _ _ _ s=>?_) ?_
      · replace o:VFB wr.heap.size (fun _=>False) wr x:=fD o;go_simp;exact s _ _ (aG (kd (bR.alloc nL _))) ⟨_,rfl,ke _ _ _,o.1.size⟩
      exact aC
    · intro am E e o t bF;replace o:VFB wr.heap.size (fun _=>False) wr E:=fD o;have bu:am (.tmp 44)=.agg #[.pointer (some ⟨G c,0,none⟩),(d:Int),(c:Int)]:=t 5 44 dC rfl;have bv:am (.tmp 47)=.bool a:=t 8 47 dC rfl;have da:(aJh wr.heap.size 183 #[.pointer none,o0,o0]) (am (.tmp 9)) E:=t 9 9 dC rfl;have d9:(aJh wr.heap.size 4 #[false]) (am (.tmp 10)) E:=t 10 10 dC rfl;obtain ⟨dh,c8⟩:=bF 8 dC;have db:(is (.bool a)) dh E:=c8;clear c8 bF;simp only [zqq];rw [bu];rw [bv];clear t;obtain ⟨m,ca,J,ap⟩:=da;obtain ⟨K,c9,Y,bO⟩:=d9;rw [ca,c9];have c7:Below wr.heap.size wr E:=o.2.to_below nL (fun a M e=>by rcases e with e | e;exact e;omega);have dr:E.cell? m=some (.pointer none):=(J.cell 0).trans rfl;have ds:E.cell? ⟨m,1,none⟩=some (.int .i64 0):=(J.cell 1).trans rfl;have dt:E.cell? ⟨m,2,none⟩=some (.int .i64 0):=(J.cell 2).trans rfl;have cT:=J.frozen 0;have cU:=J.frozen 1;have cV:=J.frozen 2;have b7:E.cell? K=some (.bool false):=(Y.cell 0).trans rfl;have cS:=Y.frozen 0;have aw:m≠K:=Bk.ne J Y dC;have a1:=J.lt;have d1:=Y.lt;obtain ⟨bd,bb,bm⟩:=hqq3 J Y c7;clear J Y c7 o db bu bv ca c9;change wpAny prog Region.Mode.any _ _ (2+e) (bX 11 13) _ E;rw [show 2+e=e+1+1 by omega];refine bQ (f:=e+1) (i:=11) kR ?_;refine bY rfl rfl ?_;generalize s:wpAny prog _ _ _ (e+1) _=K5;go_simp;subst s;refine bQ (f:=e) (i:=12) kR ?_;refine bY rfl rfl ?_;generalize s:wpAny prog _ _ _ e _=K5;go_simp;subst s;refine bV kR ?_;obtain ⟨A,ab⟩:=eqx (((((E.setCell m (.pointer (some ⟨G c,0,none⟩))).setCell ⟨m,1,none⟩ (.int .i64 (d:Int))).setCell ⟨m,2,none⟩ (.int .i64 (c:Int))).setCell K (.bool a)));have bI:Bk A m 183 #[.pointer (some ⟨G c,0,none⟩),(d:Int),(c:Int)]:=(by rw [<-ab];exact (((bd.out.set 0 _).set 1 _).set 2 _).far (p:=K) aw _);have bH:Bk A K 4 #[.bool a]:=(by rw [<-ab];exact (((bb.out.far (p:=m) (fun n=>aw n.symm) _).far (p:=⟨m,1,none⟩) (fun n=>aw n.symm) _).far (p:=⟨m,2,none⟩) (fun n=>aw n.symm) _).set 0 _);have bZ:Keep (fun _=>False) wr A:=(by rw [<-ab];exact ka (F:=fun _=>False) (ka (F:=fun _=>False) (ka (F:=fun _=>False) (ka (F:=fun _=>False) (kF bm.out) (p:=m) (.inr ap) _) (p:=⟨m,1,none⟩) (.inr ap) _) (p:=⟨m,2,none⟩) (.inr ap) _) (p:=K) (.inr bO) _);rw [ab];have bK:Below wr.heap.size wr A:=bZ.to_below nL (fun _ _ e=>e);obtain ⟨a4,bc,V⟩:=hqq3 bI bH bK;clear bI bH bZ bK ab dr ds dt cT cU cV b7 cS bd bb bm a1 d1;obtain ⟨df,bz⟩:=aj.out.vis (kc V.out);have bS:=aD.out.below V.out aD.out.lt;have c4:=bl.out.below V.out;have bT:=aj.out.base.2;have bM:=aj.out.bnd;have e9:=V.out.size;have dZ:=aD.out.lt;have dj:A.cell? m=some (.pointer (some ⟨G c,0,none⟩)):=(a4.out.cell 0).trans rfl;have dk:A.cell? ⟨m,1,none⟩=some (.int .i64 (d:Int)):=(a4.out.cell 1).trans rfl;have dl:A.cell? ⟨m,2,none⟩=some (.int .i64 (c:Int)):=(a4.out.cell 2).trans rfl;have dU:=a4.out.lt;have d3:∀(bw:Fn) (first a7:Array Value) (w:World),(Instr.makeFunc bw first a7).run prog w=.ok (.func bw first a7) w:=fun _ _ _ _=>rfl;obtain ⟨ai,bf,cz,bg,cm⟩:=hqq5 bz bS c4 bT bM;clear bz bS c4 bT bM;go_wp2_with fail;refine (aHv g (G c) w.heap.size K l q df d c (fun a=>u a=TC d c) (aL L d c) O a A ai.out.blk cz.out (fun e=>by rw [bg.out] at e;unfold TC at e;omega) (fun y a3=>(ai.out.bnd y (by rw [a3];unfold TC;omega)).2) bf.out bc.out ck.out ak.out).mono ?_;rintro n Q ⟨rfl,b1,a0,dg,aO⟩;have aT:=ai.out.edit (lv:=d) (p:=c) (gx:=g) a1 d5 (aQ cW.out V.out) (by rw [bg.out];omega) (fun dy cX=>absurd (aP cX ai.out.blk).1 dC) b1 (a0.mono fun y _ e=>by rcases e with e | e;exact .inl e;exact .inr (.inl e)) aO (L':=aV L k j) ci.out (fun b d6=>by rw [zBw (zCl _)];exact cl.out b (fun n=>d6 n.symm));have bN:(fun D=>if D=d then aV L k j else if D < d then aV L k j else L)=fun D=>if D < d+1 then aV L k j else L:=by
       funext D;by_cases S:D=d
       · rw [zBx S,zBx oM]
       · by_cases al:D < d
         · rw [zBw S,zBx al,zBx oM]
         · rw [zBw S,zBw al,zBw oM]
      rw [bN] at aT;have b5:∀y,wr.heap.size<=y->¬(u y=TC d c∨y=g):=fun y a3 e=>by rcases e with e | e;have:=(cm.out y (by rw [e];unfold TC;omega)).2;omega;have:=aj.out.blk.lt;omega
      have aq:=a0.bk bf.out (fun e=>by
       rcases e with e | e;rw [bj.out] at e;unfold TC at e;omega
       · exact cY e.symm)
      have ac:=a0.bk a4.out (b5 m ap);have aK:=a0.bk bc.out (b5 K bO);have b7:Q.cell? m=some (.pointer (some ⟨G c,0,none⟩)):=(ac.cell 0).trans rfl;have dm:Q.cell? ⟨m,1,none⟩=some (.int .i64 (d:Int)):=(ac.cell 1).trans rfl;have dn:Q.cell? ⟨m,2,none⟩=some (.int .i64 (c:Int)):=(ac.cell 2).trans rfl;have dq:Q.cell? w.heap.size=some (.int .i64 (O:Int)):=(aq.cell 0).trans rfl;have dp:Q.cell? K=some (.bool a):=(aK.cell 0).trans rfl;have dV:=ac.lt;have dT:=aK.lt;have dX:=aq.lt;have c5:=b1.at
      have bB:u (G c)=TC d c:=bl.out.1;obtain ⟨cn,ct,cq,cA,cj,ce⟩:=hqq6 aT a0 aq c5 aO bB;have d8:O<=(aV (aL L d c) O a).length:=(by rw [gO _ _ ak.out];have:=ak.out;omega);clear b1 a0 aO aT bN b5 aq ac aK c5 dj dk dl d3 bB;go_wp2_with fail;refine (mZ g (G c) l q dg d c (aV (aL L d c) O a) O a Q cj.out cA.out d8).mono ?_;rintro n aF ⟨rfl,aA⟩;rw [aF5 _ _ _ ak.out,cC.out];obtain ⟨b6,a9⟩:=cn.out.vis aA.1;have ad:=aA.1.bk cq.out dC dC;have ed:aF.cell? w.heap.size=some (.int .i64 (O:Int)):=(ad.cell 0).trans rfl;have dR:=ad.frozen 0;have dY:=ad.lt;have bP:=ad.set 0 (.int .i64 (y:Int));have aZ:dB u A.heap.size Q.heap.size (TC d c) w.heap.size=0:=(by unfold dB;rw [zBx oM];exact bj.out);have bx:=a9.far (w':=aF.setCell w.heap.size (.int .i64 (y:Int))) (H:=fun a=>a=w.heap.size) (ka (F:=fun a=>a=w.heap.size) (kf _ _) (p:=w.heap.size) (.inl rfl) _) (fun a n=>by rw [show a=w.heap.size from n,aZ];omega);have e8:=bi.out.size;have c0:Keep (fun a=>a=g∨16<=own a) w (aF.setCell w.heap.size (.int .i64 (y:Int))):=ka (F:=fun a=>a=g∨16<=own a) (((bi.out.trans (kF V.out)).trans' ct.out (fun a M e=>by
       rcases e with e | e;right;rw [<-a5.out a M,e];unfold TC;omega
       · exact .inl e)).trans' aA.2 (fun a M e=>by
       rcases e with e | e;exact .inl e
       · right;rw [<-a5.out a M,e,ce.out];unfold TC;omega)) (p:=w.heap.size) (.inr nL) _
      obtain ⟨cd,co,cu,cy⟩:=hqq4 bx bP c0 aZ;clear aA a9 ad bP bx c0 aZ b7 dm dn dq dp;go_wp2_with fail;go_roundw
      case rel=>
       refine ⟨d+1,dB u A.heap.size Q.heap.size (TC d c),b6,by omega,by go_num,cd.out,?_,fun a M=>?_,fun a M=>?_,cy.out,cu.out⟩;rw [cD.out];exact co.out;unfold dB;rw [zBx oM];exact a5.out a M
       · unfold dB;by_cases S:a < A.heap.size;rw [zBx S];exact aE.out a M
         · rw [zBw S];unfold TC;split <;> omega
      case measure=>simp [intOf];omega
  · obtain rfl:d=9:=oM;have aa:WaveS wr B u g l (fun _=>aV L k j) (q:Int) aB:=⟨U.blk,U.base,fun D c2=>by have:=U.rows D c2;simpa [c2] using this,U.bnd⟩;obtain ⟨_,ec,_⟩:=aa.cells;have dQ:=aa.blk.frozen 9;have e2:=aa.blk.lt;have bC:=aa.set_n ((q:Int)+1);have cQ:wrap64 ((q:Int)+1)=(q:Int)+1:=(by unfold wrap64;omega);have c1:Keep (fun a=>a=g∨16<=own a) w (wr.setCell ⟨g,9,none⟩ (.int .i64 ((q:Int)+1))):=ka (F:=fun a=>a=g∨16<=own a) au (p:=⟨g,9,none⟩) (.inl (.inl rfl)) _;obtain ⟨cg,cv,a5,aE⟩:=hqq4 bC c1 ay az;clear U aa bC au c1 ao ay az aX;go_wp2_with fail;go_ret;refine ⟨rfl,u,⟨l,aB,?_⟩,a5.out,aE.out,cv.out⟩;rw [cr.out];exact cg.out
def yJ (B d:Nat) (own L) (g j:Nat) (w) (m:WaveE w B own d L) (aH:L[g]?=some j) (ae:∀n∈L,n < 257) (cI:L.length<=128):
 Calls prog 156 #[d,(g:Int)] w fun o w'=>o=.returned (.tuple #[(j:Int),o0])/\∃own',WaveE w' B own' d (aF L g)/\(∀a,a < w.heap.size->own' a=own a)/\(∀a,w.heap.size<=a->own' a≠1)/\Keep (fun a=>a=d∨16<=own a) w w':=by
 obtain ⟨Q,aI⟩:=zAc.1 aH;have aR:j < 257:=by rw [<-aI];exact ae _ (zBj Q)
 have bl:=mA L g j (zCm Q) ae aR;have bP:=oR j aR;have bQ:=oT j;have bp:∀b,(aL L b (bG j b))[gF L g j b]?=some (hQ j b):=fun b=>by have:=aBw L g b Q;rw [aI] at this;exact this
 obtain ⟨l,dJ,m⟩:=m;obtain ⟨q,ai⟩:=eqx L.length;rw [ai] at m Q cI;have bC:(aF L g).length+1=q:=by rw [dD _ oM,ai]
 obtain ⟨cw,cv,ct⟩:=m.cells;have cy:=m.blk.frozen 10;have cG:=m.blk.lt;have dk:B<=w.heap.size:=zAk m.base.1 (zCm cG);obtain ⟨bV,M⟩:=m.vis ((VisK.alloc (VB.set_wave m.blk m.base.1 0) (.cells #[(g:Int)] 3)).1);have cC:d≠w.heap.size:=oM;have O:=ke (w.setCell ⟨d,10,none⟩ (.int .i64 0)) 3 #[(g:Int)];rw [show (w.setCell ⟨d,10,none⟩ (.int .i64 0)).heap.size=w.heap.size by simp [World.setCell]] at O;have aG:Keep (fun a=>a=d∨16<=own a) w ((w.setCell ⟨d,10,none⟩ (.int .i64 0)).alloc (.cells #[(g:Int)] 3)):=(ka (F:=fun a=>a=d∨16<=own a) (kf _ _) (p:=⟨d,10,none⟩) (.inl (.inl rfl)) _).alloc _;obtain ⟨r,aw⟩:=eqx ((w.setCell ⟨d,10,none⟩ (.int .i64 0)).alloc (.cells #[(g:Int)] 3));rw [aw] at M O aG;obtain ⟨t,bb,cu⟩:=M.cells;have d6:∀e,(r.drewN e).cell? d=some (l 0):=fun e=>t 0 oM;have J:∀e,(r.drewN e).cell? ⟨d,1,none⟩=some (l 1):=fun e=>t 1 oM;have ar:∀e,(r.drewN e).cell? ⟨d,2,none⟩=some (l 2):=fun e=>t 2 oM;have d7:∀e,(r.drewN e).cell? ⟨d,3,none⟩=some (l 3):=fun e=>t 3 oM;have d8:∀e,(r.drewN e).cell? ⟨d,4,none⟩=some (l 4):=fun e=>t 4 oM;have d9:∀e,(r.drewN e).cell? ⟨d,5,none⟩=some (l 5):=fun e=>t 5 oM;have da:∀e,(r.drewN e).cell? ⟨d,6,none⟩=some (l 6):=fun e=>t 6 oM;have db:∀e,(r.drewN e).cell? ⟨d,7,none⟩=some (l 7):=fun e=>t 7 oM;have dc:∀e,(r.drewN e).cell? ⟨d,8,none⟩=some (l 8):=fun e=>t 8 oM;have bc:r.cell? ⟨d,9,none⟩=some (.int .i64 (q:Int)):=bb;have bd:r.cell? w.heap.size=some (.int .i64 (g:Int)):=(O.cell 0).trans rfl;have cF:decide ((g:Int) < 0)=false:=by simp
 have dx:¬q<=g:=oM;have dm:=M.blk.lt;have dl:=O.lt;obtain ⟨aW,ca,cf,bX,cZ,c0,ce,c2,d2⟩:=hqq9 M O aG bl ae ai bC aw Q;obtain ⟨d0,bu,cq,cr,c3,b4⟩:=hqq6 m.base m.bnd bP bQ bp aH;have dd:∀e,(r.drewN e).cell? ⟨d,9,none⟩=some (.int .i64 (q:Int)):=fun e=>bc;have de:∀e,(r.drewN e).cell? w.heap.size=some (.int .i64 (g:Int)):=fun e=>bd;clear m M O aG bl ae ai bC aw cw t bb cu Q bP bQ bp aH aI;go_enter func156,ntmps156;go_wp2_with fail;rw [c2.out];clear ct cy cv;go_quiet (fail);clear bc bd cF;go_wp2_with fail;go_loopw [6,31] (fun cY aU wr=>∃(b:Nat) (i:Nat->Nat) (V:Int),b<=9/\aU=.int .i64 b/\cY=.int .i64 ((bG j b:Nat):Int)/\WaveS wr B i d l (fun s=>if s < b then aF L g else L) (q:Int) V/\Bk wr w.heap.size 3 #[.int .i64 ((gF L g j b:Nat):Int)]/\(∀a,a < w.heap.size->i a=own a)/\(∀a,w.heap.size<=a->i a≠1)/\i w.heap.size=0/\Keep (fun a=>a=d∨16<=own a) w wr) (fun _ aU _=>9 -(intOf aU).toNat)
 case atStart=>refine ⟨0,own,bV,by omega,rfl,by rw [cq.out];rfl,?_,?_,fun _ _=>rfl,fun a x o=>?_,?_,?_⟩;obtain ⟨bW,bj⟩:=aW.out.vis (kc (kn bR _));have:bW=bV:=(by have ap:=bj.cells.2.2;have aq:=aW.out.cells.2.2;have X:=aq.symm.trans ap;injection X with X;injection X with _ X;exact X.symm);subst this;simpa using bj;rw [bX.out];exact ca.out.drewN _;have:=(bu.out a oM).2;omega;rcases zBa (own w.heap.size) with o | o;exact o;have:=(bu.out w.heap.size oM).2;omega;exact cf.out.drewN _
 case round=>
  obtain ⟨b,i,V,dy,rfl,rfl,z,af,aj,ak,aK,ag⟩:=hrel;by_cases S:b < 9
  · have cE:=ix9 l b S;obtain ⟨G,u,cJ,aS⟩:=z.rows b S;obtain ⟨aV,ah⟩:=eqx (2 ^ b);obtain ⟨c,v⟩:=eqx (bG j b);have aM:c < aV:=(by rw [<-ah,<-v];exact mO j b aR oM);have bI:c < 2 ^ b:=(by rw [ah];exact aM);have cB:=lhd u;rw [ah] at u aS;obtain ⟨av,au,bo,dz,dw⟩:=kk u oM;rw [bo] at cE u;obtain ⟨n,a6⟩:=eqx (gF L g j b);obtain ⟨k,A⟩:=eqx (gF L g j (b+1));obtain ⟨a,a2⟩:=eqx (hQ j b);have aT:=mB L g j b S;have am:=c3.out b;have ay:=aE5 b b4.out;have az:=fun e=>zT b e b4.out;have al:=oS j b S;rw [v,a6,a2,A] at aT;rw [v,a6,a2] at am;rw [v,a6] at ay;rw [v] at az;rw [v,a2] at al;have bO:n < (aL L b c).length:=(zAc.1 am).1;have bN:(aL L b c).getD n false=a:=(by rw [zAb,am];rfl);rw [a6] at af;rw [v];obtain ⟨cN,aN⟩:=eqx (bG j (b+1));rw [aN] at al;have cK:c<=1000:=(by have:=aK3 S bI;omega);have bM:TreeE wr (fun a=>i a=TC b c) (G c) (aL L b c):=(by have:=aS c aM;rw [zBw oM] at this;exact this);have dF:(c:Int) < (aV:Int):=oM;obtain ⟨d4,b9,co,ab,c7,c8,cn,cj,ck⟩:=hqq9 u bM aT bO ay az bN al aN;obtain ⟨d5,d1,cp,aa,a9,W,ao,b6,b3⟩:=hqq9 v a2 A z af aj ak aK ag;clear aS bo ah v a6 A a2 aT bO am ay az bN al aN z af aj ak aK ag bM cJ;obtain ⟨bS,bT,bU⟩:=fV G b aV c aM;have cs:wr.cell? ⟨av,c*3,none⟩=_:=(ki u (c*3) oM).trans bS;have ap:wr.cell? ⟨av,c*3+1,none⟩=_:=(ki u (c*3+1) oM).trans bT;have aq:wr.cell? ⟨av,c*3+2,none⟩=_:=(ki u (c*3+2) oM).trans bU;have cM:wr.cell? w.heap.size=some (.int .i64 (n:Int)):=(a9.out.cell 0).trans rfl;have dv:=a9.out.lt;clear bS bT bU u;go_wp2_with fail;obtain ⟨ac,Z⟩:=eqx ((wr.alloc (.cells #[.pointer (some ⟨G c,0,none⟩),(b:Int),(c:Int)] 183)).alloc (.cells #[false] 4));have bs:Below wr.heap.size wr ac:=(by rw [<-Z];exact (bR.alloc nL _).alloc (by simp) _);have br:Bk ac wr.heap.size 183 #[.pointer (some ⟨G c,0,none⟩),(b:Int),(c:Int)]:=(by rw [<-Z];exact (ke wr _ _).alloc _);have bq:Bk ac (wr.heap.size+1) 4 #[false]:=(by rw [<-Z];have m:=ke (wr.alloc (.cells #[.pointer (some ⟨G c,0,none⟩),(b:Int),(c:Int)] 183)) 4 #[false];rw [sZ0] at m;exact m);rw [Z];obtain ⟨c5,c4,K⟩:=hqq3 br bq bs;clear br bq bs Z cs ap aq cM;obtain ⟨cP,bh⟩:=aa.out.vis (kc K.out);have bz:=a9.out.below K.out a9.out.lt;have bJ:=b9.out.below K.out;have bB:=aa.out.base.2;have bv:=aa.out.bnd;have dH:=K.out.size;have cD:=aa.out.blk.lt;obtain ⟨aX,cc,b8,cd,aZ⟩:=hqq5 bh bz bJ bB bv;clear bh bz bJ bB bv;refine (mZ d (G c) l q cP b c (aL L b c) n true ac aX.out.blk b8.out.at (zCm ab.out)).mono ?_;rintro o E ⟨rfl,y⟩;obtain ⟨U,aJ⟩:=eqx (((aL L b c).take n).count true);have bH:(if a then U else n - U)=k:=(by have M:=qU ((aL L b c).take n);have cz:((aL L b c).take n).length=n:=(by rw [zAj];have:=ab.out;omega);have cA:=co.out;cases a;simp;omega;simp;omega);have dA:U<=n:=(by rw [<-aJ];exact zAk zBv (by rw [zAj];omega));rw [aJ];obtain ⟨cQ,bi⟩:=aX.out.vis y.1;have bK:=b8.out.vis y.1;have aE:=y.1.bk cc.out dC dC;have N:=y.1.bk c5.out dC dC;have ax:=y.1.bk c4.out dC dC;have dI:=y.1.size;have cR:E.cell? ⟨wr.heap.size,0,none⟩=some (.pointer (some ⟨G c,0,none⟩)):=(N.cell 0).trans rfl;have cS:E.cell? ⟨wr.heap.size,1,none⟩=some (.int .i64 (b:Int)):=(N.cell 1).trans rfl;have cT:E.cell? ⟨wr.heap.size,2,none⟩=some (.int .i64 (c:Int)):=(N.cell 2).trans rfl;have dr:=N.lt;have dp:=ax.lt;have du:=aE.lt;have cH:∀(be:Fn) (first au:Array Value) (w:World),(Instr.makeFunc be first au).run prog w=.ok (.func be first au) w:=fun _ _ _ _=>rfl;obtain ⟨b5,an,cm,b1,c6,aY,ba⟩:=hqq7 bH bi bK aE N ax y;clear aJ bH bi bK aE N ax y;go_wp2_with fail;have a8:∀k,wr.heap.size<=k->¬(i k=TC b c):=fun k A f=>by have:=(aZ.out k (by rw [f];unfold TC;omega)).2;omega
    refine (aHx d (G c) w.heap.size (wr.heap.size+1) l q cQ b c _ (fun a=>i a=TC b c) (aL L b c) n E an.out.blk cm.out (fun f=>by rw [cd.out] at f;unfold TC at f;omega) (a8 _ oM) (fun k A=>(an.out.bnd k (by rw [A];unfold TC;omega)).2) b1.out aY.out (fun k A o=>a8 k oM A) ab.out).mono ?_;rintro o I ⟨rfl,bL,a5,a3,bW,bt⟩;rw [cn.out] at a3
    have aD:=an.out.edit (lv:=b) (p:=c) (gx:=wr.heap.size+1) S bI (aA (aQ cB.out K.out) fun a cx _ aC=>ba.out.1.bk aC dC dC) (by
        rcases zBa (i (wr.heap.size+1)) with o | o;omega
        · have:=(aZ.out _ (by omega:i (wr.heap.size+1)≠0)).2;omega) (fun cx aC=>absurd (aP aC aY.out).1 dC) bL a5 bt (L':=aF L g) c7.out (fun e cL=>by rw [zBw (zCl _)];exact c8.out e (fun o=>cL o.symm))
    have bw:(fun s=>if s=b then aF L g else if s < b then aF L g else L)=fun s=>if s < b+1 then aF L g else L:=by
        funext s;by_cases J:s=b
        · rw [zBx J,zBx oM]
        · by_cases ar:s < b
          · rw [zBw J,zBx ar,zBx oM]
          · rw [zBw J,zBw ar,zBw oM]
    rw [bw] at aD
    have bA:=a5.bk b1.out (fun f=>by
        rcases f with f | f | f;have ad:i w.heap.size=TC b c:=f;rw [b6.out] at ad;unfold TC at ad;omega;exact cC f.symm
        · omega)
    have a1:=a5.bk c6.out (fun f=>by
        rcases f with f | f | f;exact a8 _ nL f;omega
        · omega)
    have cU:I.cell? ⟨wr.heap.size,0,none⟩=some (.pointer (some ⟨G c,0,none⟩)):=(a1.cell 0).trans rfl;have cV:I.cell? ⟨wr.heap.size,1,none⟩=some (.int .i64 (b:Int)):=(a1.cell 1).trans rfl;have cW:I.cell? ⟨wr.heap.size,2,none⟩=some (.int .i64 (c:Int)):=(a1.cell 2).trans rfl;have cX:I.cell? ⟨wr.heap.size+1,0,none⟩=some (.bool a):=(a3.cell 0).trans rfl;have ds:=a1.lt;have dq:=a3.lt;have bm:i (G c)=TC b c:=b9.out.1;obtain ⟨c9,cg,b2,b0,bZ,d3⟩:=hqq6 aD a5 bA a3 bm a8;clear bL a5 bt aD bw bA a1 a3 cR cS cT cH bm a8;go_wp2_with fail;refine (aDJ (G c) b c a I cK).mono ?_;rintro o D ⟨rfl,a0⟩;rw [<-cj.out];obtain ⟨cO,bf⟩:=c9.out.vis (kc a0);have a4:=b2.out.below a0 b2.out.lt;have aB:=b0.out.below a0 b0.out.lt;have dL:D.cell? ⟨wr.heap.size+1,0,none⟩=some (.bool a):=(aB.cell 0).trans rfl;have dM:D.cell? w.heap.size=some (.int .i64 (n:Int)):=(a4.cell 0).trans rfl;have di:=a4.frozen 0;have dt:=a4.lt;have dn:=aB.lt;have bx:=a4.set 0 (.int .i64 (k:Int));have aO:dB i E.heap.size I.heap.size (TC b c) w.heap.size=0:=(by unfold dB;rw [zBx oM];exact b6.out);have bg:=bf.far (w':=D.setCell w.heap.size (.int .i64 (k:Int))) (H:=fun a=>a=w.heap.size) (ka (F:=fun a=>a=w.heap.size) (kf _ _) (p:=w.heap.size) (.inl rfl) _) (fun a o=>by rw [show a=w.heap.size from o,aO];omega);have dG:=b3.out.size
    have bD:Keep (fun a=>a=d∨16<=own a) w (D.setCell w.heap.size (.int .i64 (k:Int))):=ka (F:=fun a=>a=d∨16<=own a) ((((b3.out.trans (kF K.out)).trans' ba.out.2 (fun a x f=>by
        rcases f with f | f;exact .inl f
        · right;rw [<-W.out a x,f,bZ.out];unfold TC;omega)).trans' cg.out (fun a x f=>by
        rcases f with f | f | f;right;have ad:i a=TC b c:=f;rw [<-W.out a x,ad];unfold TC;omega;exact .inl f
        · omega)).trans (kF a0)) (p:=w.heap.size) (.inr nL) _
    obtain ⟨bY,cb,ch,cl⟩:=hqq4 bg bx bD aO;clear a0 bf a4 aB bx bg bD aO cU cV cW cX
    have hrel:∃(a7:Nat) (i:Nat->Nat) (V:Int),a7<=9/\Value.int .i64 ((b+1:Nat):Int)=.int .i64 a7/\Value.int .i64 (cN:Int)=.int .i64 ((bG j a7:Nat):Int)/\WaveS (D.setCell w.heap.size (.int .i64 (k:Int))) B i d l (fun s=>if s < a7 then aF L g else L) (q:Int) V/\Bk (D.setCell w.heap.size (.int .i64 (k:Int))) w.heap.size 3 #[.int .i64 ((gF L g j a7:Nat):Int)]/\(∀a,a < w.heap.size->i a=own a)/\(∀a,w.heap.size<=a->i a≠1)/\i w.heap.size=0/\Keep (fun a=>a=d∨16<=own a) w (D.setCell w.heap.size (.int .i64 (k:Int))):=by
        refine ⟨b+1,dB i E.heap.size I.heap.size (TC b c),cO,by omega,rfl,by rw [ck.out],bY.out,?_,fun a x=>?_,fun a x=>?_,cl.out,ch.out⟩;rw [cp.out];exact cb.out;unfold dB;rw [zBx oM];exact W.out a x
        · unfold dB;by_cases J:a < E.heap.size;rw [zBx J];exact ao.out a x
          · rw [zBw J];unfold TC;split <;> omega
    have b7:=lhd hrel;clear hrel;cases a with
    | true=>
      obtain rfl:U=k:=(by have:=b5.out;simpa using this);go_wp2_with fail;go_roundw
      case rel=>exact b7.out
      case measure=>simp [intOf];omega
    | false=>
      have dE:n - U=k:=(by have:=b5.out;simpa using this);have dg:IntKind.i64.wrap ((n:Int) -(U:Int))=(k:Int):=(by have cz:=ab.out;have cA:(aL L b c).length<=L.length:=(by rw [jM];exact zBh);have dj:=c0.out;rw [wI0];omega);go_wp2_with fail;go_roundw
      case rel=>exact b7.out
      case measure=>simp [intOf];omega
  · obtain rfl:b=9:=oM;have Y:WaveS wr B i d l (fun _=>aF L g) (q:Int) V:=⟨z.blk,z.base,fun s bF=>by have:=z.rows s bF;simpa [bF] using this,z.bnd⟩;obtain ⟨_,dK,_⟩:=Y.cells;have dh:=Y.blk.frozen 9;have cD:=Y.blk.lt;have bn:=Y.set_n ((q:Int) - 1);have df:IntKind.i64.wrap ((q:Int) - 1)=(q:Int) - 1:=(by rw [wI0];omega);have bE:Keep (fun a=>a=d∨16<=own a) w (wr.setCell ⟨d,9,none⟩ (.int .i64 ((q:Int) - 1))):=ka (F:=fun a=>a=d∨16<=own a) ag (p:=⟨d,9,none⟩) (.inl (.inl rfl)) _;rw [cr.out];obtain ⟨c1,ci,W,ao⟩:=hqq4 bn bE aj ak;clear z Y bn ag bE af aj ak aK;go_wp2_with fail;go_ret2;refine ⟨rfl,i,⟨l,V,?_⟩,W.out,ao.out,ci.out⟩;rw [show (((aF L g).length:Nat):Int)=(q:Int) - 1 by have:=ce.out;omega];exact c1.out
def WalkT (w:World) (B gk:Nat) (L T:List Nat):Prop:=
 ∃b a,Bk w gk 135 #[.pointer (some ⟨b,0,none⟩),.pointer (some ⟨a,0,none⟩)]/\WaveAt w B b L/\Bk w a 196 (tcells T)
def WalkT.vis {w w' B gk L T} (d:WalkT w B gk L T) (a:Vis w w'):WalkT w' B gk L T:=by
 obtain ⟨c,b,e,f,g⟩:=d;exact ⟨c,b,a.bk e dC dC,f.vis a,a.bk g dC dC⟩
def rS (L T:List Nat) (a b:Nat):Nat:=T.countP (fun c=>decide (c < a))+(L.take b).count a
def aBB (B gk L T w) (d:WalkT w B gk L T):
 Calls prog 57 #[gk] w fun a w'=>a=.returned (.int .i64 (L.length:Int))/\w=w':=by
 obtain ⟨c,i,b,e,f⟩:=d;have g:=b.cell 0;clear b f;go_enter func57,ntmps57;go_wp2_with fail;refine (uX B c L _ e).mono ?_;rintro a w' ⟨rfl,rfl⟩;go_wp2_with fail;go_ret;exact ⟨rfl,rfl⟩
def yM (B gk:Nat) (L T) (a:Nat) (w) (k:WalkT w B gk L T) (o:a < 257) (n:T.length<=1000):
 Calls prog 117 #[gk,(a:Int)] w fun c w'=>c=.returned (.int .i64 ((T.countP (fun b=>decide (b < a)):Nat):Int))/\Below w.heap.size w w':=by
 obtain ⟨q,j,d,l,e⟩:=k;have p:=d.cell 1;clear d l;have i:=lhd e;clear e;go_enter func117,ntmps117;go_wp2_with fail;refine (kV j T a _ i.out o n).mono ?_;rintro c w' ⟨rfl,m⟩;obtain ⟨g,f⟩:∃g,T.countP (fun b=>decide (b < a))=g:=⟨_,rfl⟩;rw [f];go_wp2_with fail;go_ret;exact ⟨by rw [f];rfl,m⟩
def aDh (B gk L T b w) (d:WalkT w B gk L T) (g:b < L.length):
 Calls prog 114 #[gk,(b:Int)] w fun c w'=>c=.returned (.bool true)/\w=w':=by
 obtain ⟨i,a⟩:=eqx L.length;rw [a] at g;have j:(b:Int) < (i:Int):=oM;obtain ⟨f,e⟩:=hqq2 a d;clear a d;go_enter func114,ntmps114;go_wp2_with fail;refine (aBB B gk L T w e.out).mono ?_;rintro c w' ⟨rfl,rfl⟩;rw [f.out];go_wp2_with fail;go_ret;exact ⟨rfl,rfl⟩
def pY (B gk:Nat) (L T) (d b:Nat) (w) (D:WalkT w B gk L T) (n:L[d]?=some b) (t:∀v∈L,v < 257) (Q:L.length<=1000) (K:T.length<=1000):
 Calls prog 112 #[gk,(d:Int)] w fun f w'=>f=.returned (.int .i64 ((rS L T b d:Nat):Int))/\VB B w w':=by
 have N:=(zAc.1 n).1;have S:b < 257:=t _ (zAd n);have J:=D;obtain ⟨l,al,m,H,a7⟩:=D;have a4:=m.cell 0;have ao:=m.lt;obtain ⟨j,u⟩:=eqx (rS L T b d);obtain ⟨q,o⟩:∃ab,T.countP (fun v=>decide (v < b))=ab:=⟨_,rfl⟩;obtain ⟨r,p⟩:=eqx ((L.take d).count b);have O:q+r=j:=by rw [<-o,<-p,<-u];rfl
 have am:q<=1000:=by rw [<-o];exact zAk zBh K
 have an:r<=1000:=by rw [<-p];exact zAk zBv (by rw [zAj];omega)
 rw [u];obtain ⟨x,U,y,s,Z,z,A,X,a1⟩:=hqq9 J m H N n t Q K o;obtain ⟨a2,a0⟩:=hqq2 p O;clear J m H a7 N n t Q o p u O;go_enter func112,ntmps112;go_wp2_with fail;refine (aDh B gk L T d w x.out s.out).mono ?_;rintro f w1 ⟨rfl,rfl⟩;go_wp2_with fail;refine (eI B l L d b w y.out s.out (zAc.1 Z.out).2 z.out A.out).mono ?_;rintro f k ⟨rfl,i⟩;have M:=x.out.vis i.1;have E:=i.1.bk U.out dC dC;have I:=y.out.vis i.1;obtain ⟨Y,V,W,a3⟩:=hqq4 M E I i;clear M E I i a4;go_wp2_with fail;refine wp_region_any kR ?_;refine aO [20,21,22,23,24,25,26,27,28,29,30,4] (VB B) (Vs [is gk,is (b:Int),is (q:Int),is gk,is gk,is gk,is l,is (d:Int),is (b:Int),is (r:Int),is (j:Int),is (j:Int)]) _ _ rfl kR vR (fun _ _=>VisK.trans) (cS tA1) ?_ ?_
 · refine aK ?_;refine pH 0 (.pointer (some gk)) ?_;refine pH 5 (.int .i64 (b:Int)) ?_;refine sC (fun _ e a _ _ _ c _ _ _ g=>?_) ?_
   · have ae:_=_:=c 0 20 kR rfl;have af:_=_:=c 1 21 kR rfl;replace a:(VB B) k e:=bD a;go_simp;refine (yM B gk L T b e (Y.out.vis a.1) S X.out).mono ?_;rintro f ad ⟨rfl,a8⟩;rw [a1.out];exact g _ _ (kd a8) rfl
   refine pH 0 (.pointer (some gk)) ?_;refine pV 3 23 ?_;refine pV 4 24 ?_;refine pL 5 25 (fun e a=>have a:(VB B) k e:=bD a;(((a.1.bk V.out dC dC).cell 0).trans rfl:e.cell? gk=some (.pointer (some l)))) ?_;refine pH 1 (.int .i64 (d:Int)) ?_;refine pH 5 (.int .i64 (b:Int)) ?_;refine sC (fun _ e a _ _ _ c _ _ _ g=>?_) ?_
   · have ah:_=_:=c 6 26 kR rfl;have ai:_=_:=c 7 27 kR rfl;have aj:_=_:=c 8 28 kR rfl;replace a:(VB B) k e:=bD a;go_simp;refine (iP B l L d b e (W.out.vis a.1) S (zCm s.out) z.out A.out).mono ?_;rintro f ad ⟨rfl,aa⟩;rw [a2.out];exact g _ _ aa rfl
   refine sC (fun _ _ _ _ _ _ c _ _ _ g=>?_) ?_
   · have ag:_=_:=c 2 22 kR rfl;have ak:_=_:=c 9 29 kR rfl;have ap:IntKind.i64.wrap ((q:Int)+(r:Int))=(j:Int):=(by rw [wI0];have:=a0.out;omega);go_simp;exact g _ _ vR rfl
   refine pV 10 30 ?_;exact aC
 · intro a6 ac a c;replace a:(VB B) k ac:=bD a;have a5:a6 (.tmp 4)=.int .i64 (j:Int):=c 11 4 rfl;simp only [zqq];rw [a5];clear c;have a9:=a3.out.trans a;go_wp2_with fail;go_ret;exact ⟨rfl,a9⟩
def WalkE (w:World) (B:Nat) (own:Nat->Nat) (gk:Nat) (L T:List Nat):Prop:=
 ∃b a,Bk w gk 135 #[.pointer (some ⟨b,0,none⟩),.pointer (some ⟨a,0,none⟩)]/\own gk=2/\WaveE w B own b L/\Bk w a 196 (tcells T)/\own a=2
section
variable {w w' : World} {B : Nat} {own own' : Nat -> Nat} {gk : Nat} {L T : List Nat}
def WalkE.atT (c:WalkE w B own gk L T):WalkT w B gk L T:=by
 obtain ⟨b,a,d,_,e,f,_⟩:=c;exact ⟨b,a,d,e.at,f⟩
def WalkE.at (d:WalkE w B own gk L T) (g:T.Perm L):WalkAt w B gk L:=by
 obtain ⟨c,b,e,_,f,a,_⟩:=d;rw [uL g] at a;exact ⟨c,b,e,f.at,a⟩
def WalkE.vis (d:WalkE w B own gk L T) (a:Vis w w'):WalkE w' B own gk L T:=by
 obtain ⟨c,b,e,f,g,i,j⟩:=d;exact ⟨c,b,a.bk e dC dC,f,g.vis a,a.bk i dC dC,j⟩
def WalkE.far (g:WalkE w B own gk L T) {H} (d:Keep H w w') (c:∀a,H a->own a≠2/\own a < 16):WalkE w' B own gk L T:=by
 obtain ⟨f,e,i,j,k,l,m⟩:=g;exact ⟨f,e,d.bk i (fun b=>by have:=c _ b;omega),j,k.far d c,d.bk l (fun b=>by have:=c _ b;omega),m⟩
def WalkE.paint (k:WalkE w B own gk L T) (b:∀a,a < w.heap.size->2<=own a->own' a=own a) (l:∀a,own' a≠0->B<=a/\a < w.heap.size):WalkE w B own' gk L T:=by
 obtain ⟨j,i,c,e,f,d,g⟩:=k;exact ⟨j,i,c,by rw [b _ c.lt oM];exact e,f.paint b l,d,by rw [b _ d.lt oM];exact g⟩
def WalkE.tally {a} (j:WalkE w B own gk L T) (k:T.Perm a):WalkE w B own gk L a:=by
 obtain ⟨i,g,c,d,e,b,f⟩:=j;rw [uL k] at b;exact ⟨i,g,c,d,e,b,f⟩
def WaveE.bnd (b:WaveE w B own gk L):∀a,own a≠0->B<=a/\a < w.heap.size:=by
 obtain ⟨c,d,b⟩:=b;exact b.bnd
def WalkE.bnd (c:WalkE w B own gk L T):∀a,own a≠0->B<=a/\a < w.heap.size:=by
 obtain ⟨j,i,d,e,b,f,g⟩:=c;exact b.bnd
end
structure Grew (w w':World) (own own':Nat->Nat):Prop where
 old:∀b,b < w.heap.size->own' b=own b
 new:∀b,w.heap.size<=b->own' b≠1
 keep:Keep (fun b=>own b=2∨16<=own b) w w'
def Grew.refl {w own} (b:∀a,own a≠0->a < w.heap.size):Grew w w own own:=⟨fun _ _=>rfl,fun a d c=>by have:=b a oM;omega,kf _ _⟩
def Grew.trans {w w1 w' own e own'} (b:Grew w w1 own e) (d:Grew w1 w' e own'):Grew w w' own own':=by
 have i:=b.keep.size;refine ⟨fun a c=>(d.old a oM).trans (b.old a c),fun a c=>?_,b.keep.trans' d.keep fun a c g=>by rw [<-b.old a c];exact g⟩;by_cases f:a < w1.heap.size;rw [d.old a f];exact b.new a c;exact d.new a oM
def Grew.of_vb {B:Nat} {w w' own} (c:Keep (fun a=>own a=2∨16<=own a) w w') (b:∀a,own a≠0->a < w.heap.size):Grew w w' own own:=⟨fun _ _=>rfl,fun a e d=>by have:=b a oM;omega,c⟩
def eY (B gk:Nat) (own L T) (f g:Nat) (w) (b:WalkE w B own gk L T) (S:g < 257) (O:f<=L.length) (I:∀U∈L,U < 257) (Q:L.length<=127):
 Calls prog 104 #[gk,(f:Int),(g:Int)] w fun n w'=>n=.returned (.tuple #[])/\∃own',WalkE w' B own' gk (aV L f g) T/\Grew w w' own own':=by
 obtain ⟨c,o,d,E,e,k,H⟩:=b;have D:w.cell? gk=some (.pointer (some c)):=(d.cell 0).trans rfl;have J:=d.lt;have N:own c=2:=by obtain ⟨m,v,b⟩:=e;exact b.base.2
 have K:gk≠c:=by obtain ⟨m,v,b⟩:=e;exact Bk.ne d b.blk dC
 have M:o≠c:=by obtain ⟨m,v,b⟩:=e;exact Bk.ne k b.blk dC
 obtain ⟨x,y,l⟩:=hqq3 d e k;clear d e k;go_enter func104,ntmps104;go_wp2_with fail;refine (yI B c own L f g w y.out S O I Q).mono ?_;rintro n w1 ⟨rfl,own',u,j,s,i⟩;have q:=i.bk x.out (fun a=>by rcases a with a | a;exact K a;omega);have t:=i.bk l.out (fun a=>by rcases a with a | a;exact M a;omega);have r:Grew w w1 own own':=⟨j,s,i.mono fun V _ a=>by rcases a with a | a;left;rw [a,N];right;exact a⟩;have A:=lhd r;have p:WalkE w1 B own' gk (aV L f g) T:=⟨c,o,q,by rw [j _ J];exact E,u,t,by rw [j _ l.out.lt];exact H⟩;have z:=lhd p;clear u j s i q t r p D;go_wp2_with fail;go_end0;exact ⟨rfl,own',z.out,A.out⟩
def iE (B gk:Nat) (own L T) (f k:Nat) (w) (b:WalkE w B own gk L T) (s:L[f]?=some k) (K:∀U∈L,U < 257) (S:L.length<=128):
 Calls prog 95 #[gk,(f:Int)] w fun n w'=>n=.returned (.int .i64 (k:Int))/\∃own',WalkE w' B own' gk (aF L f) T/\Grew w w' own own':=by
 obtain ⟨c,o,d,I,e,j,J⟩:=b;have H:w.cell? gk=some (.pointer (some c)):=(d.cell 0).trans rfl;have M:=d.lt;have Q:own c=2:=by obtain ⟨m,x,b⟩:=e;exact b.base.2
 have N:gk≠c:=by obtain ⟨m,x,b⟩:=e;exact Bk.ne d b.blk dC
 have O:o≠c:=by obtain ⟨m,x,b⟩:=e;exact Bk.ne j b.blk dC
 obtain ⟨y,z,l,E⟩:=hqq4 d e j s;clear d e j s;go_enter func95,ntmps95;go_wp2_with fail;refine (yJ B c own L f k w z.out E.out K S).mono ?_;rintro n w1 ⟨rfl,own',v,i,t,g⟩;have q:=g.bk y.out (fun a=>by rcases a with a | a;exact N a;omega);have u:=g.bk l.out (fun a=>by rcases a with a | a;exact O a;omega);have r:Grew w w1 own own':=⟨i,t,g.mono fun V _ a=>by rcases a with a | a;left;rw [a,Q];right;exact a⟩;have D:=lhd r;have p:WalkE w1 B own' gk (aF L f) T:=⟨c,o,q,by rw [i _ M];exact I,v,u,by rw [i _ l.out.lt];exact J⟩;have A:=lhd p;clear v i t g q u r p H;go_wp2_with fail;go_ret;exact ⟨rfl,own',A.out,D.out⟩
def kU (B gk:Nat) (own L T) (a q b:Nat) (w) (m:WalkE w B own gk L T) (j:L[a]?=some q) (A:b < 257) (o:∀H∈L,H < 257) (z:L.length<=128):
 Calls prog 94 #[gk,(a:Int),(b:Int)] w fun c w'=>c=.returned (.tuple #[])/\∃own',WalkE w' B own' gk (L.set a b) T/\Grew w w' own own':=by
 have d:=(zAc.1 j).1;have I:=dD L d;have p:aV (aF L a) a b=L.set a b:=by
  apply List.ext_getElem?;intro e;rw [jI _ _ oM,zBm];by_cases f:e < a
  · rw [zBx f,zBw oM,eH _ d,zBx f]
  · rw [zBw f];by_cases g:e=a
    · subst g;rw [zBx rfl,zBx rfl,zBx d]
    · rw [zBw g,zBw (fun c=>g c.symm),eH _ d,zBw oM,show e - 1+1=e by omega]
 obtain ⟨t,x,y⟩:=hqq3 m j p;clear m j p;go_enter func94,ntmps94;go_wp2_with fail;refine (iE B gk own L T a q w t.out x.out o z).mono ?_;rintro c w1 ⟨rfl,D,n,k⟩;obtain ⟨u,r⟩:=hqq2 n k;clear n k;go_wp2_with fail;refine (eY B gk D (aF L a) T a b w1 u.out A oM (pE o) oM).mono ?_;rintro c J ⟨rfl,E,i,l⟩;rw [y.out] at i;obtain ⟨v,s⟩:=hqq2 i (r.out.trans l);clear i l;go_wp2_with fail;go_end0;exact ⟨rfl,E,v.out,s.out⟩
def gT (B gk:Nat) (own L T) (g:Nat) (w) (b:WalkE w B own gk L T) (U:g < 257) (M:T.length<=1000):
 Calls prog 96 #[gk,(g:Int),(1:Int)] w fun d w'=>d=.returned (.tuple #[])/\WalkE w' B own gk L (T++ [g])/\Grew w w' own own:=by
 have N:=b.bnd;obtain ⟨m,e,f,K,n,l,o⟩:=b;have Y:w.cell? ⟨gk,1,none⟩=some (.pointer (some e)):=(f.cell 1).trans rfl;have Z:=f.lt;have O:gk≠e:=Bk.ne f l dC;obtain ⟨v,x,i⟩:=hqq3 f n l;clear f n l;go_enter func96,ntmps96;go_wp2_with fail;refine (sR e T g w i.out U M).mono ?_;rintro d w1 ⟨rfl,t,c⟩;have q:=c.bk v.out O;have u:WaveE w1 B own m L:=by
  obtain ⟨A,X,b⟩:=x.out;refine ⟨A,X,c.bk b.blk (Bk.ne b.blk i.out dC),b.base,fun V Q=>?_,fun a j=>⟨(b.bnd a j).1,zAl (b.bnd a j).2 c.size⟩⟩;obtain ⟨G,H,I,J⟩:=b.rows V Q;exact ⟨G,aA H fun a D _ k=>c.bk k (Bk.ne k i.out dC),I,fun W S=>(J W S).keep c fun a a0 D s k _ d=>by
   have E:a=e:=d;subst E;rw [(aP k i.out).1] at s;exact absurd s dC⟩
 have p:WalkE w1 B own gk L (T++ [g]):=⟨m,e,q,K,u,t,o⟩;have r:Grew w w1 own own:=Grew.of_vb (B:=B) (c.mono fun a _ d=>by left;rw [show a=e from d,o]) fun a j=>(N a j).2;obtain ⟨y,z⟩:=hqq2 p r;clear t c q u p r;go_wp2_with fail;go_end0;exact ⟨rfl,y.out,z.out⟩
def mF (B gk own L T i l w) (b:WalkE w B own gk L T) (r:T.Perm (l::i)) (X:l < 257) (Q:T.length<=1000):
 Calls prog 96 #[gk,(l:Int),(-1:Int)] w fun d w'=>d=.returned (.tuple #[])/\WalkE w' B own gk L i/\Grew w w' own own:=by
 have S:=b.bnd;obtain ⟨n,e,f,O,o,m,p⟩:=b;have a1:w.cell? ⟨gk,1,none⟩=some (.pointer (some e)):=(f.cell 1).trans rfl;have a2:=f.lt;have U:gk≠e:=Bk.ne f m dC;obtain ⟨y,z,g,E⟩:=hqq4 f o m r;clear f o m r;go_enter func96,ntmps96;go_wp2_with fail;refine (aBF e T i l w E.out g.out X Q).mono ?_;rintro d w1 ⟨rfl,v,c⟩;have s:=c.bk y.out U;have x:WaveE w1 B own n L:=by
  obtain ⟨H,a0,b⟩:=z.out;refine ⟨H,a0,c.bk b.blk (Bk.ne b.blk g.out dC),b.base,fun Y V=>?_,fun a j=>⟨(b.bnd a j).1,zAl (b.bnd a j).2 c.size⟩⟩;obtain ⟨G,K,M,N⟩:=b.rows Y V;exact ⟨G,aA K fun a I _ k=>c.bk k (Bk.ne k g.out dC),M,fun Z W=>(N Z W).keep c fun a a3 I u k _ d=>by
   have J:a=e:=d;subst J;rw [(aP k g.out).1] at u;exact absurd u dC⟩
 have q:WalkE w1 B own gk L i:=⟨n,e,s,O,x,v,p⟩;have t:Grew w w1 own own:=Grew.of_vb (B:=B) (c.mono fun a _ d=>by left;rw [show a=e from d,p]) fun a j=>(S a j).2;obtain ⟨A,D⟩:=hqq2 q t;clear v c s x q t;go_wp2_with fail;go_end0;exact ⟨rfl,A.out,D.out⟩
def PermAt.vis {w w' B gp ga vl vo vt vf R P ks C tk fr} (a:PermAt w B gp ga vl vo vt vf R P ks C tk fr) (b:Vis w w'):PermAt w' B gp ga vl vo vt vf R P ks C tk fr:=
 ⟨b.bk a.blk dC dC,b.own a.lrow dC dC,b.own a.orow dC dC,b.bk a.ar dC dC,b.own a.trow dC dC,b.own a.frow dC dC,a.apart,a.lt,a.lo⟩
def LiveAt.vis {w w' c d gk gp ga vl vo vt B e f L C tk} (a:LiveAt w c d gk gp ga vl vo vt B e f L C tk) (b:Vis w w'):LiveAt w' c d gk gp ga vl vo vt B e f L C tk:=
 ⟨b.bk a.blk dC dC,a.walk.vis b,a.perm.vis b⟩
def aIb (f e d a c):(a,c)∈cW f e d↔a < d/\f.getD a 0=c/\c % e=0:=by
 unfold cW;rw [zAy];constructor;rintro ⟨k,b,g⟩;rw [zCv,zCj] at b;cases g;exact ⟨b.1,rfl,by simpa using b.2⟩;rintro ⟨i,rfl,j⟩;exact ⟨a,zCv.2 ⟨zCj.2 i,by simpa using j⟩,rfl⟩
def aA6 (C) (e:C.Pairwise (fun a b=>a.1 < b.1)):(List.range C.length).Pairwise (fun a b=>aD C a < aD C b):=by
 rw [zAr];intro g i c d f;rw [zCi] at c d;rw [List.getElem_range,List.getElem_range];have:=zAr.1 e g i c d f;unfold aD;rw [zAb,zAb,zAa c,zAa d];exact this
def aIc (c b a):(cW c b a).length<=a:=by
 unfold cW;rw [zBc];exact zAk (zCu _ _) (by simp)
def lE (C) (b d:Nat) (p:b < C.length):(bU C).set (b*2) (.int .i64 (d:Int))=bU (C.set b (d,aI C b)):=by
 apply List.ext_getElem?;intro a;have q:=dG C;have n:=dG (C.set b (d,aI C b));rw [zAt] at n;rw [zBm];by_cases o:a < C.length*2
 · have e:a / 2 < C.length:=oM;obtain ⟨j,k⟩:=cH C (a / 2) e;obtain ⟨g,i⟩:=cH (C.set b (d,aI C b)) (a / 2) (by rw [zAt];exact e);have m:aD (C.set b (d,aI C b)) (a / 2)=if b=a / 2 then d else aD C (a / 2):=by
    unfold aD;rw [zAb,zBm,zAb];by_cases c:b=a / 2
    · simp [c,e]
    · simp [c]
   have l:aI (C.set b (d,aI C b)) (a / 2)=aI C (a / 2):=by
    unfold aI;rw [zAb,zBm,zAb,zAb];by_cases c:b=a / 2
    · subst c;simp [e]
    · simp [c]
   rw [m] at g;rw [l] at i;by_cases r:a % 2=0
   · have f:a / 2*2=a:=oM;rw [f] at j g;rw [g];by_cases c:b*2=a
     · rw [zBx c,zBx oM,zBx oM]
     · rw [zBw c,j,zBw oM]
   · have f:a / 2*2+1=a:=oM;rw [f] at k i;rw [i,zBw oM,k]
 · rw [zBw oM,zBg oM,zBg oM]
def nT (C) (b d:Nat) (p:b < C.length):(bU C).set (b*2+1) (.int .i64 (d:Int))=bU (C.set b (aD C b,d)):=by
 apply List.ext_getElem?;intro a;have q:=dG C;have n:=dG (C.set b (aD C b,d));rw [zAt] at n;rw [zBm];by_cases o:a < C.length*2
 · have e:a / 2 < C.length:=oM;obtain ⟨j,k⟩:=cH C (a / 2) e;obtain ⟨g,i⟩:=cH (C.set b (aD C b,d)) (a / 2) (by rw [zAt];exact e);have m:aD (C.set b (aD C b,d)) (a / 2)=aD C (a / 2):=by
    unfold aD;rw [zAb,zBm,zAb,zAb];by_cases c:b=a / 2
    · subst c;simp [e]
    · simp [c]
   have l:aI (C.set b (aD C b,d)) (a / 2)=if b=a / 2 then d else aI C (a / 2):=by
    unfold aI;rw [zAb,zBm,zAb];by_cases c:b=a / 2
    · simp [c,e]
    · simp [c]
   rw [m] at g;rw [l] at i;by_cases r:a % 2=0
   · have f:a / 2*2=a:=oM;rw [f] at j g;rw [g,zBw oM,j]
   · have f:a / 2*2+1=a:=oM;rw [f] at k i;rw [i];by_cases c:b*2+1=a
     · rw [zBx c,zBx oM,zBx oM]
     · rw [zBw c,k,zBw oM]
 · rw [zBw oM,zBg oM,zBg oM]
def dN {a} (b:-9223372036854775808<=a) (c:a<=9223372036854775807):wrap64 a=a:=by unfold wrap64;omega
def rR {w w':World} {B c d:Nat} {a:TypeId} {e:Value} {f:List Value} (g:w.ownsRow B a d e c f) (i:w'.heap=w.heap):w'.ownsRow B a d e c f:=aA g fun j k _ b=>by unfold Bk at b⊢;rw [i];exact b
def lU (C:List (Nat×Nat)) (a:Nat) (c:a < C.length):C.set a (aD C a,aI C a)=C:=by
 have b:(aD C a,aI C a)=C[a]:=by unfold aD aI;rw [zAb,zAa c];rfl
 rw [b,List.set_getElem_self]
def mvR (a c b:Nat):Nat:=if b=a then c else inR (bB b a) c
def aFh (B d f u l c a:Nat) (C w) (e:w.ownsRow B 114 2 (.slice (some d) f u) f (bU C)) (g:a < C.length) (s:Bk w l 3 #[(c:Int)]) (J:aD C a<=1000000000000):
 Calls prog 168 #[.pointer (some ⟨d,a*2,none⟩),l] w fun H w'=>H=.returned (.tuple #[])/\w'.ownsRow B 114 2 (.slice (some d) f u) f (bU (C.set a (inR (aD C a) c,aI C a)))/\Keep (fun j=>j=d) w w':=by
 obtain ⟨v,x⟩:=cH C a g;have K:C.length=f:=by have I:=e.1;rw [dG] at I;omega
 have D:=(ki e (a*2) oM).trans v;have E:=(ki e (a*2+1) oM).trans x;have X:w.cell? l=some (.int .i64 (c:Int)):=(s.cell 0).trans rfl;obtain ⟨Q,m⟩:=fW e;have fr:=m.frozen (a*2);have U:=m.lt;have V:=s.lt;have i:=lU C a g;have r:=fun N=>lE C a N g;obtain ⟨b,q⟩:=eqx (aD C a);obtain ⟨M,o⟩:=eqx (aI C a);rw [q] at D i J;rw [o] at E i r;rw [q,o];obtain ⟨t,z,A⟩:=hqq3 e i r;clear e g s v x m i r K q o;by_cases W:c<=b
 · have O:decide ((b:Int)>=(c:Int))=true:=zBz oM;have S:wrap64 ((b:Int)+1)=((b+1:Nat):Int):=(by unfold wrap64;omega);have n:=(kl t.out (a*2) (.int .i64 ((b+1:Nat):Int))).1;rw [A.out] at n;have y:=lhd n;clear n;go_enter func168,ntmps168;go_wp2_with fail;go_quiet (fail);go_wp2_with fail;go_end0;refine ⟨rfl,?_,ka (F:=fun j=>j=d) ((kf _ _).drewN _) (p:=⟨d,a*2,none⟩) (.inl rfl) _⟩;have k:inR (b) c=b+1:=(by unfold inR;rw [zBx oM]);rw [k];exact y.out
 · have O:decide ((b:Int)>=(c:Int))=false:=zBy oM;go_enter func168,ntmps168;go_wp2_with fail;go_quiet (fail);go_wp2_with fail;go_end0;refine ⟨rfl,?_,(kf _ _).drewN _⟩;have k:inR (b) c=b:=(by unfold inR;rw [zBw oM]);rw [k,z.out];exact t.out
def aFn (B d f u l c a:Nat) (C w) (e:w.ownsRow B 114 2 (.slice (some d) f u) f (bU C)) (g:a < C.length) (s:Bk w l 3 #[(c:Int)]) (J:aI C a<=1000000000000):
 Calls prog 169 #[.pointer (some ⟨d,a*2,none⟩),l] w fun H w'=>H=.returned (.tuple #[])/\w'.ownsRow B 114 2 (.slice (some d) f u) f (bU (C.set a (aD C a,inR (aI C a) c)))/\Keep (fun j=>j=d) w w':=by
 obtain ⟨v,x⟩:=cH C a g;have K:C.length=f:=by have I:=e.1;rw [dG] at I;omega
 have D:=(ki e (a*2) oM).trans v;have E:=(ki e (a*2+1) oM).trans x;have X:w.cell? l=some (.int .i64 (c:Int)):=(s.cell 0).trans rfl;obtain ⟨O,m⟩:=fW e;have fr:=m.frozen (a*2+1);have S:=m.lt;have U:=s.lt;have i:=lU C a g;have r:=fun M=>nT C a M g;obtain ⟨W,q⟩:=eqx (aD C a);obtain ⟨b,o⟩:=eqx (aI C a);rw [q] at D i r;rw [o] at E i J;rw [q,o];obtain ⟨t,z,A⟩:=hqq3 e i r;clear e g s v x m i r K q o;by_cases V:c<=b
 · have N:decide ((b:Int)>=(c:Int))=true:=zBz oM;have Q:wrap64 ((b:Int)+1)=((b+1:Nat):Int):=(by unfold wrap64;omega);have n:=(kl t.out (a*2+1) (.int .i64 ((b+1:Nat):Int))).1;rw [A.out] at n;have y:=lhd n;clear n;go_enter func169,ntmps169;go_wp2_with fail;go_quiet (fail);go_wp2_with fail;go_end0;refine ⟨rfl,?_,ka (F:=fun j=>j=d) ((kf _ _).drewN _) (p:=⟨d,a*2+1,none⟩) (.inl rfl) _⟩;have k:inR (b) c=b+1:=(by unfold inR;rw [zBx oM]);rw [k];exact y.out
 · have N:decide ((b:Int)>=(c:Int))=false:=zBy oM;go_enter func169,ntmps169;go_wp2_with fail;go_quiet (fail);go_wp2_with fail;go_end0;refine ⟨rfl,?_,(kf _ _).drewN _⟩;have k:inR (b) c=b:=(by unfold inR;rw [zBw oM]);rw [k,z.out];exact t.out
def aAk (B gp ga E l:Nat) (vl vo vt vf) (R P:Nat) (ks C tk fr w) (q:PermAt w B gp ga vl vo vt vf R P ks C tk fr) (u:ks.Nodup) (aE:ks.length<=1000000) (aG:Bk w E 3 #[(l:Int)]) (aC:∀c,vl.ownBlock=some c->c≠E) (a9:∀a,a∈ks->aD C a<=1000000000000/\aI C a<=1000000000000):
 Calls prog 159 #[gp,.func (.func 168) #[] #[E]] w fun g w'=>g=.returned (.tuple #[])/\Keep (fun c=>vl.ownBlock=some c) w w'/\∃y,y.length=C.length/\(∀a,a∈ks->(aD y a,aI y a)=(inR (aD C a) l,aI C a))/\PermAt w' B gp ga vl vo vt vf R P ks y tk fr:=by
 obtain ⟨ag,aq,a0,_,_⟩:=aW q.orow;have au:w.cell? ⟨gp,2,none⟩=some (.slice ag ks.length aq):=(q.blk.cell 2).trans (by rw [a0];rfl);have aO:=q.blk.lt;obtain ⟨x,Z⟩:=eqx ks.length;rw [Z] at au aE;obtain ⟨ah,Q,ap,an,ai⟩:=hqq5 q Z a0 u a9;clear q Z a0 u a9;go_enter func159,ntmps159;go_wp2_with fail;go_loopw [11] (fun a1 wr=>∃(e:Nat) (b:List (Nat×Nat)),e<=x/\a1=.int .i64 (e:Int)/\b.length=C.length/\(∀a,a∈ks.take e->(aD b a,aI b a)=(inR (aD C a) l,aI C a))/\(∀a,a∈ks.drop e->(aD b a,aI b a)=(aD C a,aI C a))/\PermAt wr B gp ga vl vo vt vf R P ks b tk fr/\Keep (fun c=>vl.ownBlock=some c) w wr) (fun a1 _=>x -(intOf a1).toNat)
 case atStart=>exact ⟨0,C,zAp _,rfl,rfl,fun a k=>by simp at k,fun a _=>rfl,ah.out,kf _ _⟩
 case round=>
  obtain ⟨e,b,aR,rfl,Y,I,J,d,k⟩:=hrel;by_cases ae:e < x
  · have r:e < ks.length:=(by rw [Q.out];exact ae);obtain ⟨a,s⟩:∃a,ks[e]?=some a:=⟨_,zAa r⟩;have X:=zAd s;have W:a < b.length:=d.lt a X;have K:=d.orow;rw [ap.out] at K;obtain ⟨ax,aU,aw,_,aN⟩:=kk K oM;injection aw with e2a _ e2c;subst e2a e2c;have t:=d.lrow;obtain ⟨D,af,A,_,aM⟩:=kk t oM;rw [A] at t;have av:wr.cell? ⟨ax,e,none⟩=some (.int .i64 (a:Int)):=(ki K e oM).trans (by rw [zAf,s];rfl);have a8:wr.cell? ⟨gp,1,none⟩=some (.slice (some D) b.length af):=(d.blk.cell 1).trans (by rw [A];rfl);have aQ:=d.blk.lt;have aT:=k.size;have ac:a∈ks.drop e:=(by rw [zAx r,List.getElem_eq_getElem?_get];simp [s]);have ay:(aD b a,aI b a)=(aD C a,aI C a):=J a ac;injection ay with hCr hCp;have aJ:=fun (c:Nat) (g:Value.ownBlock vl=some c)=>(World.ownsRow.lt d.lrow c g).2;obtain ⟨a7,U⟩:=eqx b.length;rw [U] at t a8 W;have aK:=k.bk aG (fun g=>aC _ g rfl);have aS:(a:Int) < (a7:Int):=oM;obtain ⟨S,O,a6,a5,N,ak,z,am,a4⟩:=hqq9 d k t s I J U Y A;obtain ⟨a3,aj,al⟩:=hqq3 hCr hCp X;clear d k t s I J U Y A hCr hCp X ac K aJ;go_wp2_with fail;refine (aFh B D a7 af E l a b wr a6.out (by rw [z.out];exact W) aK (by rw [a3.out];exact (ai.out a al.out).1)).mono ?_;rintro g w1 ⟨rfl,ad,n⟩
    have aa:PermAt w1 B gp ga vl vo vt vf R P ks (b.set a (inR (aD b a) l,aI b a)) tk fr:=by
        have d:=S.out;have v:∀c a2 p,a2≠114->Bk wr c a2 p->c≠D:=fun c a2 p aF j g=>by subst g;obtain ⟨aL,az⟩:=fW a6.out;exact aF (aP j az).1
        refine ⟨n.bk d.blk (v _ _ _ dC d.blk),?_,aA d.orow fun c p _ j=>n.bk j (v _ _ _ dC j),n.bk d.ar (v _ _ _ dC d.ar),aA d.trow fun c p _ j=>n.bk j (v _ _ _ dC j),aA d.frow fun c p _ j=>n.bk j (v _ _ _ dC j),d.apart,fun f i=>by rw [zAt];exact d.lt f i,d.lo⟩;rw [zAt,z.out,a4.out,z.out];exact ad
    have ab:Keep (fun c=>vl.ownBlock=some c) w w1:=O.out.trans (n.mono fun c _ g=>by rw [a4.out,show c=D from g];rfl)
    have V:∀f,(aD (b.set a (inR (aD b a) l,aI b a)) f,aI (b.set a (inR (aD b a) l,aI b a)) f)=if f=a then (inR (aD b a) l,aI b a) else (aD b f,aI b f):=fun f=>by
        unfold aD aI;rw [zAb,zBm];by_cases m:a=f;subst m;rw [zBx rfl,zBx rfl,zBx (by rw [z.out];exact W)];rfl
        · rw [zBw m,zBw (fun g=>m g.symm),zAb]
    have hrel:∃(M:Nat) (o:List (Nat×Nat)),M<=x/\Value.int .i64 ((e+1:Nat):Int)=.int .i64 (M:Int)/\o.length=C.length/\(∀a,a∈ks.take M->(aD o a,aI o a)=(inR (aD C a) l,aI C a))/\(∀a,a∈ks.drop M->(aD o a,aI o a)=(aD C a,aI C a))/\PermAt w1 B gp ga vl vo vt vf R P ks o tk fr/\Keep (fun c=>vl.ownBlock=some c) w w1:=by
        refine ⟨e+1,_,by omega,rfl,by rw [zAt];exact am.out,fun f i=>?_,fun f i=>?_,aa,ab⟩
        · rw [V];by_cases m:f=a
          · subst m;rw [zBx rfl,a3.out,aj.out]
          rw [zBw m];refine N.out f ?_;rw [zAv,a5.out] at i;simp at i;rcases i with i | i;exact i;exact absurd i m
        · rw [V];have aH:f≠a:=fun g=>by subst g;have aB:ks.drop e=f::ks.drop (e+1):=(by have r:e < ks.length:=(by rw [Q.out];exact ae);rw [zAx r];have H:=a5.out;rw [zAa r] at H;injection H with H;rw [H]);have u:=(List.drop_sublist e ks).nodup an.out;rw [aB,List.nodup_cons] at u;exact u.1 i
          rw [zBw aH];exact ak.out f (List.mem_of_mem_drop (by rw [<-List.drop_drop] at i;exact i:f∈(ks.drop e).drop 1))
    have ao:=lhd hrel;clear aa ab V hrel n ad a8 av;go_wp2_with fail;go_roundw
    case rel=>exact ao.out
    case measure=>simp [intOf];omega
  · obtain rfl:e=x:=oM;obtain ⟨S,O,N⟩:=hqq3 d k I;clear d k I J;go_wp2_with fail;go_end0;refine ⟨rfl,O.out,b,Y,fun a k=>N.out a ?_,S.out⟩;rw [zAg (by rw [Q.out];exact zAs _)];exact k
def aAl (B gp ga E l:Nat) (vl vo vt vf) (R P:Nat) (ks C tk fr w) (q:PermAt w B gp ga vl vo vt vf R P ks C tk fr) (u:ks.Nodup) (aE:ks.length<=1000000) (aG:Bk w E 3 #[(l:Int)]) (aC:∀c,vl.ownBlock=some c->c≠E) (a9:∀a,a∈ks->aD C a<=1000000000000/\aI C a<=1000000000000):
 Calls prog 159 #[gp,.func (.func 169) #[] #[E]] w fun g w'=>g=.returned (.tuple #[])/\Keep (fun c=>vl.ownBlock=some c) w w'/\∃y,y.length=C.length/\(∀a,a∈ks->(aD y a,aI y a)=(aD C a,inR (aI C a) l))/\PermAt w' B gp ga vl vo vt vf R P ks y tk fr:=by
 obtain ⟨ag,aq,a0,_,_⟩:=aW q.orow;have au:w.cell? ⟨gp,2,none⟩=some (.slice ag ks.length aq):=(q.blk.cell 2).trans (by rw [a0];rfl);have aO:=q.blk.lt;obtain ⟨x,Z⟩:=eqx ks.length;rw [Z] at au aE;obtain ⟨ah,Q,ap,an,ai⟩:=hqq5 q Z a0 u a9;clear q Z a0 u a9;go_enter func159,ntmps159;go_wp2_with fail;go_loopw [11] (fun a1 wr=>∃(e:Nat) (b:List (Nat×Nat)),e<=x/\a1=.int .i64 (e:Int)/\b.length=C.length/\(∀a,a∈ks.take e->(aD b a,aI b a)=(aD C a,inR (aI C a) l))/\(∀a,a∈ks.drop e->(aD b a,aI b a)=(aD C a,aI C a))/\PermAt wr B gp ga vl vo vt vf R P ks b tk fr/\Keep (fun c=>vl.ownBlock=some c) w wr) (fun a1 _=>x -(intOf a1).toNat)
 case atStart=>exact ⟨0,C,zAp _,rfl,rfl,fun a k=>by simp at k,fun a _=>rfl,ah.out,kf _ _⟩
 case round=>
  obtain ⟨e,b,aR,rfl,Y,I,J,d,k⟩:=hrel;by_cases ae:e < x
  · have r:e < ks.length:=(by rw [Q.out];exact ae);obtain ⟨a,s⟩:∃a,ks[e]?=some a:=⟨_,zAa r⟩;have X:=zAd s;have W:a < b.length:=d.lt a X;have K:=d.orow;rw [ap.out] at K;obtain ⟨ax,aU,aw,_,aN⟩:=kk K oM;injection aw with e2a _ e2c;subst e2a e2c;have t:=d.lrow;obtain ⟨D,af,A,_,aM⟩:=kk t oM;rw [A] at t;have av:wr.cell? ⟨ax,e,none⟩=some (.int .i64 (a:Int)):=(ki K e oM).trans (by rw [zAf,s];rfl);have a8:wr.cell? ⟨gp,1,none⟩=some (.slice (some D) b.length af):=(d.blk.cell 1).trans (by rw [A];rfl);have aQ:=d.blk.lt;have aT:=k.size;have ac:a∈ks.drop e:=(by rw [zAx r,List.getElem_eq_getElem?_get];simp [s]);have ay:(aD b a,aI b a)=(aD C a,aI C a):=J a ac;injection ay with hCr hCp;have aJ:=fun (c:Nat) (g:Value.ownBlock vl=some c)=>(World.ownsRow.lt d.lrow c g).2;obtain ⟨a7,U⟩:=eqx b.length;rw [U] at t a8 W;have aK:=k.bk aG (fun g=>aC _ g rfl);have aS:(a:Int) < (a7:Int):=oM;obtain ⟨S,O,a6,a5,N,ak,z,am,a4⟩:=hqq9 d k t s I J U Y A;obtain ⟨aj,a3,al⟩:=hqq3 hCr hCp X;clear d k t s I J U Y A hCr hCp X ac K aJ;go_wp2_with fail;refine (aFn B D a7 af E l a b wr a6.out (by rw [z.out];exact W) aK (by rw [a3.out];exact (ai.out a al.out).2)).mono ?_;rintro g w1 ⟨rfl,ad,n⟩
    have aa:PermAt w1 B gp ga vl vo vt vf R P ks (b.set a (aD b a,inR (aI b a) l)) tk fr:=by
        have d:=S.out;have v:∀c a2 p,a2≠114->Bk wr c a2 p->c≠D:=fun c a2 p aF j g=>by subst g;obtain ⟨aL,az⟩:=fW a6.out;exact aF (aP j az).1
        refine ⟨n.bk d.blk (v _ _ _ dC d.blk),?_,aA d.orow fun c p _ j=>n.bk j (v _ _ _ dC j),n.bk d.ar (v _ _ _ dC d.ar),aA d.trow fun c p _ j=>n.bk j (v _ _ _ dC j),aA d.frow fun c p _ j=>n.bk j (v _ _ _ dC j),d.apart,fun f i=>by rw [zAt];exact d.lt f i,d.lo⟩;rw [zAt,z.out,a4.out,z.out];exact ad
    have ab:Keep (fun c=>vl.ownBlock=some c) w w1:=O.out.trans (n.mono fun c _ g=>by rw [a4.out,show c=D from g];rfl)
    have V:∀f,(aD (b.set a (aD b a,inR (aI b a) l)) f,aI (b.set a (aD b a,inR (aI b a) l)) f)=if f=a then (aD b a,inR (aI b a) l) else (aD b f,aI b f):=fun f=>by
        unfold aD aI;rw [zAb,zBm];by_cases m:a=f;subst m;rw [zBx rfl,zBx rfl,zBx (by rw [z.out];exact W)];rfl
        · rw [zBw m,zBw (fun g=>m g.symm),zAb]
    have hrel:∃(M:Nat) (o:List (Nat×Nat)),M<=x/\Value.int .i64 ((e+1:Nat):Int)=.int .i64 (M:Int)/\o.length=C.length/\(∀a,a∈ks.take M->(aD o a,aI o a)=(aD C a,inR (aI C a) l))/\(∀a,a∈ks.drop M->(aD o a,aI o a)=(aD C a,aI C a))/\PermAt w1 B gp ga vl vo vt vf R P ks o tk fr/\Keep (fun c=>vl.ownBlock=some c) w w1:=by
        refine ⟨e+1,_,by omega,rfl,by rw [zAt];exact am.out,fun f i=>?_,fun f i=>?_,aa,ab⟩
        · rw [V];by_cases m:f=a
          · subst m;rw [zBx rfl,aj.out,a3.out]
          rw [zBw m];refine N.out f ?_;rw [zAv,a5.out] at i;simp at i;rcases i with i | i;exact i;exact absurd i m
        · rw [V];have aH:f≠a:=fun g=>by subst g;have aB:ks.drop e=f::ks.drop (e+1):=(by have r:e < ks.length:=(by rw [Q.out];exact ae);rw [zAx r];have H:=a5.out;rw [zAa r] at H;injection H with H;rw [H]);have u:=(List.drop_sublist e ks).nodup an.out;rw [aB,List.nodup_cons] at u;exact u.1 i
          rw [zBw aH];exact ak.out f (List.mem_of_mem_drop (by rw [<-List.drop_drop] at i;exact i:f∈(ks.drop e).drop 1))
    have ao:=lhd hrel;clear aa ab V hrel n ad a8 av;go_wp2_with fail;go_roundw
    case rel=>exact ao.out
    case measure=>simp [intOf];omega
  · obtain rfl:e=x:=oM;obtain ⟨S,O,N⟩:=hqq3 d k I;clear d k I J;go_wp2_with fail;go_end0;refine ⟨rfl,O.out,b,Y,fun a k=>N.out a ?_,S.out⟩;rw [zAg (by rw [Q.out];exact zAs _)];exact k
structure PermX (w:World) (F:Nat->Prop) (gp ga:Nat) (vl vo vt vf:Value) (R P:Nat) (ks:List Nat) (C:List (Nat×Nat)) (tk:List Bool) (fr:List Nat):Prop where
 at_:PermAt w 0 gp ga vl vo vt vf R P ks C tk fr
 fp:F gp
 fa:F ga
 fl:OwnF F vl
 fo:OwnF F vo
 ft:OwnF F vt
 ff:OwnF F vf
 nd:ks.Nodup
 tkl:tk.length=C.length
 tkk:∀k,tk[k]?=some true↔k∈ks
 frn:fr.Nodup
 frk:∀k,k∈fr↔tk[k]?=some false
 sz:C.length<=1000
def PermE (w:World) (F:Nat->Prop) (gp R P:Nat) (pr:List (Nat×Nat)):Prop:=
 (∃ga vl vo vt vf ks C tk fr,PermX w F gp ga vl vo vt vf R P ks C tk fr/\pr=ks.map fun a=>(aD C a,aI C a))/\pr.Pairwise (fun c d=>c.1 < d.1)/\∀b∈pr,b.1 < R/\b.2 < P
def PermAt.vis2 {w w' B gp ga vl vo vt vf R P ks C tk fr} (a:PermAt w B gp ga vl vo vt vf R P ks C tk fr) (b:Vis w w'):PermAt w' B gp ga vl vo vt vf R P ks C tk fr:=
 ⟨b.bk a.blk dC dC,b.own a.lrow dC dC,b.own a.orow dC dC,b.bk a.ar dC dC,b.own a.trow dC dC,b.own a.frow dC dC,a.apart,a.lt,a.lo⟩
section
variable {w w' : World} {F G : Nat -> Prop} {gp R P : Nat} {pr : List (Nat × Nat)}
def PermE.vis (c:PermE w F gp R P pr) (f:Vis w w'):PermE w' F gp R P pr:=by
 obtain ⟨⟨ga,vl,vo,vt,vf,ks,C,tk,fr,a,b⟩,d,e⟩:=c;exact ⟨⟨ga,vl,vo,vt,vf,ks,C,tk,fr,⟨a.at_.vis2 f,a.fp,a.fa,a.fl,a.fo,a.ft,a.ff,a.nd,a.tkl,a.tkk,a.frn,a.frk,a.sz⟩,b⟩,d,e⟩
def PermE.mono (g:PermE w F gp R P pr) (e:∀a,a < w.heap.size->F a->G a):PermE w G gp R P pr:=by
 obtain ⟨⟨ga,vl,vo,vt,vf,ks,C,tk,fr,b,f⟩,i,j⟩:=g;have d:=b.at_;exact ⟨⟨ga,vl,vo,vt,vf,ks,C,tk,fr,⟨d,e _ d.blk.lt b.fp,e _ d.ar.lt b.fa,fun a c=>e a (d.lrow.lt a c).2 (b.fl a c),fun a c=>e a (d.orow.lt a c).2 (b.fo a c),fun a c=>e a (d.trow.lt a c).2 (b.ft a c),fun a c=>e a (d.frow.lt a c).2 (b.ff a c),b.nd,b.tkl,b.tkk,b.frn,b.frk,b.sz⟩,f⟩,i,j⟩
def PermE.keep (k:PermE w F gp R P pr) (g:Keep G w w') (f:∀b,F b->¬G b):PermE w' F gp R P pr:=by
 obtain ⟨⟨ga,vl,vo,vt,vf,ks,C,tk,fr,a,j⟩,l,m⟩:=k;have c:=a.at_;refine ⟨⟨ga,vl,vo,vt,vf,ks,C,tk,fr,⟨⟨g.bk c.blk (f _ a.fp),aA c.lrow fun b i d e=>g.bk e (f _ (a.fl b d)),aA c.orow fun b i d e=>g.bk e (f _ (a.fo b d)),g.bk c.ar (f _ a.fa),aA c.trow fun b i d e=>g.bk e (f _ (a.ft b d)),aA c.frow fun b i d e=>g.bk e (f _ (a.ff b d)),c.apart,c.lt,c.lo⟩,a.fp,a.fa,a.fl,a.fo,a.ft,a.ff,a.nd,a.tkl,a.tkk,a.frn,a.frk,a.sz⟩,j⟩,l,m⟩
def PermE.below (b:PermE w F gp R P pr) (c:Below w.heap.size w w'):PermE w' F gp R P pr:=b.keep (G:=fun _=>False) (kF c) fun _ _ a=>a
end
def PermAt.set_rows {w} {B gp ga:Nat} {vl vo vt vf} {R P:Nat} {ks C tk fr} (a:PermAt w B gp ga vl vo vt vf R P ks C tk fr) (e:Nat):PermAt (w.setCell ⟨gp,3,none⟩ (.int .i64 (e:Int))) B gp ga vl vo vt vf e P ks C tk fr:=by
 have d:Keep (fun c=>c=gp) w (w.setCell ⟨gp,3,none⟩ (.int .i64 (e:Int))):=ka (F:=fun c=>c=gp) (kf _ _) (p:=⟨gp,3,none⟩) (.inl rfl) _;exact ⟨a.blk.set 3 _,aA a.lrow fun c f _ b=>d.bk b (Bk.ne b a.blk dC),aA a.orow fun c f _ b=>d.bk b (Bk.ne b a.blk dC),d.bk a.ar (Bk.ne a.ar a.blk dC),aA a.trow fun c f _ b=>d.bk b (Bk.ne b a.blk dC),aA a.frow fun c f _ b=>d.bk b (Bk.ne b a.blk dC),a.apart,a.lt,a.lo⟩
def PermAt.set_places {w} {B gp ga:Nat} {vl vo vt vf} {R P:Nat} {ks C tk fr} (a:PermAt w B gp ga vl vo vt vf R P ks C tk fr) (e:Nat):PermAt (w.setCell ⟨gp,4,none⟩ (.int .i64 (e:Int))) B gp ga vl vo vt vf R e ks C tk fr:=by
 have d:Keep (fun c=>c=gp) w (w.setCell ⟨gp,4,none⟩ (.int .i64 (e:Int))):=ka (F:=fun c=>c=gp) (kf _ _) (p:=⟨gp,4,none⟩) (.inl rfl) _;exact ⟨a.blk.set 4 _,aA a.lrow fun c f _ b=>d.bk b (Bk.ne b a.blk dC),aA a.orow fun c f _ b=>d.bk b (Bk.ne b a.blk dC),d.bk a.ar (Bk.ne a.ar a.blk dC),aA a.trow fun c f _ b=>d.bk b (Bk.ne b a.blk dC),aA a.frow fun c f _ b=>d.bk b (Bk.ne b a.blk dC),a.apart,a.lt,a.lo⟩
def aBa {ks:List Nat} {C b:List (Nat×Nat)} {f:Nat×Nat->Nat×Nat} (c:∀a,a∈ks->(aD b a,aI b a)=f (aD C a,aI C a)):(ks.map fun a=>(aD b a,aI b a))=(ks.map fun a=>(aD C a,aI C a)).map f:=by
 rw [zCh];exact List.map_congr_left fun a d=>c a d
def aLg {a b c} (d:a < b):inR a c < inR b c:=by
 unfold inR;split <;> split <;> omega
def iK:∀ {n:Nat} {ks:List Nat},ks.Nodup->(∀a∈ks,a < n)->ks.length<=n
 | 0,ks,_,hl=>by
   cases ks with
   | nil=>exact zAs _
   | cons a ks=>exact absurd (hl a (by simp)) oM
 | n+1,ks,h,hl=>by
   have c:=iK (n:=n) (h.erase n) fun a e=>by have d:=(h.mem_erase_iff).1 e;have:=hl a d.2;omega
   by_cases b:n∈ks;have:=List.length_erase_of_mem b;omega;rw [List.erase_of_not_mem b] at c;omega
def aAc (F gp R P b pr w) (X:PermE w F gp R P pr) (ae:b<=R) (ab:R<=100000) (aa:P<=100000):
 Calls prog 107 #[gp,(b:Int)] w fun g w'=>g=.returned (.int .i64 0)/\PermE w' F gp (R+1) P (pr.map fun d=>(inR d.1 b,d.2))/\Keep F w w':=by
 obtain ⟨⟨ga,vl,vo,vt,vf,ks,C,tk,fr,i,rfl⟩,K,A⟩:=X;have l:=i.at_;have W:w.cell? ⟨gp,3,none⟩=some (.int .i64 (R:Int)):=(l.blk.cell 3).trans rfl;have a5:=l.blk.frozen 3;have Z:=l.blk.lt;have ah:¬((b:Int) > (R:Int)):=oM;have ag:¬R < b:=oM;have af:decide ((b:Int) < 0)=false:=by simp
 have a4:wrap64 ((R:Int)+1)=((R+1:Nat):Int):=by rw [dN oM oM];rfl
 obtain ⟨a,V,o⟩:=hqq3 i K A;clear i l K A;go_enter func107,ntmps107;go_wp2_with fail;go_quiet (fail)
 rename_i nq
 have a2:∀N,((w.alloc (.cells #[(b:Int)] 3)).drewN N).cell? ⟨gp,3,none⟩=some (.int .i64 (R:Int)):=fun N=>(World.cell?_alloc_lt w _ ⟨gp,3,none⟩ Z).trans W;have ad:∀(r:Fn) (first q:Array Value) (w:World),(Instr.makeFunc r first q).run prog w=.ok (.func r first q) w:=fun _ _ _ _=>rfl;go_wp2_with fail;have z:=a.out.at_.below (bR.alloc nL (.cells #[(b:Int)] 3));have v:PermAt ((w.alloc (.cells #[(b:Int)] 3)).drewN nq) 0 gp ga vl vo vt vf R P ks C tk fr:=z.below (kn bR _);have x:=v.set_rows (R+1);have E:Bk ((w.alloc (.cells #[(b:Int)] 3)).drewN nq) w.heap.size 3 #[(b:Int)]:=ke w _ _;have H:=E.far (p:=⟨gp,3,none⟩) (fun g=>by have a3:w.heap.size=gp:=g;omega) (.int .i64 ((R+1:Nat):Int));have M:∀e,vl.ownBlock=some e->e≠w.heap.size:=fun e m g=>by have:=(a.out.at_.lrow.lt e m).2;omega
 have t:∀c,c∈ks->aD C c<=1000000000000/\aI C c<=1000000000000:=fun c a0=>by have:=o.out (aD C c,aI C c) (zAy.2 ⟨c,a0,rfl⟩);have a6:aD C c < R:=this.1;have a7:aI C c < P:=this.2;omega
 have ac:=iK a.out.nd a.out.at_.lt;refine (aAk 0 gp ga w.heap.size b vl vo vt vf (R+1) P ks C tk fr _ x a.out.nd (by have:=a.out.sz;omega) H M t).mono ?_;rintro g O ⟨rfl,I,Q,n,D,y⟩;have J:Keep F w O:=(ka (F:=F) (((kf _ _).alloc _).drewN _) (p:=⟨gp,3,none⟩) (.inl a.out.fp) _).trans (I.mono fun e _ m=>a.out.fl e m);have u:PermE O F gp (R+1) P ((ks.map fun c=>(aD C c,aI C c)).map fun d=>(inR d.1 b,d.2)):=by
  refine ⟨⟨ga,vl,vo,vt,vf,ks,Q,tk,fr,⟨y,a.out.fp,a.out.fa,a.out.fl,a.out.fo,a.out.ft,a.out.ff,a.out.nd,by rw [n];exact a.out.tkl,a.out.tkk,a.out.frn,a.out.frk,by rw [n];exact a.out.sz⟩,(aBa (f:=fun d=>(inR d.1 b,d.2)) D).symm⟩,?_,fun d i=>?_⟩;exact List.pairwise_map.2 (V.out.imp fun {k e} Y=>aLg Y)
  · obtain ⟨j,a1,rfl⟩:=zAy.1 i;have:=o.out j a1;have s:∀k,inR k b<=k+1:=fun k=>by unfold inR;split <;> omega
    have a9:=s j.1;have a8:=s j.2;constructor;show inR j.1 b < _;omega;show j.2 < _;omega
 obtain ⟨S,U⟩:=hqq2 u J;clear J u y D I n t M H E x v z;go_wp2_with fail;go_ret;exact ⟨rfl,S.out,U.out⟩
def aAe (F gp R P b pr w) (X:PermE w F gp R P pr) (ae:b<=P) (ab:R<=100000) (aa:P<=100000):
 Calls prog 108 #[gp,(b:Int)] w fun g w'=>g=.returned (.int .i64 0)/\PermE w' F gp R (P+1) (pr.map fun d=>(d.1,inR d.2 b))/\Keep F w w':=by
 obtain ⟨⟨ga,vl,vo,vt,vf,ks,C,tk,fr,i,rfl⟩,K,A⟩:=X;have l:=i.at_;have W:w.cell? ⟨gp,4,none⟩=some (.int .i64 (P:Int)):=(l.blk.cell 4).trans rfl;have a5:=l.blk.frozen 4;have Z:=l.blk.lt;have ah:¬((b:Int) > (P:Int)):=oM;have ag:¬P < b:=oM;have af:decide ((b:Int) < 0)=false:=by simp
 have a4:wrap64 ((P:Int)+1)=((P+1:Nat):Int):=by rw [dN oM oM];rfl
 obtain ⟨a,V,o⟩:=hqq3 i K A;clear i l K A;go_enter func108,ntmps108;go_wp2_with fail;go_quiet (fail)
 rename_i nq
 have a2:∀N,((w.alloc (.cells #[(b:Int)] 3)).drewN N).cell? ⟨gp,4,none⟩=some (.int .i64 (P:Int)):=fun N=>(World.cell?_alloc_lt w _ ⟨gp,4,none⟩ Z).trans W;have ad:∀(r:Fn) (first q:Array Value) (w:World),(Instr.makeFunc r first q).run prog w=.ok (.func r first q) w:=fun _ _ _ _=>rfl;go_wp2_with fail;have z:=a.out.at_.below (bR.alloc nL (.cells #[(b:Int)] 3));have v:PermAt ((w.alloc (.cells #[(b:Int)] 3)).drewN nq) 0 gp ga vl vo vt vf R P ks C tk fr:=z.below (kn bR _);have x:=v.set_places (P+1);have E:Bk ((w.alloc (.cells #[(b:Int)] 3)).drewN nq) w.heap.size 3 #[(b:Int)]:=ke w _ _;have H:=E.far (p:=⟨gp,4,none⟩) (fun g=>by have a3:w.heap.size=gp:=g;omega) (.int .i64 ((P+1:Nat):Int));have M:∀e,vl.ownBlock=some e->e≠w.heap.size:=fun e m g=>by have:=(a.out.at_.lrow.lt e m).2;omega
 have t:∀c,c∈ks->aD C c<=1000000000000/\aI C c<=1000000000000:=fun c a0=>by have:=o.out (aD C c,aI C c) (zAy.2 ⟨c,a0,rfl⟩);have a6:aD C c < R:=this.1;have a7:aI C c < P:=this.2;omega
 have ac:=iK a.out.nd a.out.at_.lt;refine (aAl 0 gp ga w.heap.size b vl vo vt vf R (P+1) ks C tk fr _ x a.out.nd (by have:=a.out.sz;omega) H M t).mono ?_;rintro g O ⟨rfl,I,Q,n,D,y⟩;have J:Keep F w O:=(ka (F:=F) (((kf _ _).alloc _).drewN _) (p:=⟨gp,4,none⟩) (.inl a.out.fp) _).trans (I.mono fun e _ m=>a.out.fl e m);have u:PermE O F gp R (P+1) ((ks.map fun c=>(aD C c,aI C c)).map fun d=>(d.1,inR d.2 b)):=by
  refine ⟨⟨ga,vl,vo,vt,vf,ks,Q,tk,fr,⟨y,a.out.fp,a.out.fa,a.out.fl,a.out.fo,a.out.ft,a.out.ff,a.out.nd,by rw [n];exact a.out.tkl,a.out.tkk,a.out.frn,a.out.frk,by rw [n];exact a.out.sz⟩,(aBa (f:=fun d=>(d.1,inR d.2 b)) D).symm⟩,?_,fun d i=>?_⟩;exact List.pairwise_map.2 (V.out.imp fun {k e} Y=>Y)
  · obtain ⟨j,a1,rfl⟩:=zAy.1 i;have:=o.out j a1;have s:∀k,inR k b<=k+1:=fun k=>by unfold inR;split <;> omega
    have a9:=s j.1;have a8:=s j.2;constructor;show j.1 < _;omega;show inR j.2 b < _;omega
 obtain ⟨S,U⟩:=hqq2 u J;clear J u y D I n t M H E x v z;go_wp2_with fail;go_ret;exact ⟨rfl,S.out,U.out⟩
end
section
open Go.RowKit Go.Shelf
def jF (f:Nat):∀(d:List Value) (b:Nat) (w:World) (g:TypeId) (c:Array Value),Bk w f g c->∃e:Array Value,Bk (w.setCells f b d) f g e/\e.size=c.size/\∀a,a < c.size->e[a]?=if b<=a/\a < b+d.length then d[a - b]? else c[a]?
 | [],b,w,g,c,i=>⟨c,i,rfl,fun a j=>by rw [zBw (by simp)]⟩
 | v::d,b,w,g,c,i=>by
   obtain ⟨e,m,n,o⟩:=jF f d (b+1) (w.setCell ⟨f,b,none⟩ v) g _ (i.set b v);refine ⟨e,m,by rw [n];simp,fun a j=>?_⟩;rw [o a (by simpa using j)];by_cases k:b+1<=a/\a < b+1+d.length;rw [zBx k,zBx (by simp;omega),show a - b=(a -(b+1))+1 by omega];rfl
   · rw [zBw k,zCd];by_cases l:b=a;subst l;rw [zBx rfl,zBx j,zBx (by simp),Nat.sub_self];rfl
     · rw [zBw l,zBw (by simp;omega)]
def lL (a:Nat):∀(e:List Value) (b:Nat) (w0 w:World),Keep (fun c=>c=a) w0 w->Keep (fun c=>c=a) w0 (w.setCells a b e)
 | [],_,_,_,d=>d
 | v::e,b,w0,w,d=>lL a e (b+1) w0 (w.setCell ⟨a,b,none⟩ v) (d.setCell (p:=⟨a,b,none⟩) (.inl rfl) v)
def iG {F:Nat->Prop} (a:Nat):∀(d:List Value) (b:Nat) (w0 w:World),w0.heap.size<=a->Keep F w0 w->Keep F w0 (w.setCells a b d)
 | [],_,_,_,_,c=>c
 | v::d,b,w0,w,hg,c=>iG a d (b+1) w0 (w.setCell ⟨a,b,none⟩ v) hg (c.setCell (p:=⟨a,b,none⟩) (.inr hg) v)
def Bk.shape {w b d a} (c:Bk w b d a):w.shape? b=some (d,a.size):=by
 unfold Bk at c;unfold World.shape?;rw [c]
def iD {c:Array Value} {d:List Value} {b:Nat} (g:d.length=b) (i:b<=c.size) (f:∀a,a < b->c[a]?=d[a]?):c.toList.take b=d:=by
 apply List.ext_getElem?;intro a;by_cases e:a < b;rw [List.getElem?_take_of_lt e,Array.getElem?_toList];exact f a e
 · rw [List.getElem?_take_eq_none oM,zBg oM]
def tT {w B f c d g j} (k:w.ownsRow B g 1 (.slice (some f) c d) c j) (t:0 < c):∃b:Array Value,Bk w f g b/\b.size=d/\c<=d/\d<=maxLen/\B<=f/\∀e,e < c->b[e]?=j[e]?:=by
 rcases k.2 with ⟨a,s⟩|⟨r,q,b,a,l,m,p,o,u,i⟩
 · cases a
 · injection a with a _ h3;injection a with a;injection a with a _;subst a h3;refine ⟨b,m,by omega,p,o,l,fun e n=>?_⟩;rw [zBl] at i;rw [<-i,List.getElem?_take_of_lt n,Array.getElem?_toList]
def tE (B:Nat) (e:Value) (a:Nat) (i:List Value) (w:World) (g:Ending) (w':World):Prop:=
 ∃b c,g=.returned (.slice b (a+1) c)/\w'.ownsRow B 3 1 (.slice b (a+1) c) (a+1) i/\Keep (fun f=>e.ownBlock=some f) w w'/\((Value.slice b (a+1) c).ownBlock=e.ownBlock∨∃d,(Value.slice b (a+1) c).ownBlock=some d/\w.heap.size<=d)
def aAh (B r c e b ks m i w) (E:w.ownsRow B 3 1 (.slice r c e) c (ks.map sv)) (y:Bk w m 3 #[sv i]) (ac:∀t,(Value.slice r c e).ownBlock=some t->t≠m) (a2:B<=w.heap.size) (V:b < c) (ai:c<=1000000):
 Calls prog 87 #[.slice r c e,(b:Int),.slice (some m) 1 1] w (tE B (.slice r c e) c ((aV ks b i).map sv) w):=by
 have k:ks.length=c:=by have:=E.1;simpa using this
 obtain ⟨f,ak,A,_,ah⟩:=kk E oM;injection A with A _ e3;subst A e3;obtain ⟨N,q,a9,aa,X,a3,S⟩:=tT E oM;have ab:m≠f:=fun p=>ac f rfl p.symm;have U:∀a d,(ks.map sv)[a]?=some d->w.cell? ⟨f,0+a,none⟩=some d:=fun a d j=>by
  have g:a < c:=by have:=(zAc.1 j).1;simpa [k] using this
  rw [zBi,q.cell,S a g,j]
 have Z:∀a d, [sv i][a]?=some d->w.cell? ⟨m,0+a,none⟩=some d:=fun a d j=>by
  rw [zBi,y.cell,<-j];rcases a with _ | a;rfl
  · simp at j
 have O:∀d∈ks.map sv,d.oneCell'=true:=fun d j=>by obtain ⟨af,_,rfl⟩:=zAy.1 j;rfl
 have Q:∀d∈ [sv i],d.oneCell'=true:=fun d j=>by rw [List.mem_singleton] at j;subst j;rfl
 have W:∀a,a < c+1->((aV ks b i).map sv)[a]?=if a < b then (ks.map sv)[a]? else if a=b then some (sv i) else (ks.map sv)[a - 1]?:=fun a g=>by rw [nX,jI _ _ (by rw [zBc];omega)]
 have x:((aV ks b i).map sv).length=c+1:=by rw [zBc,gO _ _ oM,k]
 by_cases Y:c+1<=e
 · have a8:∀a,a < c+1->w.cell? ⟨f,0+a,none⟩=some (N.getD a (.bool false)):=fun a g=>by rw [zBi,q.cell,zAq oM];congr 1;rw [zAm,zAq oM];rfl
   have D:=Any2.slices_Insert_int_shift shIns f 0 c e b m 0 1 1 (ks.map sv) [sv i] w V dC Y (by unfold maxLen at X;omega) ab (by simpa using k) rfl U (fun a g=>by rw [a8 a g];rfl) (fun a g=>by rw [zBi];exact q.frozen a) Z O Q 3 3 1 N.size (y.shape) (q.shape) oM (y.frozen 0) (y.frozen 1);refine D.mono ?_;rintro p w' ⟨rfl,rfl⟩;obtain ⟨a1,H,ad,I⟩:=jF f ((ks.map sv).drop b) (0+(b+1)) w.drew _ _ q.drew;obtain ⟨z,K,ae,M⟩:=jF f [sv i] (0+b) _ _ _ H;refine ⟨_,e,rfl,⟨by rw [x,zBl],.inr ⟨f,e,z,rfl,a3,K,Y,X,by omega,?_⟩⟩,(lL f _ _ w _ (lL f _ _ w _ (kf _ w).drew)).mono fun t _ p=>by rw [show t=f from p];rfl,.inl rfl⟩;rw [zBl];refine iD x oM fun a g=>?_;rw [W a g,M a oM,I a oM];simp only [zCg,List.length_nil,zAw,zBc,k];by_cases l:a < b
   · rw [zBw oM,zBw oM,zBx l,S a oM]
   · by_cases o:a=b
     · subst o;rw [zBx oM,zBw oM,zBx rfl];simp
     rw [zBw oM,zBx oM,zBw l,zBw o,zBt];congr 1;omega
 · have D:=Any2.slices_Insert_int_grow shIns f 0 c e b m 0 1 1 (ks.map sv) [sv i] w V dC aa oM oM (by simpa using k) rfl U Z O Q;refine D.mono ?_;rintro p w' ⟨rfl,rfl⟩;obtain ⟨n,v⟩:=eqx (grownCap w (c+1) e 3);have a5:c+1<=n:=(by rw [<-v];exact grownCap_ge _ _ _ _);have a6:n<=maxLen:=(by rw [<-v];exact grownCap_le_maxLen _ _ _ _ (by unfold maxLen;omega));show tE _ _ _ _ _ (.returned (.slice _ _ (grownCap w (c+1) e 3))) _;rw [v];have a0:∀J,(Builtin.zeroCells (Value.int .i64 0).cells J).size=J:=fun J=>by simp [Builtin.zeroCells,Value.cells]
   obtain ⟨s,u⟩:=eqx (((ks.map sv).take b).toArray++Builtin.zeroCells (Value.int .i64 0).cells (c+1 - b)++Builtin.zeroCells (Value.int .i64 0).cells (n -(c+1)));have ag:s.size=n:=(by rw [<-u,Array.size_append,Array.size_append,a0,a0];simp [k];omega);have a4:∀a,a < b->s[a]?=(ks.map sv)[a]?:=fun a g=>by have aj:(((ks.map sv).take b).toArray).size=b:=(by simp [k];omega);rw [<-u,Array.append_assoc,Array.getElem?_append_left oM,zCw,List.getElem?_take_of_lt g]
   have a7:Bk (w.alloc (.cells s 3)) w.heap.size 3 s:=ke _ _ _;have a9:=u;show tE _ _ _ _ _ _ ((((w.alloc (.cells (((ks.map sv).take b).toArray++Builtin.zeroCells (Value.int .i64 0).cells (c+1 - b)++Builtin.zeroCells (Value.int .i64 0).cells (grownCap w (c+1) e 3 -(c+1))) 3)).drew.setCells w.heap.size b [sv i]).drew).setCells w.heap.size (b+1) ((ks.map sv).drop b));rw [v,u];obtain ⟨a1,H,ad,I⟩:=jF w.heap.size [sv i] b _ _ _ a7.drew;obtain ⟨z,K,ae,M⟩:=jF w.heap.size ((ks.map sv).drop b) (b+1) _ _ _ H.drew;refine ⟨_,n,rfl,⟨by rw [x,zBl],.inr ⟨w.heap.size,n,z,rfl,a2,K,a5,a6,by omega,?_⟩⟩,iG _ _ _ w _ nL (iG _ _ _ w _ nL ((kf _ w).alloc _).drew).drew,.inr ⟨_,rfl,zAs _⟩⟩;rw [zBl];refine iD x oM fun a g=>?_;rw [W a g,M a oM,I a oM];simp only [zCg,List.length_nil,zAw,zBc,k];by_cases l:a < b
   · rw [zBw oM,zBw oM,zBx l,a4 a l]
   · by_cases o:a=b
     · subst o;rw [zBw oM,zBx oM,zBw l,zBx rfl];simp
     rw [zBx oM,zBw l,zBw o,zBt];congr 1;omega
def aAi (B e a f b ks c d w) (l:w.ownsRow B 3 1 (.slice e a f) a (ks.map sv)) (m:Bk w c 3 #[sv d]) (A:∀j,(Value.slice e a f).ownBlock=some j->j≠c) (o:B<=w.heap.size) (D:b<=a) (p:a<=1000000):
 Calls prog 87 #[.slice e a f,(b:Int),.slice (some c) 1 1] w (tE B (.slice e a f) a ((aV ks b d).map sv) w):=by
 by_cases v:b < a;exact aAh B e a f b ks c d w l m A o v p
 · obtain rfl:b=a:=oM;have E:ks.length=b:=(by have:=l.1;simpa using this);have z:Rd w w.heap.size 1 (some ⟨c,0,none⟩) 1 [sv d]:=by
    refine ⟨rfl,fun _=>⟨c,0,rfl,m.lt,fun r H k=>?_⟩⟩;rcases r with _ | r;injection k with k;subst k;exact (m.cell 0).trans rfl
    · simp at k
   refine (qC B e b f (ks.map sv) (some ⟨c,0,none⟩) 1 d w l z o p).mono ?_;rintro n w' ⟨I,rfl,q,g,i⟩;have u:(aV ks b d).map sv=ks.map sv++ [sv d]:=(by unfold aV;rw [zAg oM,List.drop_of_length_le oM,zAz];rfl);obtain ⟨s,t,rfl,_⟩:=aW q;refine ⟨s,t,rfl,by rw [u];exact q,⟨g.os,g.tape,g.output,g.size,fun j x y=>g.block j x fun n=>y n.symm⟩,?_⟩;rcases i with i | i;exact .inl i;exact .inr ⟨_,i,zAs _⟩
def pS:∀ {l m:List Nat},l.Nodup->(∀a∈l,a∈m)->l.length<=m.length
 | [],m,_,_=>zAp _
 | a::l,m,hn,hs=>by
   obtain ⟨f,g⟩:=List.nodup_cons.1 hn;have b:=hs a (by simp);have:=pS (l:=l) (m:=m.erase a) g fun d c=>by have i:d≠a:=fun e=>f (by rw [<-e];exact c);exact (List.mem_erase_of_ne i).2 (hs d (by simp [c]))
   have j:=List.length_erase_of_mem b;have k:=List.length_pos_of_mem b;rw [zCg];omega
def aEK {a:List Nat} {f:Nat->Nat} (k:a.Pairwise (fun g i=>f g < f i)) (e:Nat) (p:∀b∈a,f b≠f e):(aV a (a.countP fun b=>decide (f b < f e)) e).Pairwise (fun g i=>f g < f i):=by
 unfold aV;have m:=fun (d b:Nat) (j:a[d]?=some b)=>aEY k (f e) d b j;obtain ⟨c,o⟩:∃c,(a.countP fun b=>decide (f b < f e))=c:=⟨_,rfl⟩;rw [o] at m⊢;rw [List.pairwise_append];refine ⟨k.sublist (List.take_sublist c a),List.pairwise_cons.2 ⟨fun b l=>?_,k.sublist (List.drop_sublist c a)⟩,fun b l r n=>?_⟩;obtain ⟨d,j,rfl⟩:=List.getElem_of_mem l;rw [zAw] at j;rw [List.getElem_drop];have s:=m (c+d) a[c+d] (zAa oM);have t:=p a[c+d] (zBj oM);omega;have q:f b < f e:=(by obtain ⟨d,j,rfl⟩:=List.getElem_of_mem l;rw [zAj] at j;rw [List.getElem_take];exact (m d a[d] (zAa oM)).2 oM);rcases List.mem_cons.1 n with rfl | n;exact q;have:=List.pairwise_append.1 (show (a.take c++a.drop c).Pairwise (fun g i=>f g < f i) by rw [zAu];exact k);exact this.2.2 b l r n
def aDa (tk a b):(tk++ [true])[a]?=some b↔tk[a]?=some b∨(a=tk.length/\b=true):=by
 by_cases e:a < tk.length;rw [zAn e];constructor;exact .inl;rintro (d |⟨d,_⟩);exact d;omega
 · rw [zAo oM,zBg (show tk.length<=a by omega)];by_cases c:a=tk.length
   · subst c;cases b <;> simp
   · rw [zBg (by simp;omega)];simp [c]
def AF (ga:Nat) (vt vf:Value) (a:Nat):Prop:=a=ga∨vt.ownBlock=some a∨vf.ownBlock=some a
section
variable {w : World} {F : Nat -> Prop} {gp ga : Nat} {vl vo vt vf : Value} {R P : Nat} {ks : List Nat} {C : List (Nat × Nat)} {tk : List Bool} {fr : List Nat}
def PermX.arena (k:PermX w F gp ga vl vo vt vf R P ks C tk fr):ArenaE w (AF ga vt vf) ga tk fr:=by
 have a:=k.at_;obtain ⟨d,g,i,_⟩:=aW a.trow;obtain ⟨c,f,j,_⟩:=aW a.frow;subst i j;exact ⟨.inl rfl,d,g,c,f,a.ar,bN a.trow (zAp _),bN a.frow (zAp _),fun e b=>.inr (.inl b),fun e b=>.inr (.inr b)⟩
def PermX.af (c:PermX w F gp ga vl vo vt vf R P ks C tk fr) {b} (a:AF ga vt vf b):F b:=by
 rcases a with rfl | a | a;exact c.fa;exact c.ft b a;exact c.ff b a
def PermX.af_lt (c:PermX w F gp ga vl vo vt vf R P ks C tk fr) {b} (a:AF ga vt vf b):b < w.heap.size:=by
 rcases a with rfl | a | a;exact c.at_.ar.lt;exact (c.at_.trow.lt b a).2;exact (c.at_.frow.lt b a).2
def PermX.gp_af (e:PermX w F gp ga vl vo vt vf R P ks C tk fr):¬AF ga vt vf gp:=by
 have a:=e.at_;rintro (b | b | b);exact Bk.ne a.blk a.ar dC b;obtain ⟨d,c⟩:=fE a.trow b;exact absurd (aP c a.blk).1 dC;obtain ⟨d,c⟩:=fE a.frow b;exact absurd (aP c a.blk).1 dC
def PermX.pair_af (i:PermX w F gp ga vl vo vt vf R P ks C tk fr) {e f} (c:Bk w e 114 f):¬AF ga vt vf e:=by
 have b:=i.at_;rintro (a | a | a);exact Bk.ne c b.ar dC a;obtain ⟨g,d⟩:=fE b.trow a;exact absurd (aP d c).1 dC;obtain ⟨g,d⟩:=fE b.frow a;exact absurd (aP d c).1 dC
def PermX.ord_af (g:PermX w F gp ga vl vo vt vf R P ks C tk fr) {e} (c:vo.ownBlock=some e):¬AF ga vt vf e:=by
 have b:=g.at_;obtain ⟨j,f⟩:=fE b.orow c;rintro (a | a | a);exact Bk.ne f b.ar dC a;obtain ⟨k,i⟩:=fE b.trow a;exact absurd (aP f i).1 dC
 · rcases b.apart with d | d
   · rw [d] at c;cases c
   exact d (c.trans a.symm)
end
def aDm (ga b:Nat) (vt vf:Value) (ks:List Nat) (w:World) (d:Ending) (w':World):Prop:=
 ∃(c:Nat) (tk:List Bool) (fr:List Nat),d=.returned (.tuple #[(c:Int),o0])/\c∉ks/\ArenaE w' (Gw (AF ga vt vf) w.heap.size) ga tk fr/\((c < b/\tk.length=b)∨(c=b/\tk.length=b+1/\b<=ks.length))/\(∀a,tk[a]?=some true↔a∈ks∨a=c)/\fr.Nodup/\(∀a,a∈fr↔tk[a]?=some false)/\Keep (AF ga vt vf) w w'
def aBS (F gp ga R P vl vo vt vf ks C tk fr w) (b:PermX w F gp ga vl vo vt vf R P ks C tk fr):
 Calls prog 86 #[ga] w (aDm ga C.length vt vf ks w):=by
 have W:=b.arena;have i:=b.at_;have ad:=b.sz;have E:∀a∈fr,a < tk.length:=fun a g=>(zAc.1 ((b.frk a).1 g)).1;rcases List.eq_nil_or_concat fr with a1 |⟨n,e,a2⟩
 · subst a1;obtain ⟨N,Q,k,_⟩:=aW i.trow;obtain ⟨z,A,s,_⟩:=aW i.frow;have D:=i.ar;have y:=i.trow;rw [k,s] at D;rw [k] at y;have t:=sT 0 ga N Q z A tk.length tk w D y (zAp _) (by have:=b.tkl;omega);refine t.mono ?_;rintro q w' ⟨rfl,o,ae,Z,M,a4⟩;have a8:tk.length∉ks:=fun v=>by have:=(b.tkk _).2 v;rw [zBg nL] at this;cases this
   obtain ⟨O,S,r,_⟩:=aW M;have a6:Keep (AF ga vt vf) w w':=o.mono fun j _ c=>by rcases c with c | c;exact .inl c;exact .inr (.inl (by rw [k];exact c))
   have H:w'.ownsRow 0 3 1 vf 0 []:=by
    have:=aA (w':=w') (bN i.frow (zAp _)) fun j aa _ d=>o.bk d fun c=>by rcases c with c | c;exact Bk.ne d i.ar dC c;obtain ⟨ab,a0⟩:=fE y c;exact absurd (aP d a0).1 dC
    exact this
   rw [s] at H;have p:(tk++ [true]).length=tk.length+1:=(by simp);have x:=b.tkl;have Y:C.length<=ks.length:=by
    have V:=pS (l:=List.range C.length) (m:=ks) List.nodup_range fun a g=>by
        rw [zCj,<-x] at g;cases d:tk[a] with
        | true=>exact (b.tkk a).1 (by rw [zAa g,d])
        | false=>exact absurd ((b.frk a).2 (by rw [zAa g,d])) (by simp)
    simpa using V
   refine ⟨tk.length,tk++ [true], [],rfl,a8,⟨.inl (.inl rfl),O,S,z,A,?_,?_,H,?_,?_⟩,.inr ⟨x,by rw [p,x],Y⟩,fun a=>?_,List.nodup_nil,fun a=>?_,a6⟩;rw [p,<-r];exact Z;rw [p,<-r];exact M;intro j d;rw [p,<-r] at d;rcases a4 with c |⟨ac,c,U⟩;rw [c] at d;exact .inl (.inr (.inl (by rw [k];exact d)));rw [c] at d;injection d with d;subst d;exact .inr U;intro j d;exact .inl (.inr (.inr (by rw [s];exact d)))
   · rw [<-b.tkk a,aDa];simp
   · rw [b.frk a,aDa];simp
 · have a3:fr=n++ [e]:=(by simpa using a2);subst a3;have o:=(b.frk e).1 (by simp);have u:=E e (by simp);have J:=b.frn;have a7:(n++ [e]).length<=tk.length:=iK J E;have t:=vB (AF ga vt vf) ga e tk n w W u (by have:=b.tkl;omega) (by simp at a7;omega);refine t.mono ?_;rintro q w' ⟨rfl,X,a5⟩;have a9:e∉ks:=fun v=>by have:=(b.tkk e).2 v;rw [o] at this;cases this
   have K:=List.nodup_append.1 J;have I:∀a,(tk.set e true)[a]?=if a=e then some true else tk[a]?:=fun a=>by
    rw [zBm];by_cases f:e=a
    · subst f;simp [u]
    · rw [zBw f,zBw (fun q=>f q.symm)]
   refine ⟨e,tk.set e true,n,rfl,a9,X.mono fun j _ c=>.inl c,.inl ⟨by rw [<-b.tkl];exact u,by rw [zAt,b.tkl]⟩,fun a=>?_,K.1,fun a=>?_,a5⟩
   · rw [I,<-b.tkk a];by_cases f:a=e
     · simp [f]
     · simp [f]
   · rw [I];by_cases f:a=e
     · subst f;rw [zBx rfl];constructor;intro g;exact absurd rfl (K.2.2 a g a (by simp))
       · intro g;cases g
     · rw [zBw f,<-b.frk a];simp [f]
def PermX.stow {w w':World} {F:Nat->Prop} {gp ga R P k row pos i n0:Nat} {vl' vo':Value} {ks:List Nat} {C C9:List (Nat×Nat)} {tk:List Bool} {fr:List Nat} {AFF:Nat->Prop}
 (W:∀a∈ks,a < C.length) (Y:ks.Nodup) (x:k∉ks) (u:k < C9.length) (I:C.length<=C9.length) (a3:C9.length<=1000) (a5:tk.length=C9.length)
 (S:∀a∈ks,(aD C9 a,aI C9 a)=(aD C a,aI C a)) (a1:ks.Pairwise (fun d b=>aD C d < aD C b)) (t:i=ks.countP fun a=>decide (aD C a < row)) (Z:∀a∈ks,aD C a≠row)
 (m:Bk w' gp 120 #[ga,vl',vo',.int .i64 (R:Int),(P:Int)])
 (X:w'.ownsRow 0 114 2 vl' C9.length (bU (C9.set k (row,pos)))) (a0:w'.ownsRow 0 3 1 vo' (ks.length+1) ((aV ks i k).map sv))
 (l:ArenaE w' AFF ga tk fr) (q:∀b,AFF b->F b) (Q:F ga) (U:F gp) (a7:OwnF F vl') (a8:OwnF F vo') (K:∀b,vo'.ownBlock=some b->¬AFF b)
 (a4:∀a,tk[a]?=some true↔a∈ks∨a=k) (O:fr.Nodup) (N:∀a,a∈fr↔tk[a]?=some false):
 ∃vt vf,PermX w' F gp ga vl' vo' vt vf R P (aV ks i k) (C9.set k (row,pos)) tk fr/\((aV ks i k).map fun a=>(aD (C9.set k (row,pos)) a,aI (C9.set k (row,pos)) a))=aV (ks.map fun a=>(aD C a,aI C a)) i (row,pos)/\(aV ks i k).Pairwise (fun d b=>aD (C9.set k (row,pos)) d < aD (C9.set k (row,pos)) b):=by
 obtain ⟨ad,aa,ac,a9,ab,A,D,E,H,p⟩:=l;have V:i<=ks.length:=by rw [t];exact zBh
 have r:∀a,(aD (C9.set k (row,pos)) a,aI (C9.set k (row,pos)) a)=if a=k then (row,pos) else (aD C9 a,aI C9 a):=fun a=>by
  unfold aD aI;rw [zAb,zBm];by_cases j:k=a;subst j;rw [zBx rfl,zBx rfl,zBx u];rfl
  · rw [zBw j,zBw (fun e=>j e.symm),zAb]
 have s:∀a∈ks,(aD (C9.set k (row,pos)) a,aI (C9.set k (row,pos)) a)=(aD C a,aI C a):=fun a c=>by rw [r,zBw (fun e=>x (by rw [<-e];exact c)),S a c]
 have o:=r k;rw [zBx rfl] at o;have y:(aV ks i k).Perm (k::ks):=fN _ _ _;have v:∀a,a∈aV ks i k↔a=k∨a∈ks:=fun a=>by rw [y.mem_iff,List.mem_cons]
 refine ⟨_,_,⟨⟨m,by rw [zAt];exact X,by rw [gO _ _ V];exact a0,A,D,E,?_,fun a c=>?_,⟨zAp _,zAp _⟩⟩,U,Q,a7,a8,fun b n=>q b (H b n),fun b n=>q b (p b n),y.nodup_iff.2 (List.nodup_cons.2 ⟨x,Y⟩),by rw [zAt];exact a5,fun a=>by rw [a4 a,v a];exact Or.comm,O,N,by rw [zAt];exact a3⟩,?_,?_⟩
 · cases a6:vo'.ownBlock with
   | none=>exact .inl rfl
   | some b=>exact .inr fun e=>K b a6 (p b e.symm)
 rw [zAt];rcases (v a).1 c with rfl | c;exact u;exact zAl (W a c) I;rw [nX,o];congr 1;exact List.map_congr_left fun a c=>s a c
 · have g:∀a∈ks,aD (C9.set k (row,pos)) a=aD C a:=fun a c=>(Prod.mk.inj (s a c)).1;have z:aD (C9.set k (row,pos)) k=row:=(Prod.mk.inj o).1;have a2:ks.Pairwise (fun d b=>aD (C9.set k (row,pos)) d < aD (C9.set k (row,pos)) b):=(by refine List.Pairwise.imp_of_mem (fun {d b} l m J=>?_) a1;rw [g d l,g b m];exact J);have:=aEK (f:=aD (C9.set k (row,pos))) a2 k fun a c=>by rw [g a c,z];exact Z a c
   have M:(ks.countP fun a=>decide (aD (C9.set k (row,pos)) a < aD (C9.set k (row,pos)) k))=i:=(by rw [t,z];refine List.countP_congr fun a c=>?_;rw [g a c]);rw [M] at this;exact this
def xD (w:World) (gp:Nat):Nat:=match w.cell? ⟨gp,1,none⟩ with
 | some (.slice _ a _)=>a
 | _=>0
structure AddL (F:Nat->Prop) (gp ga R P k:Nat) (vo:Value) (ks:List Nat) (C:List (Nat×Nat)) (tk:List Bool) (fr9:List Nat) (AFF:Nat->Prop) (n3:Nat) (w2 wr:World) (A9:Option Addr) (M c9:Nat) (C9:List (Nat×Nat)):Prop where
 blk:Bk wr gp 120 #[ga,.slice A9 M c9,vo,(R:Int),(P:Int)]
 own:wr.ownsRow 0 114 2 (.slice A9 M c9) M (bU C9)
 len:C9.length=M
 lo:C.length<=M
 hi:M<=max C.length (k+1)
 get:∀x∈ks,(aD C9 x,aI C9 x)=(aD C x,aI C x)
 ord:wr.ownsRow 0 3 1 vo ks.length (ks.map sv)
 ar:ArenaE wr AFF ga tk fr9
 keep:Keep F w2 wr
 fl:OwnF (Gw F w2.heap.size) (.slice A9 M c9)
 k3:n3<=wr.heap.size
def aB0 (F gp R P row s pr w) (cF:PermE w F gp R P pr) (cX:row < R) (cW:s < P) (bX:∀H∈pr,H.1≠row) (bV:∀H∈pr,H.2≠s) (bQ:pr.length<=900):
 Calls prog 46 #[gp,(row:Int),(s:Int)] w fun d w'=>d=.returned (.int .i64 0)/\(∃ca,ca.Perm ((row,s)::pr)/\PermE w' (Gw F w.heap.size) gp R P ca)/\Keep F w w':=by
 obtain ⟨⟨ga,vl,vo,vt,vf,ks,C,tk,fr,v,rfl⟩,c3,bD⟩:=cF;obtain ⟨d3,cQ,d0,d1,d2⟩:=info_parts tR;have U:=v.at_;have c2:=List.pairwise_map.1 c3;have b3:ks.Pairwise (fun U a=>aD C U < aD C a):=c2;have b1:∀c∈ks,aD C c≠row:=fun c x=>bX _ (zAy.2 ⟨c,x,rfl⟩);have bW:∀c∈ks,aI C c≠s:=fun c x=>bV _ (zAy.2 ⟨c,x,rfl⟩);have bE:∀c∈ks,aD C c < R/\aI C c < P:=fun c x=>bD _ (zAy.2 ⟨c,x,rfl⟩);have cR:ks.length<=900:=by simpa using bQ
 obtain ⟨a1,aj⟩:∃a1,(ks.countP fun c=>decide (aD C c < row))=a1:=⟨_,rfl⟩;have bK:a1<=ks.length:=by rw [<-aj];exact zBh
 have bI:decide (∃c∈ks,aD C c=row)=false:=by rw [decide_eq_false_iff_not];rintro ⟨c,x,d⟩;exact b1 c x d
 have bJ:jQ (fun c=>decide (aI C c=s)) ks 0=-1:=lG (fun c x=>by simpa using bW c x) 0;have aM:=kW 0 gp ga vl vo vt vf R P ks C tk fr row w U b3 oM;rw [aj,bI] at aM;have aY:=fun cw cM=>jO 0 gp ga vl vo vt vf R P ks C tk fr s cw cM oM;simp only [bJ] at aY;have cy:w.cell? ⟨gp,3,none⟩=some (.int .i64 (R:Int)):=(U.blk.cell 3).trans rfl;have cz:w.cell? ⟨gp,4,none⟩=some (.int .i64 (P:Int)):=(U.blk.cell 4).trans rfl;obtain ⟨N,b0⟩:=eqx ks.length;obtain ⟨S,aJ⟩:=eqx C.length;have dl:N<=900:=oM;have df:S<=1000:=by rw [<-aJ];exact v.sz
 obtain ⟨bo,aw,ct,cp,ch,ck,J,A⟩:=hqq8 aY v b3 b1 bE aj b0 aJ;rw [b0] at bK;clear c2 bI bJ aY c3 bD bX bV b1 bW bE v U b3 aj bQ cR b0 aJ;go_enter func46,ntmps46;go_wp2_with fail;refine aM.mono ?_;clear aM;rintro d w1 ⟨rfl,aO⟩;have ae:=aw.out.at_.below aO;obtain ⟨av,ax⟩:=hqq2 ae aO;clear ae aO cy cz;go_wp2_with fail;refine (bo.out w1 av.out).mono ?_;rintro d o ⟨rfl,aR⟩;have bB:=ax.out.trans (aR.mono ax.out.size);have bd:PermX o F gp ga vl vo vt vf R P ks C tk fr:= { aw.out with at_:=av.out.below aR };have cx:o.cell? gp=some (.pointer (some ga)):=(bd.at_.blk.cell 0).trans rfl;obtain ⟨l,bj⟩:=hqq2 bd bB;clear bd bB aR av ax bo aw;go_wp2_with fail;have aK:=aBS F gp ga R P vl vo vt vf ks C tk fr o l.out;unfold aDm at aK;refine aK.mono ?_;clear aK;rintro d t ⟨c,a9,a2,rfl,bT,bw,bF,c4,bH,bG,X⟩;have a5:=X.bk l.out.at_.blk l.out.gp_af;have an:=aA (w':=t) l.out.at_.lrow fun a e _ b=>X.bk b (l.out.pair_af b);have ao:=aA (w':=t) l.out.at_.orow fun a e b x=>X.bk x (l.out.ord_af b);obtain ⟨au,aC,c5,_⟩:=aW an;obtain ⟨aa,ad,M,_⟩:=aW ao;have b8:vl=.slice au S aC:=by rw [c5,A.out]
 have c7:vo=.slice aa N ad:=by rw [M,J.out]
 rw [A.out] at an;rw [J.out] at ao;have V:t.cell? ⟨gp,1,none⟩=some (.slice au S aC):=(a5.cell 1).trans (by rw [b8];rfl);have aG:=a5.frozen 1;have cO:=a5.lt;have dk:c<=S:=by have:=A.out;omega
 have bN:Keep F o t:=X.mono fun a _ g=>l.out.af g;obtain ⟨cl,bq⟩:=hqq2 X bN;have bg:=lhd (bw.mono (G:=fun a=>Gw (AF ga vt vf) o.heap.size a/\a < t.heap.size) fun a b g=>⟨g,b⟩);obtain ⟨bl,bm,bs,bt,ay,d9,co,cu,cj⟩:=hqq9 bF a5 an ao b8 c7 bT c4 bH;have ci:=lhd bG;have bv:=(World.cell?_alloc_lt t (Obj.cells #[o0,o0] 114) ⟨gp,1,none⟩ cO).trans V;clear X bN bw bF a5 an ao c5 M b8 c7 bT c4 bH bG cx;have bM:AddL F gp ga R P c vo ks C a9 a2 (fun a=>Gw (AF ga vt vf) o.heap.size a/\a < t.heap.size) t.heap.size o t au S aC C:=
  ⟨by have:=bm.out;rwa [ay.out] at this,by have:=bs.out;rwa [ay.out] at this,A.out,by rw [A.out];exact zAs _,by have:=A.out;omega,fun H _=>rfl,by rw [J.out];exact bt.out,bg.out,bq.out,fun a b=>.inl (l.out.fl a (by rw [ay.out];exact b)),zAs _⟩
 have bp:=lhd bM;clear bM V aG bv;go_wp2_with fail;go_loopw [] (fun wr=>∃E f y u,AddL F gp ga R P c vo ks C a9 a2 (fun a=>Gw (AF ga vt vf) o.heap.size a/\a < t.heap.size) t.heap.size o wr E f y u) (fun wr=>c+1 - xD wr gp)
 case atStart=>exact ⟨_,_,_,_,bp.out⟩
 case round=>
  obtain ⟨E,f,y,u,r⟩:=hrel;clear bp bm bs bt bg bq cl;have V:wr.cell? ⟨gp,1,none⟩=some (.slice E f y):=(r.blk.cell 1).trans rfl;have aG:=r.blk.frozen 1;have cP:=r.blk.lt;have cI:=r.len;have cJ:=r.lo;have cK:=r.hi;rw [A.out] at cJ cK;by_cases bS:f<=c
  · have cS:decide (f<=c)=true:=zBz bS;have cT:(f:Int)<=(c:Int):=oM;obtain rfl:f=S:=oM;have bv:=(World.cell?_alloc_lt wr (Obj.cells #[o0,o0] 114) ⟨gp,1,none⟩ cP).trans V;have c0:xD wr gp=f:=(by unfold xD;rw [V]);obtain ⟨m,cr⟩:=hqq2 r c0;clear r c0;go_wp2_with (at_builtin;refine bL _ rfl (.tmp 72) (.tmp 74) _ rfl 0 114 d3 (.agg #[o0,o0]) 2 16 underlying74 cQ d0 d1 d2 rfl dC (.slice E f y) f _ rfl m.out.own rfl rfl (by simp [Value.oneCell']) (by unfold maxLen;omega) oM (zAp _) ?_;intro dt D b2 aU dp bA;have ag:=m.out.blk.grown aU (bC m.out.own m.out.blk dC);have db:D.cell? ⟨gp,1,none⟩=some (.slice E f y):=(ag.cell 1).trans rfl;have dd:=ag.frozen 1;obtain ⟨I,K,rfl,cU⟩:=aS b2;obtain ⟨ab,br,Q,bh⟩:=hqq4 ag b2 aU bA;clear cU b2 aU bA ag);have a7:Keep (fun a=>(Value.slice E f y).ownBlock=some a) wr D:=⟨Q.out.os,Q.out.tape,Q.out.output,Q.out.size,fun a b am=>Q.out.block a b fun d=>am d.symm⟩
    have aH:AddL F gp ga R P c vo ks C a9 a2 (fun a=>Gw (AF ga vt vf) o.heap.size a/\a < t.heap.size) t.heap.size o (D.setCell ⟨gp,1,none⟩ (.slice I (f+1) K)) I (f+1) K (u++ [(0,0)]):=by
        have L:=m.out;have W:∀a j e,j≠120->Bk D a j e->Bk (D.setCell ⟨gp,1,none⟩ (.slice I (f+1) K)) a j e:=fun a j e n b=>b.far (p:=⟨gp,1,none⟩) (Bk.ne b ab.out n) _;have dm:∀a,(Value.slice E f y).ownBlock=some a->Gw F o.heap.size a:=fun a b=>L.fl a b;have am:∀a j e,j≠114->Bk wr a j e->¬((Value.slice E f y).ownBlock=some a):=fun a j e n b d=>by obtain ⟨cA,aT⟩:=fE L.own d;exact n (aP b aT).1
        refine ⟨ab.out.set 1 _,?_,by rw [zAi,L.len];rfl,by have:=L.lo;omega,by omega,fun H v=>?_,?_,?_,?_,?_,?_⟩;rw [lC];exact aA br.out fun a e _ b=>W _ _ _ dC b
        · rw [<-L.get H v];have dr:=l.out.at_.lt H v;unfold aD aI;rw [zAb,zAb,zAn (by have:=L.lo;have:=L.len;omega)]
        exact aA L.ord fun a e _ b=>W _ _ _ dC (a7.bk b (am _ _ _ dC b));refine (L.ar.keep a7 fun a j e n b _=>am a j e (fun d=>by subst d;revert n;decide) b).keep (G:=fun a=>a=gp) (ka (F:=fun a=>a=gp) (kf _ _) (p:=⟨gp,1,none⟩) (.inl rfl) _) fun a j e n b _ d=>?_;have aF:a=gp:=d;subst aF;rw [(aP b ab.out).1] at n;revert n;decide;refine ka (F:=F) (L.keep.trans' a7 fun a b g=>?_) (p:=⟨gp,1,none⟩) (.inl l.out.fp) _;rcases L.fl a g with z | z;exact z;omega;intro a b;rcases bh.out with d | d;rw [d] at b;exact L.fl a b;rw [d] at b;injection b with b;subst b;exact .inr (by have:=L.keep.size;omega);have ae:=L.k3;have cG:=a7.size;have de:(D.setCell ⟨gp,1,none⟩ (.slice I (f+1) K)).heap.size=D.heap.size:=(by simp [World.setCell]);omega
    have c1:xD (D.setCell ⟨gp,1,none⟩ (.slice I (f+1) K)) gp=f+1:=(by have cB:(D.setCell ⟨gp,1,none⟩ (.slice I (f+1) K)).cell? ⟨gp,1,none⟩=some (.slice I (f+1) K):=(aH.blk.cell 1).trans rfl;unfold xD;rw [cB]);obtain ⟨ce,cs⟩:=hqq2 aH c1;clear aH c1 a7 ab br Q bh m;go_roundw
    case rel=>exact ⟨_,_,_,_,ce.out⟩
    case measure=>rw [cr.out,cs.out];omega
  · have cS:decide (f<=c)=false:=zBy bS;have cT:¬(f:Int)<=(c:Int):=oM;have a8:c < f:=oM;have dj:(c:Int) < (f:Int):=oM;obtain ⟨q,ds,b4,_,dg⟩:=kk r.own oM;injection b4 with b4 _ hs9c;subst b4 hs9c;obtain ⟨da,a4⟩:=fW r.own;have di:gp≠q:=Bk.ne r.blk a4 dC;have d7:=a4.frozen (c*2);have d8:=a4.frozen (c*2+1);obtain ⟨be,bf⟩:=cH u c (by rw [cI];exact a8);have cc:=(ki r.own (c*2) oM).trans be;have cd:=(ki r.own (c*2+1) oM).trans bf;generalize aD u c=u0 at cc be;generalize aI u c=u1 at cd bf;obtain ⟨aa,ad,M,_⟩:=aW r.ord;rw [J.out] at M;have aE:wr.cell? ⟨gp,2,none⟩=some (.slice aa N ad):=(r.blk.cell 2).trans (by rw [M];rfl);obtain ⟨m,cg,ac⟩:=hqq3 r a4 M;clear r a4 M be bf;go_wp2_with fail;have b9:((wr.setCell ⟨q,c*2,none⟩ (.int .i64 (row:Int))).setCell ⟨q,c*2+1,none⟩ (.int .i64 (s:Int))).ownsRow 0 114 2 (.slice (some q) f y) f (bU (u.set c (row,s))):=(by have cb:=(kl m.out.own (c*2) (.int .i64 (row:Int))).1;rw [lE u c row (by rw [m.out.len];exact a8)] at cb;have ap:=(kl cb (c*2+1) (.int .i64 (s:Int))).1;rw [nT _ c s (by rw [zAt,m.out.len];exact a8)] at ap;rw [List.set_set] at ap;have cC:aD (u.set c (row,aI u c)) c=row:=(by unfold aD;rw [zAb,List.getElem?_set_self (by rw [m.out.len];exact a8)];rfl);rw [cC] at ap;exact ap);have Z:Keep (fun a=>a=q) wr ((wr.setCell ⟨q,c*2,none⟩ (.int .i64 (row:Int))).setCell ⟨q,c*2+1,none⟩ (.int .i64 (s:Int))):=((kf (fun a=>a=q) wr).setCell (p:=⟨q,c*2,none⟩) (.inl rfl) _).setCell (p:=⟨q,c*2+1,none⟩) (.inl rfl) _;have b6:((wr.setCell ⟨q,c*2,none⟩ (.int .i64 (row:Int))).setCell ⟨q,c*2+1,none⟩ (.int .i64 (s:Int))).heap.size=wr.heap.size:=(by simp [World.setCell]);rw [<-b6];clear cc cd d7 d8 V aE aG;generalize (wr.setCell ⟨q,c*2,none⟩ (.int .i64 (row:Int))).setCell ⟨q,c*2+1,none⟩ (.int .i64 (s:Int))=w7 at b9 Z b6⊢;have al:∀a j e,j≠114->Bk wr a j e->¬(a=q):=fun a j e n b d=>by subst d;exact n (aP b cg.out).1
    have aX:=Z.bk m.out.blk (al _ _ _ dC m.out.blk);have bb:=aA (w':=w7) m.out.ord fun a e _ b=>Z.bk b (al _ _ _ dC b);have bx:=m.out.ar.keep Z fun a j e n b _=>al a j e (fun d=>by subst d;revert n;decide) b;have bO:Keep F o w7:=m.out.keep.trans' Z fun a b g=>by have cD:a=q:=g;rcases m.out.fl a (by rw [cD];rfl) with z | z;exact z;omega
    have a3:Below w7.heap.size w7 (w7.alloc (.cells #[(c:Int)] 3)):=bR.alloc nL _;have ai:=ke w7 3 #[(c:Int)];have a0:=aQ bb a3;have ba:=aQ b9 a3;have ah:=aX.below a3 aX.lt;have aL:=bx.keep (G:=fun _=>False) (kF a3) fun _ _ _ _ _ _ g=>g;have ak:Keep F o (w7.alloc (.cells #[(c:Int)] 3)):=bO.alloc _;obtain ⟨cE,aV⟩:=eqx w7.heap.size;rw [aV] at ai;rw [aV];have c9:∀a,vo.ownBlock=some a->a < w7.heap.size:=fun a b=>(bb.lt a b).2;rw [J.out,ac.out] at a0;have bc:wr.heap.size<=(w7.alloc (.cells #[(c:Int)] 3)).heap.size:=(by simp;omega);have bu:=lhd bc;clear bc;generalize w7.alloc (.cells #[(c:Int)] 3)=w8 at bu ai a0 ba ah aL ak⊢;have aZ:=aAi 0 aa N ad a1 ks cE c w8 a0 ai (fun a b d=>by have:=c9 a (by rw [ac.out];exact b);omega) (zAp _) bK oM;unfold tE at aZ;refine aZ.mono ?_;clear aZ;rintro d O ⟨aq,aB,rfl,bY,Y,aN⟩;rw [<-ac.out] at Y aN a0;have b7:∀a j e,j≠3->Bk w8 a j e->¬(vo.ownBlock=some a):=fun a j e n b d=>by obtain ⟨cA,aT⟩:=fE a0 d;exact n (aP b aT).1
    have a6:=Y.bk ah (b7 _ _ _ dC ah);have c6:=aA (w':=O) ba fun a e _ b=>Y.bk b (b7 _ _ _ dC b);have c8:∀a,vo.ownBlock=some a->¬(Gw (AF ga vt vf) o.heap.size a/\a < t.heap.size):=fun a b g=>by rcases g.1 with g | g;exact l.out.ord_af b g;have:=(l.out.at_.orow.lt a b).2;omega
    have bz:=aL.keep Y fun a j e _ _ g d=>c8 a d g;have bP:Keep F o O:=ak.trans' Y fun a _ g=>l.out.fo a g;have aE:O.cell? ⟨gp,2,none⟩=some vo:=(a6.cell 2).trans rfl;rw [ac.out] at aE;have dc:=a6.frozen 2;have dh:=a6.lt;obtain ⟨bn,cv,cf,cn,cq,bi,cm⟩:=hqq7 a6 c6 bz bP bY aN ak;clear a6 c6 bz bP bY aN ak Y a0 ba ah aL ai a3 bO bx bb aX Z b9 b6 aV c9 b7 al;go_wp2_with fail;go_ret;have b5:Keep (fun a=>a=gp) O (O.setCell ⟨gp,2,none⟩ (.slice aq (N+1) aB)):=ka (F:=fun a=>a=gp) (kf _ _) (p:=⟨gp,2,none⟩) (.inl rfl) _;have W:∀a j e,j≠120->Bk O a j e->¬(a=gp):=fun a j e n b d=>by subst d;exact n (aP b bn.out).1
    have dn:=bj.out.size;have dq:=cm.out.size;have bc:=bu.out;have cL:f<=1000:=(by rcases bl.out with az | az;have:=A.out;omega;have:=A.out;have:=J.out;omega);have cV:∀a,Gw F o.heap.size a->Gw F w.heap.size a:=fun a g=>by rcases g with g | g;exact .inl g;exact .inr oM
    have L:=m.out
    obtain ⟨d5,d4,cN,bZ,cY⟩:=PermX.stow (w:=w) (w':=O.setCell ⟨gp,2,none⟩ (.slice aq (N+1) aB)) (F:=Gw F w.heap.size) (gp:=gp) (ga:=ga) (R:=R) (P:=P) (k:=c) (row:=row) (pos:=s) (i:=a1) (n0:=0) (vl':=.slice (some q) f y) (vo':=.slice aq (N+1) aB) (ks:=ks) (C:=C) (C9:=u) (tk:=a9) (fr:=a2) (AFF:=fun a=>Gw (AF ga vt vf) o.heap.size a/\a < t.heap.size)
        l.out.at_.lt l.out.nd co.out (by rw [L.len];exact a8) (by rw [L.len];exact L.lo) (by rw [L.len];exact cL) (by
         rw [L.len];rcases bl.out with az | az;have:=L.lo;have:=L.hi;omega
         · have:=L.lo;have:=L.hi;omega) L.get ct.out ck.out.symm cp.out (bn.out.set 2 _)
        (by rw [L.len];exact aA cv.out fun a e _ b=>b5.bk b (W _ _ _ dC b))
        (by rw [J.out];exact aA cq.out fun a e _ b=>b5.bk b (W _ _ _ dC b))
        (cf.out.keep b5 fun a j e n b _=>W a j e (fun d=>by subst d;revert n;decide) b)
        (fun a g=>by
         rcases g.1 with z | z;exact .inl (l.out.af z)
         · exact .inr oM)
        (.inl l.out.fa) (.inl l.out.fp) (fun a b=>cV a (L.fl a b))
        (fun a b=>by
         rcases bi.out with d |⟨z,d,aF⟩;exact .inl (l.out.fo a (by rw [<-d];exact b))
         · rw [d] at b;injection b with b;subst b;exact .inr oM)
        (fun a b g=>by
         rcases bi.out with d |⟨z,d,aF⟩;exact c8 a (by rw [<-d];exact b) g
         · rw [d] at b;injection b with b;subst b;have ae:=g.2;have cG:=L.k3;omega)
        cu.out cj.out ci.out
    refine ⟨rfl,⟨_,?_,⟨ga,_,_,d5,d4,_,_,a9,a2,cN,rfl⟩,List.pairwise_map.2 cY,fun H v=>?_⟩,(kF bj.out).trans (ka (F:=F) cn.out (p:=⟨gp,2,none⟩) (.inl l.out.fp) _)⟩;rw [bZ];exact fN _ _ _;rw [bZ] at v;rcases List.mem_cons.1 ((fN _ _ _).subset v) with rfl | v;exact ⟨cX,cW⟩;obtain ⟨d6,cZ,rfl⟩:=zAy.1 v;exact ch.out d6 cZ
def PermE.inj {w F gp R P pr} (f:PermE w F gp R P pr) {d e} (j:d∈pr) (k:e∈pr) (l:d.1=e.1):d=e:=by
 obtain ⟨b,g,rfl⟩:=List.getElem_of_mem j;obtain ⟨c,i,rfl⟩:=List.getElem_of_mem k;rcases Nat.lt_trichotomy b c with a | a | a;have:=zAr.1 f.2.1 b c g i a;omega;subst a;rfl;have:=zAr.1 f.2.1 c b i g a;omega
def PermR (w:World) (gp R P:Nat) (pr:List (Nat×Nat)):Prop:=
 ∃B ga vl vo vt vf ks C tk fr,PermAt w B gp ga vl vo vt vf R P ks C tk fr/\ks.Pairwise (fun b c=>aD C b < aD C c)/\C.length<=1000/\ks.length<=1000/\pr=ks.map fun a=>(aD C a,aI C a)
def PermR.le {w gp R P pr} (a:PermR w gp R P pr):pr.length<=1000:=by
 obtain ⟨B,ga,vl,vo,vt,vf,ks,C,tk,fr,c,d,e,b,rfl⟩:=a;rw [zBc];exact b
def PermR.vis {w w' gp R P pr} (a:PermR w gp R P pr) (d:Vis w w'):PermR w' gp R P pr:=by
 obtain ⟨B,ga,vl,vo,vt,vf,ks,C,tk,fr,b,c⟩:=a;exact ⟨B,ga,vl,vo,vt,vf,ks,C,tk,fr,b.vis d,c⟩
def PermR.lt {w gp R P pr} (a:PermR w gp R P pr):gp < w.heap.size:=by
 obtain ⟨B,ga,vl,vo,vt,vf,ks,C,tk,fr,b,c⟩:=a;exact b.blk.lt
def aBZ (B gp ga vl vo vt vf R P ks C tk fr w) (c:PermAt w B gp ga vl vo vt vf R P ks C tk fr) (ac:C.length<=1000) (ad:ks.length<=1000):
 Calls prog 134 #[gp] w (mH w (ks.map fun a=>(aD C a,aI C a))):=by
 obtain ⟨ao,ah,al,am,an⟩:=info_parts tR;have O:=c.orow;obtain ⟨X,a5,rfl,_,_⟩:=aW O;obtain ⟨W,E,rfl,_,_⟩:=aW c.lrow;have q:w.cell? ⟨gp,1,none⟩=some (.slice W C.length E):=(c.blk.cell 1).trans rfl;have H:w.cell? ⟨gp,2,none⟩=some (.slice X ks.length a5):=(c.blk.cell 2).trans rfl;have ag:=c.blk.lt;obtain ⟨D,s⟩:=eqx C.length;obtain ⟨g,j⟩:=eqx ks.length;obtain ⟨pr,k⟩:∃pr,(ks.map fun a=>(aD C a,aI C a))=pr:=⟨_,rfl⟩;have Q:pr.length=g:=by rw [<-k,zBc,j]
 rw [k];obtain ⟨z,a2,Z,a4,m⟩:=hqq5 c j s k Q;rw [s] at q ac;rw [j] at H ad;clear c O j s k Q;unfold mH;go_enter func134,ntmps134;go_wp2_with fail;go_loopw [3,13] (fun ap y wr=>∃a:Nat,a<=g/\y=.int .i64 (a:Int)/\wr.ownsRow w.heap.size 114 2 ap a (bU (pr.take a))/\Below w.heap.size w wr) (fun _ y _=>g -(intOf y).toNat)
 case atStart=>exact ⟨0,zAp _,rfl,kj _ _ _ _,kh _ _⟩
 case round=>
  obtain ⟨a,ay,rfl,e,d⟩:=hrel;have S:=d.size;by_cases ai:a < g
  · have K:a < ks.length:=(by rw [a2.out];exact ai);obtain ⟨b,i⟩:∃b,ks[a]?=some b:=⟨_,zAa K⟩;have v:b < C.length:=z.out.lt b (zAd i);have ax:b < D:=(by rw [<-Z.out];exact v);have f:=z.out.below d;have x:=f.orow;obtain ⟨ab,aB,aa,_,aw⟩:=kk x oM;obtain ⟨r,aA,a9,_,av⟩:=kk f.lrow oM;injection aa with e2a _ _;injection a9 with e1a _ _;subst e2a;subst e1a;have ar:wr.cell? ⟨ab,a,none⟩=some (.int .i64 (b:Int)):=(ki x a oM).trans (by rw [zAf,i];rfl);obtain ⟨U,V⟩:=cH C b v;have a7:wr.cell? ⟨r,b*2,none⟩=_:=(ki f.lrow (b*2) oM).trans U;have a8:wr.cell? ⟨r,b*2+1,none⟩=_:=(ki f.lrow (b*2+1) oM).trans V;have au:wr.cell? ⟨gp,1,none⟩=some (.slice (some r) D E):=(d.cell (p:=⟨gp,1,none⟩) ag).trans q;obtain ⟨n,t⟩:=eqx (aD C b);obtain ⟨o,u⟩:=eqx (aI C b);have N:bU (pr.take (a+1))=bU (pr.take a)++ [.int .i64 (n:Int),.int .i64 (o:Int)]:=(by have af:pr[a]?=some (n,o):=(by rw [<-a4.out,zAf,i,<-t,<-u];rfl);rw [zAv,af];show bU (pr.take a++ [(n,o)])=_;rw [lC];rfl);rw [t] at a7;rw [u] at a8;obtain ⟨A,l,a3⟩:=hqq3 e d N;clear e d N f x U V q H t u i v K;go_wp2_with (at_builtin;refine bL _ rfl (.tmp 17) (.tmp 25) _ rfl w.heap.size 114 ao (.agg #[o0,o0]) 2 16 underlying74 ah al am an rfl dC _ a _ rfl A.out rfl rfl (by simp [Value.oneCell']) (by unfold maxLen;omega) oM S ?_;intro aq aC aj J az ae);have I:=aZ l.out A.out J S;have a0:=lhd I;clear I J ae;exact ⟨⟨aq,_,_,⟨a+1,by omega,by go_num,by rw [a3.out];exact aj,a0.out⟩,rfl,rfl,rfl⟩,by simp [intOf];omega⟩
  · obtain rfl:a=g:=oM;have ak:pr.take a=pr:=zAg (by rw [m.out];exact zAs _);rw [ak] at e;obtain ⟨Y,a6,rfl,M⟩:=aS e;obtain ⟨a1,l⟩:=hqq2 M d;clear e M d;go_wp2_with fail;go_ret;exact ⟨Y,a6,by rw [m.out];rfl,by rw [m.out];exact a1.out,l.out⟩
def tB (gp R P pr w) (a:PermR w gp R P pr):
 Calls prog 134 #[gp] w (mH w pr):=by
 obtain ⟨B,ga,vl,vo,vt,vf,ks,C,tk,fr,b,e,c,d,rfl⟩:=a;exact aBZ B gp ga vl vo vt vf R P ks C tk fr w b c d
def eO (pr:List (Nat×Nat)) (b:Nat) (d:Int):Prop:=(d=-1/\∀a∈pr,a.2 < b)∨∃a∈pr,d=((a.2:Nat):Int)/\b<=a.2/\∀c∈pr,b<=c.2->a.2<=c.2
def xQ {l f m} (p:eO l f m) (g a):eO (l++(some (g,a)).toList) f (if f<=a/\(m < 0∨(a:Int) < m) then (a:Int) else m):=by
 have e:∀b:Nat×Nat,b∈l++(some (g,a)).toList↔b∈l∨b=(g,a):=fun b=>by simp
 rcases p with ⟨rfl,k⟩|⟨j,q,rfl,k,n⟩;by_cases d:f<=a;rw [zBx ⟨d,.inl oM⟩];refine .inr ⟨(g,a),(e _).2 (.inr rfl),rfl,d,fun b c i=>?_⟩;rcases (e b).1 c with c | rfl;have:=k b c;omega;exact zAs _;rw [zBw (fun o=>d o.1)];refine .inl ⟨rfl,fun b c=>?_⟩;rcases (e b).1 c with c | rfl;exact k b c;show a < f;omega;by_cases d:f<=a/\((j.2:Int) < 0∨(a:Int) < (j.2:Int));rw [zBx d];have r:a < j.2:=oM;refine .inr ⟨(g,a),(e _).2 (.inr rfl),rfl,d.1,fun b c i=>?_⟩;rcases (e b).1 c with c | rfl;have:=n b c i;show a<=_;omega;exact zAs _;rw [zBw d];refine .inr ⟨j,(e _).2 (.inl q),rfl,k,fun b c i=>?_⟩;rcases (e b).1 c with c | rfl;exact n b c i;have s:f<=a:=i;show j.2<=a;omega
def uI (w:World) (C:List (Nat×Nat)) (c:Nat) (b:Ending) (w':World):Prop:=∃a,b=.returned (.int .i64 a)/\eO C c a/\Below w.heap.size w w'
def qA (gp R P:Nat) (C) (d:Nat) (w) (p:PermR w gp R P C):
 Calls prog 110 #[gp,(d:Int)] w (uI w C d):=by
 have m:=tB gp R P C w p;have Z:=p.le;unfold mH at m;obtain ⟨n,t⟩:=eqx C.length;rw [t] at m Z;have y:=lhd t;clear p t;unfold uI;go_enter func110,ntmps110;go_wp2_with fail;refine m.mono ?_;rintro aa w1 ⟨a6,a9,rfl,K,D⟩;clear m;obtain ⟨V,x⟩:=hqq2 K D;clear K D;go_wp2_with fail;go_loopw [5,11] (fun a5 u wr=>∃(a:Nat) (c:Int),a<=n/\u=.int .i64 (a:Int)/\a5=.int .i64 c/\eO (C.take a) d c/\Below w1.heap.size w1 wr) (fun _ u _=>n -(intOf u).toNat)
 case atStart=>exact ⟨0,-1,zAp _,rfl,rfl,.inl ⟨rfl,fun ag a2=>by simp at a2⟩,kh _ _⟩
 case round=>
  obtain ⟨a,c,ac,rfl,rfl,i,g⟩:=hrel;have a1:=g.size;by_cases a0:a < n
  · have J:a < C.length:=(by rw [y.out];exact a0);have N:=V.out.rd.below (g.mono (B:=w1.heap.size) nL);obtain ⟨a8,af,rfl,ab,s⟩:=N.2 oM;obtain ⟨Q,S⟩:=cH C a J;have X:=s _ _ Q;have Y:=s _ _ S;obtain ⟨o,q⟩:=eqx (aD C a);obtain ⟨b,r⟩:=eqx (aI C a);rw [q] at X;rw [r,<-Nat.add_assoc] at Y;have I:C[a]?=some (o,b):=(by rw [<-q,<-r];unfold aD aI;rw [zAb,zAa J];rfl);have M:∀v:Int,v=(if d<=b/\(c < 0∨(b:Int) < c) then (b:Int) else c)->eO (C.take (a+1)) d v:=fun v a3=>by rw [zAv,I,a3];exact xQ i o b
    obtain ⟨k,a7⟩:=hqq2 M g;have E:Below w1.heap.size w1 (wr.alloc (.cells #[(o:Int),(b:Int)] 114)):=g.alloc a1 _;have j:=lhd E;clear i g N s Q S q r E M I;by_cases l:d<=b
    · have a4:decide (d<=b)=true:=zBz l;by_cases z:c < 0
      · have e:eO (C.take (a+1)) d (b:Int):=k.out (b:Int) (by rw [zBx ⟨l,.inl z⟩]);have f:=lhd e;clear e;go_wp2_with fail;go_roundw
        case rel=>exact ⟨a+1,(b:Int),by omega,by go_num,by first | rfl | trivial,f.out,j.out⟩
        case measure=>simp [intOf];omega
      · have ad:decide (c < 0)=false:=zBy z;by_cases A:(b:Int) < c
        · have e:eO (C.take (a+1)) d (b:Int):=k.out (b:Int) (by rw [zBx ⟨l,.inr A⟩]);have f:=lhd e;clear e;go_wp2_with fail;go_roundw
          case rel=>exact ⟨a+1,(b:Int),by omega,by go_num,by first | rfl | trivial,f.out,j.out⟩
          case measure=>simp [intOf];omega
        · have ae:decide ((b:Int) < c)=false:=zBy A;have e:eO (C.take (a+1)) d c:=k.out c (by rw [zBw oM]);have f:=lhd e;clear e;go_wp2_with fail;go_roundw
          case rel=>exact ⟨a+1,c,by omega,by go_num,by first | rfl | trivial,f.out,j.out⟩
          case measure=>simp [intOf];omega
    · have a4:decide (d<=b)=false:=zBy l;have e:eO (C.take (a+1)) d c:=k.out c (by rw [zBw oM]);have f:=lhd e;clear e;go_wp2_with fail;go_roundw
      case rel=>exact ⟨a+1,c,by omega,by go_num,by first | rfl | trivial,f.out,j.out⟩
      case measure=>simp [intOf];omega
  · obtain rfl:a=n:=oM;have H:=x.out.trans (g.mono x.out.size);have U:=lhd H;have O:C.take a=C:=zAg (by rw [y.out];exact zAs _);rw [O] at i;have W:=lhd i;clear H i g O;go_wp2_with fail;go_ret;exact ⟨c,rfl,W.out,U.out⟩
def aDv (w:World) (ks:List Nat) (C:List (Nat×Nat)) (c:Nat) (b:Ending) (w':World):Prop:=∃a,a∈ks/\aI C a=c/\b=.returned (.int .i64 ((aD C a:Nat):Int))/\Below w.heap.size w w'
def aBU (B gp ga vl vo vt vf R P ks C tk fr e w) (c:PermAt w B gp ga vl vo vt vf R P ks C tk fr) (M:ks.length<=1099511627776) (Z:C.length<=1099511627776) (r:∃g∈ks,aI C g=e):
 Calls prog 111 #[gp,(e:Int)] w (aDv w ks C e):=by
 have k:=jO B gp ga vl vo vt vf R P ks C tk fr e w c M;obtain ⟨i,b,t,j,u⟩:=uS (p:=fun g=>decide (aI C g=e)) (l:=ks) (by obtain ⟨g,N,O⟩:=r;exact ⟨g,N,zBz O⟩) 0;rw [t,zBi] at k;have v:aI C b=e:=of_decide_eq_true u;have a7:i < ks.length:=(zAc.1 j).1;have U:b < C.length:=c.lt b (zAd j);obtain ⟨o,H,S,a3,J⟩:=kk c.orow oM;obtain ⟨q,I,Q,a4,K⟩:=kk c.lrow oM;subst S;subst Q;have s:=(cH C b U).1;obtain ⟨x,n,D,z⟩:=hqq4 c j v s;have a6:(i:Int) < (ks.length:Int):=oM;have a8:(b:Int) < (C.length:Int):=oM;have a5:decide ((i:Int) < 0)=false:=by simp
 clear c t j u v s r;unfold aDv;go_enter func111,ntmps111;go_wp2_with fail;refine k.mono ?_;rintro Y w1 ⟨rfl,f⟩;have d:=x.out.below f;have V:∀a,(w1.drewN a).cell? ⟨gp,1,none⟩=some (.slice (some q) C.length I):=fun a=>(d.blk.cell 1).trans rfl;have W:∀a,(w1.drewN a).cell? ⟨gp,2,none⟩=some (.slice (some o) ks.length H):=fun a=>(d.blk.cell 2).trans rfl;have a2:=d.blk.lt;have X:∀a,(w1.drewN a).cell? ⟨o,i,none⟩=some (.int .i64 (b:Int)):=fun a=>(ki d.orow i oM).trans (by rw [zAf,n.out];rfl);have E:∀a,(w1.drewN a).cell? ⟨q,b*2,none⟩=some (.int .i64 ((aD C b:Nat):Int)):=fun a=>(ki d.lrow (b*2) oM).trans z.out;have y:=lhd f;have a0:=zAl J f.size;have a1:=zAl K f.size;obtain ⟨a9,m⟩:=eqx (aD C b);rw [m] at E;have A:=lhd m;clear k f d m;go_wp2_with fail;go_quiet (fail);go_wp2_with fail;go_ret;exact ⟨b,zAd n.out,D.out,by rw [A.out];rfl,kn y.out _⟩
def yZ (w:World) (pr:List (Nat×Nat)) (c:Nat) (b:Ending) (w':World):Prop:=∃a,(a,c)∈pr/\b=.returned (.int .i64 (a:Int))/\Below w.heap.size w w'
def sZ (gp R P pr b w) (f:PermR w gp R P pr) (j:∃e∈pr,e.2=b):
 Calls prog 111 #[gp,(b:Int)] w (yZ w pr b):=by
 obtain ⟨B,ga,vl,vo,vt,vf,ks,C,tk,fr,g,o,p,q,rfl⟩:=f;have k:∃a∈ks,aI C a=b:=by obtain ⟨e,n,d⟩:=j;obtain ⟨a,c,rfl⟩:=zAy.1 n;exact ⟨a,c,d⟩
 have m:=aBU B gp ga vl vo vt vf R P ks C tk fr b w g oM oM k;refine m.mono ?_;rintro d w' ⟨a,c,l,rfl,i⟩;exact ⟨_,zAy.2 ⟨a,c,by rw [l]⟩,rfl,i⟩
def aAb (gp R P pr a w) (j:PermR w gp R P pr) (g:∀n∈pr,n.2≠a):
 Calls prog 111 #[gp,(a:Int)] w fun d w'=>d=.returned (.int .i64 (-1))/\Below w.heap.size w w':=by
 obtain ⟨B,ga,vl,vo,vt,vf,ks,C,tk,fr,e,k,o,q,rfl⟩:=j;have b:=jO B gp ga vl vo vt vf R P ks C tk fr a w e oM;rw [lG (p:=fun c=>decide (aI C c=a)) (l:=ks) (fun c m=>zBy (g _ (zAy.2 ⟨c,m,rfl⟩))) 0] at b;clear e k g;go_enter func111,ntmps111;go_wp2_with fail;refine b.mono ?_;rintro d w1 ⟨rfl,f⟩;have i:=lhd f;clear b f;go_wp2_with fail;go_ret;exact ⟨rfl,i.out⟩
end
end Go.Proofs.YtecdldbdednahaaGreatDoor
