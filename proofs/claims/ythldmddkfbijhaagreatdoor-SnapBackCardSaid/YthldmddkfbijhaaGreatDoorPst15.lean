/- Lemmas of the walk. Conditions: each its own. -/
import Derived.Test.YthldmddkfbijhaaGreatDoorPst11
import Derived.Test.YthldmddkfbijhaaGreatDoorProg
import Derived.Test.YthldmddkfbijhaaGreatDoorShl
set_option linter.all false
set_option maxRecDepth 100000
set_option maxHeartbeats 4000000
open Go.Proofs.Tryz
namespace Go.Proofs.YthldmddkfbijhaaGreatDoor
open Go.RowKit
theorem aDF (d e a:Nat) (b:Bool) (w:World) (i:a<=1000):
 Calls prog 115 #[.agg #[d,(e:Int),(a:Int)],.bool b] w fun c w'=>c=.returned (.int .i64 ((2*a+(if b then 1 else 0):Nat):Int))/\Below w.heap.size w w':=by
 have f:IntKind.i64.wrap (2*(a:Int))=2*(a:Int):=by rw [IntKind.wrap_i64];omega
 have g:IntKind.i64.wrap (2*(a:Int)+1)=2*(a:Int)+1:=by rw [IntKind.wrap_i64];omega
 go_enter func115,ntmps115;cases b with
 | true=>
   go_wp2_with fail;go_ret;exact ⟨fB (by simp),bR.alloc nL _⟩
 | false=>
   go_wp2_with fail;go_ret;exact ⟨fB (by simp),bR.alloc nL _⟩
theorem dX (o j:Nat) (l:List Nat) (m k:Nat) (w:World) (g:WaveAt w o j l) (K:m < l.length) (Y:l[m]=k) (U:∀y∈l,y < 257) (bT:l.length<=1000):
 Calls prog 53 #[j,(m:Int)] w fun D w'=>D=.returned (.tuple #[(k:Int),.int .i64 0])/\VB o w w':=by
 have a1:k < 257:=by rw [<-Y];exact U _ (zBj K)
 have aR:=lH l m k (zCm K) U a1;have b9:=oI k a1;have ba:=oK k;have aU:∀a,(aK l a (bC k a))[fN l m k a]?=some (fY k a):=fun a=>by have:=aBz l m a K;rw [Y] at this;exact this
 obtain ⟨aa,s,bf,v,aZ⟩:=g;have cH:=v.lt;have bO:o<=w.heap.size:=oM;have r:=(v.set 10 (.int .i64 0)).alloc (.cells #[(m:Int)] 3);rw [cM] at r;have al:=VisK.alloc (VB.set_wave v aa 0) (.cells #[(m:Int)] 3);have A:=Bk.new (w.setCell ⟨j,10,none⟩ (.int .i64 0)) 3 #[(m:Int)];rw [show (w.setCell ⟨j,10,none⟩ (.int .i64 0)).heap.size=w.heap.size by simp [World.setCell]] at A;obtain ⟨I,af⟩:=eqx l.length;rw [af] at v r K bT;have bM:=v.frozen 10;have c8:w.cell? ⟨j,10,none⟩=some (.int .i64 bf):=(v.cell 10).trans (bI s I bf).2.2.2.2.2.2.2.2.2.2;obtain ⟨t,ab⟩:=eqx ((w.setCell ⟨j,10,none⟩ (.int .i64 0)).alloc (.cells #[(m:Int)] 3));rw [ab] at r al A;obtain ⟨aF,aG,aI,aJ,aL,aM,aN,aO,aP,aQ,bE⟩:=bI s (I:Int) 0;have cf:∀c,(t.drewN c).cell? ⟨j,0,none⟩=some (s 0):=fun c=>(r.cell 0).trans aF;have cg:∀c,(t.drewN c).cell? ⟨j,1,none⟩=some (s 1):=fun c=>(r.cell 1).trans aG;have ch:∀c,(t.drewN c).cell? ⟨j,2,none⟩=some (s 2):=fun c=>(r.cell 2).trans aI;have ci:∀c,(t.drewN c).cell? ⟨j,3,none⟩=some (s 3):=fun c=>(r.cell 3).trans aJ;have cj:∀c,(t.drewN c).cell? ⟨j,4,none⟩=some (s 4):=fun c=>(r.cell 4).trans aL;have ck:∀c,(t.drewN c).cell? ⟨j,5,none⟩=some (s 5):=fun c=>(r.cell 5).trans aM;have cl:∀c,(t.drewN c).cell? ⟨j,6,none⟩=some (s 6):=fun c=>(r.cell 6).trans aN;have cn:∀c,(t.drewN c).cell? ⟨j,7,none⟩=some (s 7):=fun c=>(r.cell 7).trans aO;have co:∀c,(t.drewN c).cell? ⟨j,8,none⟩=some (s 8):=fun c=>(r.cell 8).trans aP;have aC:t.cell? ⟨j,9,none⟩=some (.int .i64 (I:Int)):=(r.cell 9).trans aQ;have aE:t.cell? ⟨w.heap.size,0,none⟩=some (.int .i64 (m:Int)):=(A.cell 0).trans rfl;have cp:∀c,(t.drewN c).cell? ⟨j,9,none⟩=some (.int .i64 (I:Int)):=fun c=>aC;have cr:∀c,(t.drewN c).cell? ⟨w.heap.size,0,none⟩=some (.int .i64 (m:Int)):=fun c=>aE;have bS:decide ((m:Int) < 0)=false:=by simp
 have cG:¬I<=m:=oM;obtain ⟨bq,ce,av,bp,bg,bw,bx,bi,c9⟩:=hqq9 al r A aZ aR b9 ba aU U;obtain ⟨ca,bh,cd,ar,cc⟩:=hqq5 af ab Y v K;clear aF aG aI aJ aL aM aN aO aP aQ bE al r A aZ aR b9 ba aU U af ab v Y K;go_enter func53,ntmps53;go_wp2_with fail;rw [bh.out];clear c8 bM;go_quiet (fail);clear aC aE bS;go_wp2_with fail;go_loopw [6,30] (fun y S wr=>∃a:Nat,a<=9/\S=.int .i64 a/\y=.int .i64 ((bC k a:Nat):Int)/\VB o w wr/\Bk wr w.heap.size 3 #[.int .i64 ((fN l m k a:Nat):Int)]/\w.heap.size < wr.heap.size) (fun _ S _=>9 -(intOf S).toNat)
 case atStart=>exact ⟨0,by omega,rfl,by rw [bw.out];rfl,bq.out.below (below_drewN bR _),by rw [bg.out];exact av.out.drewN _,av.out.lt⟩
 case round=>
  obtain ⟨a,cI,rfl,rfl,a2,A,cE⟩:=hrel;by_cases Z:a < 9
  · have bQ:=ix9 s a Z;obtain ⟨G,Q,ak⟩:=bp.out a Z;obtain ⟨ap,ae⟩:=eqx (2 ^ a);obtain ⟨b,E⟩:=eqx (bC k a);have aY:b < ap:=(by rw [<-ae,<-E];exact lY k a a1 oM);rw [ae] at Q ak;obtain ⟨a9,cq,aS,cJ,cD⟩:=World.ownsRow.form Q oM;rw [aS] at bQ Q;obtain ⟨y,a4⟩:=eqx (fN l m k a);obtain ⟨a7,ao⟩:=eqx (fN l m k (a+1));obtain ⟨q,O⟩:=eqx (fY k a);have an:=lI l m k a Z;have a5:=bi.out a;rw [E,a4,O,ao] at an;rw [E,a4,O] at a5;have b8:y < (aK l a b).length:=(zAc.1 a5).1;have b7:(aK l a b).getD y false=q:=(by rw [zAb,a5];rfl);have ag:=oJ k a Z;rw [E,O] at ag;rw [E];rw [a4] at A;have cK:(b:Int) < (ap:Int):=oM;have a0:=a2.1.own Q dC dC;obtain ⟨bc,bd,be⟩:=fF G a ap b aY;have bz:wr.cell? ⟨a9,b*3,none⟩=_:=(World.ownsRow.cellAt a0 (b*3) oM).trans bc;have bA:wr.cell? ⟨a9,b*3+1,none⟩=_:=(World.ownsRow.cellAt a0 (b*3+1) oM).trans bd;have bB:wr.cell? ⟨a9,b*3+2,none⟩=_:=(World.ownsRow.cellAt a0 (b*3+2) oM).trans be;obtain ⟨aw,bu,aB,bt,bm,T,bl,cb,bv⟩:=hqq9 A an b8 b7 ag (ak b aY) E O ao;have a8:=lhd a2;clear Q ak aS ae E a4 ao O an a5 b8 b7 ag a2 A a0 bc bd be;go_wp2_with fail;obtain ⟨M,N⟩:=eqx ((wr.alloc (.cells #[.pointer (some ⟨G b,0,none⟩),(a:Int),(b:Int)] 157)).alloc (.cells #[.bool false] 4));have J:Below wr.heap.size wr M:=(by rw [<-N];exact (bR.alloc nL _).alloc (by simp) _);have b0:Bk M wr.heap.size 157 #[.pointer (some ⟨G b,0,none⟩),(a:Int),(b:Int)]:=(by rw [<-N];exact (Bk.new wr _ _).alloc _);have aV:Bk M (wr.heap.size+1) 4 #[.bool false]:=(by rw [<-N];have g:=Bk.new (wr.alloc (.cells #[.pointer (some ⟨G b,0,none⟩),(a:Int),(b:Int)] 157)) 4 #[.bool false];rw [World.size_alloc] at g;exact g);rw [N];have b2:VB o w M:=a8.out.below J;obtain ⟨c4,b6⟩:=b2.1.waveC ar.out;have b1:=T.out.2.vis a8.out.1;have ac:=aw.out.below J aw.out.lt;refine (aG9 j (G b) w.heap.size (wr.heap.size+1) s I c4 a b _ (aK l a b) y wr M b6 b1 (Vis.of_below J) oM ac aV aB.out).mono ?_;rintro D C ⟨rfl,W,aX,V⟩;rw [bt.out] at V;have ad:=W.bk ac dC dC (fun g=>absurd (show w.heap.size=wr.heap.size+1 from g) oM);have aj:=W.bk b0 dC dC (fun g=>absurd (show wr.heap.size=wr.heap.size+1 from g) oM)
    have b3:VB o wr C:=⟨VisF.to_vis (VisF.trans (VisF.of_vis (Vis.of_below J)) W) (fun q v D=>by have:q=wr.heap.size+1:=D;omega),(Keep.of_below J).trans (aX.mono fun q _ D=>by
        rcases D with rfl | rfl | rfl;exact aa;exact T.out.1
        · omega)⟩
    have b5:=a8.out.trans b3;obtain ⟨ax,az,au,aA⟩:=hqq4 ad aj V b5;have cF:=ad.lt;have cN:=aj.lt;have cC:=V.lt;obtain ⟨aq,ai⟩:=eqx (bC k (a+1));have ah:=bm.out;rw [ai] at ah;obtain ⟨bo,bn⟩:=hqq2 ai ah;have bU:b<=1000:=(by have bN:=lY k a a1 oM;have cB:2 ^ a<=2 ^ 9:=zBp dC oM;rw [bl.out] at bN;omega);clear N J b0 aV b2 b6 b1 ac W aX V ad aj b3 b5 ai ah bz bA bB;go_wp2_with fail;refine wp_region_any kR ?_;refine cA o 8 [41,42,43,44,45,46,47,48] (fun _=>False) 7 [] (fun _=>True) (is (aq:Int)) [is j,is (.agg #[.pointer (some ⟨G b,0,none⟩),(a:Int),(b:Int)]),is (y:Int),is (.bool q),is (a7:Int),is (.agg #[.pointer (some ⟨G b,0,none⟩),(a:Int),(b:Int)]),is (.bool q),cX] _ _ rfl dC kR kR kR (trivial) (fun _ _ _ _ _=>trivial) (iI _ _) tA1 ?_ ?_
    · refine bJ ?_;refine pH3 0 (.pointer (some ⟨j,0,none⟩)) ?_;refine sC3 (fun u e d _ _ _ B _ _ _ _ n=>?_) ?_
      · replace d:VFB o (fun _=>False) C e:=fD d;have bL:u (.tmp 9)=.pointer (some ⟨wr.heap.size,0,none⟩):=B 9 kR;have H:=d.1.bk az.out dC dC (fun g=>g);have c1:e.cell? ⟨wr.heap.size,0,none⟩=some (.pointer (some ⟨G b,0,none⟩)):=(H.cell 0).trans rfl;have c2:e.cell? ⟨wr.heap.size,1,none⟩=some (.int .i64 (a:Int)):=(H.cell 1).trans rfl;have c3:e.cell? ⟨wr.heap.size,2,none⟩=some (.int .i64 (b:Int)):=(H.cell 2).trans rfl;go_simp;exact n _ _ (aH vR) rfl
      refine sC3 (fun u e d _ _ _ B _ _ _ _ n=>?_) ?_
      · replace d:VFB o (fun _=>False) C e:=fD d;have cs:u (.tmp 3)=.pointer (some ⟨w.heap.size,0,none⟩):=B 3 kR;have cO:e.cell? ⟨w.heap.size,0,none⟩=some (.int .i64 (y:Int)):=((d.1.bk ax.out dC dC (fun g=>g)).cell 0).trans rfl;go_simp;exact n _ _ (aH vR) rfl
      refine sC3 (fun u e d _ _ _ B _ _ _ _ n=>?_) ?_
      · replace d:VFB o (fun _=>False) C e:=fD d;have bF:u (.tmp 10)=.pointer (some ⟨wr.heap.size+1,0,none⟩):=B 10 kR;have bD:e.cell? ⟨wr.heap.size+1,0,none⟩=some (.bool q):=((d.1.bk au.out dC dC (fun g=>g)).cell 0).trans rfl;go_simp;exact n _ _ (aH vR) rfl
      refine sC3 (fun _ e d _ _ _ _ x _ _ _ n=>?_) ?_
      · replace d:VFB o (fun _=>False) C e:=fD d;have ct:_=_:=x 0 41 kR rfl;have cu:_=_:=x 1 42 kR rfl;have cv:_=_:=x 2 43 kR rfl;have cw:_=_:=x 3 44 kR rfl;go_simp;have L:=VFB.to_vb d (fun q _ g=>g);have b4:=aA.out.trans L;obtain ⟨c5,bZ⟩:=b4.1.waveC ar.out;have bY:=T.out.2.vis b4.1;refine (mN j (G b) s I c5 a b (aK l a b) y q e bZ bY (zCm aB.out)).mono ?_;rintro D c7 ⟨rfl,a3⟩;rw [bu.out];exact n _ _ (aH (a3.mono fun q v=>by rcases v with rfl | rfl;exact aa;exact T.out.1)) rfl
      refine sC3 (fun u e d _ _ _ B _ _ _ _ n=>?_) ?_
      · replace d:VFB o (fun _=>False) C e:=fD d;have bL:u (.tmp 9)=.pointer (some ⟨wr.heap.size,0,none⟩):=B 9 kR;have H:=d.1.bk az.out dC dC (fun g=>g);have c1:e.cell? ⟨wr.heap.size,0,none⟩=some (.pointer (some ⟨G b,0,none⟩)):=(H.cell 0).trans rfl;have c2:e.cell? ⟨wr.heap.size,1,none⟩=some (.int .i64 (a:Int)):=(H.cell 1).trans rfl;have c3:e.cell? ⟨wr.heap.size,2,none⟩=some (.int .i64 (b:Int)):=(H.cell 2).trans rfl;go_simp;exact n _ _ (aH vR) rfl
      refine sC3 (fun u e d _ _ _ B _ _ _ _ n=>?_) ?_
      · replace d:VFB o (fun _=>False) C e:=fD d;have bF:u (.tmp 10)=.pointer (some ⟨wr.heap.size+1,0,none⟩):=B 10 kR;have bD:e.cell? ⟨wr.heap.size+1,0,none⟩=some (.bool q):=((d.1.bk au.out dC dC (fun g=>g)).cell 0).trans rfl;go_simp;exact n _ _ (aH vR) rfl
      refine sC3 (fun _ e _ _ _ _ _ x _ _ _ n=>?_) ?_
      · have cx:_=_:=x 5 46 kR rfl;have cy:_=_:=x 6 47 kR rfl;go_simp;refine (aDF (G b) a b q e bU).mono ?_;rintro D c7 ⟨rfl,bP⟩;rw [<-bn.out];exact n _ _ (aH (VisK.of_below bP)) rfl
      exact aD
    · intro u a6 z d x aT;replace d:VFB o (fun _=>False) C a6:=fD d;have bH:u (.tmp 45)=.int .i64 (a7:Int):=x 4 45 dC rfl;have bK:u (.tmp 48)=.int .i64 (aq:Int):=x 7 48 dC rfl;obtain ⟨c6,bb⟩:=aT 7 dC;have c0:(is (aq:Int)) c6 a6:=bb;clear bb aT;simp only [zqq];rw [bH];rw [bK];clear x;have L:=VFB.to_vb d (fun q _ g=>g);have X:=L.1.bk ax.out dC dC;have cm:=X.cell 0;have cz:=X.frozen 0;have cL:=L.1.size;obtain ⟨bs,bj⟩:=hqq2 L X;clear L X d c0;change wpAny prog Region.Mode.any _ _ (2+z) (bX 8 10) _ a6;rw [show 2+z=z+1+1 by omega];refine bG (f:=z+1) (i:=8) kR ?_;refine bV rfl rfl ?_;generalize n:wpAny prog _ _ _ (z+1) _=K5;go_simp;subst n;refine bG (f:=z) (i:=9) kR ?_;refine bV rfl rfl ?_;generalize n:wpAny prog _ _ _ z _=K5;go_simp;subst n;refine bW kR ?_;have aW:=bj.out.set 0 (.int .i64 (a7:Int));have am:=aA.out.trans bs.out;have a3:VB o w (a6.setCell ⟨w.heap.size,0,none⟩ (.int .i64 (a7:Int))):=⟨Vis.fresh am.1 (p:=⟨w.heap.size,0,none⟩) nL _,Keep.setCell (F:=fun q=>o<=q) am.2 (p:=⟨w.heap.size,0,none⟩) (.inl bO) _⟩;obtain ⟨br,ay⟩:=hqq2 a3 aW;clear am a3 aW;go_wp2_with fail;go_roundw
      case rel=>exact ⟨a+1,by omega,by go_num,by rw [bo.out],br.out,by rw [bv.out];exact ay.out,ay.out.lt⟩
      case measure=>simp [intOf];omega
  · obtain rfl:a=9:=oM;rw [bx.out];go_wp2_with fail;go_ret2;exact ⟨rfl,a2⟩
theorem PermAt.vis {w w':World} {c gp f:Nat} {k l m j:Value} {R P:Nat} {g:List Nat} {d:List (Nat×Nat)} {i:List Bool} {e:List Nat} (a:PermAt w c gp f k l m j R P g d i e) (b:Vis w w'):PermAt w' c gp f k l m j R P g d i e:=
 ⟨b.bk a.blk dC dC,b.own a.lrow dC dC,b.own a.orow dC dC,b.bk a.ar dC dC,b.own a.trow dC dC,b.own a.frow dC dC,a.apart,a.lt,a.lo⟩
theorem LiveAt.vis {w w':World} {d i gk gp g:Nat} {m n o:Value} {c j k:Nat} {f:List Nat} {e:List (Nat×Nat)} {l:List Bool} (a:LiveAt w d i gk gp g m n o c j k f e l) (b:Vis w w'):LiveAt w' d i gk gp g m n o c j k f e l:=
 ⟨b.bk a.blk dC dC,a.walk.vis b,a.perm.vis b⟩
theorem aHK (f:List Nat) (e d a c:Nat):(a,c)∈cT f e d↔a < d/\f.getD a 0=c/\c % e=0:=by
 unfold cT;rw [zAy];constructor;rintro ⟨k,b,g⟩;rw [zCv,zCj] at b;cases g;exact ⟨b.1,rfl,by simpa using b.2⟩;rintro ⟨i,rfl,j⟩;exact ⟨a,zCv.2 ⟨zCj.2 i,by simpa using j⟩,rfl⟩
theorem aA9 (a:List (Nat×Nat)) (f:a.Pairwise (fun b c=>b.1 < c.1)):(List.range a.length).Pairwise (fun b c=>aB a b < aB a c):=by
 rw [zAr];intro i j d e g;rw [zCi] at d e;rw [List.getElem_range,List.getElem_range];have:=zAr.1 f i j d e g;unfold aB;rw [zAb,zAb,zAa d,zAa e];exact this
theorem aHL (c:List Nat) (b a:Nat):(cT c b a).length<=a:=by
 unfold cT;rw [zBc];exact zAk (zCu _ _) (by simp)
theorem xW (J e:Nat) (own:Nat->Nat) (d:List Nat) (i k:Nat) (w:World) (n:WaveE w J own e d) (aE:d[i]?=some k) (ac:∀o∈d,o < 257) (cH:d.length<=128):
 Calls prog 154 #[e,(i:Int)] w fun q w'=>q=.returned (.tuple #[(k:Int),.int .i64 0])/\∃aU,WaveE w' J aU e (aG d i)/\(∀a,a < w.heap.size->aU a=own a)/\(∀a,w.heap.size<=a->aU a≠1)/\Keep (fun a=>a=e∨16<=own a) w w':=by
 obtain ⟨O,aF⟩:=zAc.1 aE;have aO:k < 257:=by rw [<-aF];exact ac _ (zBj O)
 have bj:=lH d i k (zCm O) ac aO;have bO:=oI k aO;have bP:=oK k;have bo:∀b,(aK d b (bC k b))[fN d i k b]?=some (fY k b):=fun b=>by have:=aBz d i b O;rw [aF] at this;exact this
 obtain ⟨m,dI,n⟩:=n;obtain ⟨r,ag⟩:=eqx d.length;rw [ag] at n O cH;have bB:(aG d i).length+1=r:=by rw [cW _ oM,ag]
 obtain ⟨cv,cu,cs⟩:=n.cells;have cx:=n.blk.frozen 10;have cF:=n.blk.lt;have dl:J<=w.heap.size:=zAk n.base.1 (zCm cF);obtain ⟨bU,L⟩:=n.vis ((VisK.alloc (VB.set_wave n.blk n.base.1 0) (.cells #[(i:Int)] 3)).1);have cB:e≠w.heap.size:=oM;have N:=Bk.new (w.setCell ⟨e,10,none⟩ (.int .i64 0)) 3 #[(i:Int)];rw [show (w.setCell ⟨e,10,none⟩ (.int .i64 0)).heap.size=w.heap.size by simp [World.setCell]] at N;have aD:Keep (fun a=>a=e∨16<=own a) w ((w.setCell ⟨e,10,none⟩ (.int .i64 0)).alloc (.cells #[(i:Int)] 3)):=(Keep.setCell (F:=fun a=>a=e∨16<=own a) (Keep.refl _ _) (p:=⟨e,10,none⟩) (.inl (.inl rfl)) _).alloc _;obtain ⟨s,au⟩:=eqx ((w.setCell ⟨e,10,none⟩ (.int .i64 0)).alloc (.cells #[(i:Int)] 3));rw [au] at L N aD;obtain ⟨u,ba,ct⟩:=L.cells;have d7:∀f,(s.drewN f).cell? ⟨e,0,none⟩=some (m 0):=fun f=>u 0 oM;have I:∀f,(s.drewN f).cell? ⟨e,1,none⟩=some (m 1):=fun f=>u 1 oM;have ap:∀f,(s.drewN f).cell? ⟨e,2,none⟩=some (m 2):=fun f=>u 2 oM;have d8:∀f,(s.drewN f).cell? ⟨e,3,none⟩=some (m 3):=fun f=>u 3 oM;have d9:∀f,(s.drewN f).cell? ⟨e,4,none⟩=some (m 4):=fun f=>u 4 oM;have da:∀f,(s.drewN f).cell? ⟨e,5,none⟩=some (m 5):=fun f=>u 5 oM;have db:∀f,(s.drewN f).cell? ⟨e,6,none⟩=some (m 6):=fun f=>u 6 oM;have dc:∀f,(s.drewN f).cell? ⟨e,7,none⟩=some (m 7):=fun f=>u 7 oM;have dd:∀f,(s.drewN f).cell? ⟨e,8,none⟩=some (m 8):=fun f=>u 8 oM;have bb:s.cell? ⟨e,9,none⟩=some (.int .i64 (r:Int)):=ba;have bc:s.cell? ⟨w.heap.size,0,none⟩=some (.int .i64 (i:Int)):=(N.cell 0).trans rfl;have cE:decide ((i:Int) < 0)=false:=by simp
 have dy:¬r<=i:=oM;have dn:=L.blk.lt;have dm:=N.lt;obtain ⟨aV,c9,ce,bW,d0,bZ,cd,c1,d3⟩:=hqq9 L N aD bj ac ag bB au O;obtain ⟨d1,bt,cp,cq,c2,b3⟩:=hqq6 n.base n.bnd bO bP bo aE;have de:∀f,(s.drewN f).cell? ⟨e,9,none⟩=some (.int .i64 (r:Int)):=fun f=>bb;have df:∀f,(s.drewN f).cell? ⟨w.heap.size,0,none⟩=some (.int .i64 (i:Int)):=fun f=>bc;clear n L N aD bj ac ag bB au cv u ba ct O bO bP bo aE aF;go_enter func154,ntmps154;go_wp2_with fail;rw [c1.out];clear cs cx cu;go_quiet (fail);clear bb bc cE;go_wp2_with fail;go_loopw [6,31] (fun cY aR wr=>∃(b:Nat) (j:Nat->Nat) (T:Int),b<=9/\aR=.int .i64 b/\cY=.int .i64 ((bC k b:Nat):Int)/\WaveS wr J j e m (fun t=>if t < b then aG d i else d) (r:Int) T/\Bk wr w.heap.size 3 #[.int .i64 ((fN d i k b:Nat):Int)]/\(∀a,a < w.heap.size->j a=own a)/\(∀a,w.heap.size<=a->j a≠1)/\j w.heap.size=0/\Keep (fun a=>a=e∨16<=own a) w wr) (fun _ aR _=>9 -(intOf aR).toNat)
 case atStart=>refine ⟨0,own,bU,by omega,rfl,by rw [cp.out];rfl,?_,?_,fun _ _=>rfl,fun a y q=>?_,?_,?_⟩;obtain ⟨bV,bi⟩:=aV.out.vis (Vis.of_below (below_drewN bR _));have:bV=bU:=(by have an:=bi.cells.2.2;have ao:=aV.out.cells.2.2;have V:=ao.symm.trans an;injection V with V;injection V with _ V;exact V.symm);subst this;simpa using bi;rw [bW.out];exact c9.out.drewN _;have:=(bt.out a oM).2;omega;rcases zBa (own w.heap.size) with q | q;exact q;have:=(bt.out w.heap.size oM).2;omega;exact ce.out.drewN _
 case round=>
  obtain ⟨b,j,T,dz,rfl,rfl,A,ad,ah,ai,aI,ae⟩:=hrel;by_cases Q:b < 9
  · have cD:=ix9 m b Q;obtain ⟨G,v,cI,aP⟩:=A.rows b Q;obtain ⟨aT,af⟩:=eqx (2 ^ b);obtain ⟨c,x⟩:=eqx (bC k b);have aJ:c < aT:=(by rw [<-af,<-x];exact lY k b aO oM);have bH:c < 2 ^ b:=(by rw [af];exact aJ);have cA:=lhd v;rw [af] at v aP;obtain ⟨ar,aq,bn,dA,dx⟩:=World.ownsRow.form v oM;rw [bn] at cD v;obtain ⟨o,a4⟩:=eqx (fN d i k b);obtain ⟨l,B⟩:=eqx (fN d i k (b+1));obtain ⟨a,a0⟩:=eqx (fY k b);have aQ:=lI d i k b Q;have ak:=c2.out b;have aw:=aEZ b b3.out;have ax:=fun f=>zI b f b3.out;have aj:=oJ k b Q;rw [x,a4,a0,B] at aQ;rw [x,a4,a0] at ak;rw [x,a4] at aw;rw [x] at ax;rw [x,a0] at aj;have bN:o < (aK d b c).length:=(zAc.1 ak).1;have bM:(aK d b c).getD o false=a:=(by rw [zAb,ak];rfl);rw [a4] at ad;rw [x];obtain ⟨cM,aL⟩:=eqx (bC k (b+1));rw [aL] at aj;have cJ:c<=1000:=(by have:=aKx Q bH;omega);have bL:TreeE wr (fun a=>j a=TC b c) (G c) (aK d b c):=(by have:=aP c aJ;rw [zBw oM] at this;exact this);have dE:(c:Int) < (aT:Int):=oM;obtain ⟨d5,b8,cn,a9,c6,c7,cm,ci,cj⟩:=hqq9 v bL aQ bN aw ax bM aj aL;obtain ⟨d6,d2,co,a8,a7,U,am,b5,b2⟩:=hqq9 x a0 B A ad ah ai aI ae;clear aP bn af x a4 B a0 aQ bN ak aw ax bM aj aL A ad ah ai aI ae bL cI;obtain ⟨bQ,bS,bT⟩:=fF G b aT c aJ;have cr:wr.cell? ⟨ar,c*3,none⟩=_:=(World.ownsRow.cellAt v (c*3) oM).trans bQ;have an:wr.cell? ⟨ar,c*3+1,none⟩=_:=(World.ownsRow.cellAt v (c*3+1) oM).trans bS;have ao:wr.cell? ⟨ar,c*3+2,none⟩=_:=(World.ownsRow.cellAt v (c*3+2) oM).trans bT;have cL:wr.cell? ⟨w.heap.size,0,none⟩=some (.int .i64 (o:Int)):=(a7.out.cell 0).trans rfl;have dw:=a7.out.lt;clear bQ bS bT v;go_wp2_with fail;obtain ⟨aa,X⟩:=eqx ((wr.alloc (.cells #[.pointer (some ⟨G c,0,none⟩),(b:Int),(c:Int)] 157)).alloc (.cells #[.bool false] 4));have br:Below wr.heap.size wr aa:=(by rw [<-X];exact (bR.alloc nL _).alloc (by simp) _);have bq:Bk aa wr.heap.size 157 #[.pointer (some ⟨G c,0,none⟩),(b:Int),(c:Int)]:=(by rw [<-X];exact (Bk.new wr _ _).alloc _);have bp:Bk aa (wr.heap.size+1) 4 #[.bool false]:=(by rw [<-X];have n:=Bk.new (wr.alloc (.cells #[.pointer (some ⟨G c,0,none⟩),(b:Int),(c:Int)] 157)) 4 #[.bool false];rw [World.size_alloc] at n;exact n);rw [X];obtain ⟨c4,c3,K⟩:=hqq3 bq bp br;clear bq bp br X cr an ao cL;obtain ⟨cO,bg⟩:=a8.out.vis (Vis.of_below K.out);have bx:=a7.out.below K.out a7.out.lt;have bI:=b8.out.below K.out;have bA:=a8.out.base.2;have bu:=a8.out.bnd;have dG:=K.out.size;have cC:=a8.out.blk.lt;obtain ⟨aW,cb,b7,cc,aY⟩:=hqq5 bg bx bI bA bu;clear bg bx bI bA bu;refine (mN e (G c) m r cO b c (aK d b c) o true aa aW.out.blk b7.out.at (zCm a9.out)).mono ?_;rintro q D ⟨rfl,z⟩;obtain ⟨S,aH⟩:=eqx (((aK d b c).take o).count true);have bG:(if a then S else o - S)=l:=(by have L:=qI ((aK d b c).take o);have cy:((aK d b c).take o).length=o:=(by rw [zAj];have:=a9.out;omega);have cz:=cn.out;cases a;simp;omega;simp;omega);have dB:S<=o:=(by rw [<-aH];exact zAk zBv (by rw [zAj];omega));rw [aH];obtain ⟨cP,bh⟩:=aW.out.vis z.1;have bJ:=b7.out.vis z.1;have aC:=z.1.bk cb.out dC dC;have M:=z.1.bk c4.out dC dC;have av:=z.1.bk c3.out dC dC;have dH:=z.1.size;have cQ:D.cell? ⟨wr.heap.size,0,none⟩=some (.pointer (some ⟨G c,0,none⟩)):=(M.cell 0).trans rfl;have cR:D.cell? ⟨wr.heap.size,1,none⟩=some (.int .i64 (b:Int)):=(M.cell 1).trans rfl;have cS:D.cell? ⟨wr.heap.size,2,none⟩=some (.int .i64 (c:Int)):=(M.cell 2).trans rfl;have ds:=M.lt;have dq:=av.lt;have dv:=aC.lt;have cG:∀(bd:Fn) (first aq:Array Value) (w:World),(Instr.makeFunc bd first aq).run prog w=.ok (.func bd first aq) w:=fun _ _ _ _=>rfl;obtain ⟨b4,al,cl,b0,c5,aX,b9⟩:=hqq7 bG bh bJ aC M av z;clear aH bG bh bJ aC M av z;go_wp2_with fail;have a6:∀l,wr.heap.size<=l->¬(j l=TC b c):=fun l B g=>by have:=(aY.out l (by rw [g];unfold TC;omega)).2;omega
    refine (aHa e (G c) w.heap.size (wr.heap.size+1) m r cP b c _ (fun a=>j a=TC b c) (aK d b c) o D al.out.blk cl.out (fun g=>by rw [cc.out] at g;unfold TC at g;omega) (a6 _ oM) (fun l B=>(al.out.bnd l (by rw [B];unfold TC;omega)).2) b0.out aX.out (fun l B q=>a6 l oM B) a9.out).mono ?_;rintro q E ⟨rfl,bK,a3,a1,bV,bs⟩;rw [cm.out] at a1
    have aB:=al.out.edit (lv:=b) (p:=c) (gx:=wr.heap.size+1) Q bH (aA (aS cA.out K.out) fun a cw _ az=>b9.out.1.bk az dC dC) (by
        rcases zBa (j (wr.heap.size+1)) with q | q;omega
        · have:=(aY.out _ (by omega:j (wr.heap.size+1)≠0)).2;omega) (fun cw az=>absurd (aM az aX.out).1 dC) bK a3 bs (L':=aG d i) c6.out (fun f cK=>by rw [zBw (zCl _)];exact c7.out f (fun q=>cK q.symm))
    have bv:(fun t=>if t=b then aG d i else if t < b then aG d i else d)=fun t=>if t < b+1 then aG d i else d:=by
        funext t;by_cases I:t=b
        · rw [zBx I,zBx oM]
        · by_cases ap:t < b
          · rw [zBw I,zBx ap,zBx oM]
          · rw [zBw I,zBw ap,zBw oM]
    rw [bv] at aB
    have bz:=a3.bk b0.out (fun g=>by
        rcases g with g | g | g;have ab:j w.heap.size=TC b c:=g;rw [b5.out] at ab;unfold TC at ab;omega;exact cB g.symm
        · omega)
    have Z:=a3.bk c5.out (fun g=>by
        rcases g with g | g | g;exact a6 _ nL g;omega
        · omega)
    have cT:E.cell? ⟨wr.heap.size,0,none⟩=some (.pointer (some ⟨G c,0,none⟩)):=(Z.cell 0).trans rfl;have cU:E.cell? ⟨wr.heap.size,1,none⟩=some (.int .i64 (b:Int)):=(Z.cell 1).trans rfl;have cV:E.cell? ⟨wr.heap.size,2,none⟩=some (.int .i64 (c:Int)):=(Z.cell 2).trans rfl;have cX:E.cell? ⟨wr.heap.size+1,0,none⟩=some (.bool a):=(a1.cell 0).trans rfl;have dt:=Z.lt;have dr:=a1.lt;have bl:j (G c)=TC b c:=b8.out.1;obtain ⟨c8,cf,b1,aZ,bY,d4⟩:=hqq6 aB a3 bz a1 bl a6;clear bK a3 bs aB bv bz Z a1 cQ cR cS cG bl a6;go_wp2_with fail;refine (aDF (G c) b c a E cJ).mono ?_;rintro q C ⟨rfl,Y⟩;rw [<-ci.out];obtain ⟨cN,be⟩:=c8.out.vis (Vis.of_below Y);have a2:=b1.out.below Y b1.out.lt;have ay:=aZ.out.below Y aZ.out.lt;have dK:C.cell? ⟨wr.heap.size+1,0,none⟩=some (.bool a):=(ay.cell 0).trans rfl;have dL:C.cell? ⟨w.heap.size,0,none⟩=some (.int .i64 (o:Int)):=(a2.cell 0).trans rfl;have dj:=a2.frozen 0;have du:=a2.lt;have dp:=ay.lt;have bw:=a2.set 0 (.int .i64 (l:Int));have aN:cZ j D.heap.size E.heap.size (TC b c) w.heap.size=0:=(by unfold cZ;rw [zBx oM];exact b5.out);have bf:=be.far (w':=C.setCell ⟨w.heap.size,0,none⟩ (.int .i64 (l:Int))) (H:=fun a=>a=w.heap.size) (Keep.setCell (F:=fun a=>a=w.heap.size) (Keep.refl _ _) (p:=⟨w.heap.size,0,none⟩) (.inl rfl) _) (fun a q=>by rw [show a=w.heap.size from q,aN];omega);have dF:=b2.out.size
    have bD:Keep (fun a=>a=e∨16<=own a) w (C.setCell ⟨w.heap.size,0,none⟩ (.int .i64 (l:Int))):=Keep.setCell (F:=fun a=>a=e∨16<=own a) ((((b2.out.trans (Keep.of_below K.out)).trans' b9.out.2 (fun a y g=>by
        rcases g with g | g;exact .inl g
        · right;rw [<-U.out a y,g,bY.out];unfold TC;omega)).trans' cf.out (fun a y g=>by
        rcases g with g | g | g;right;have ab:j a=TC b c:=g;rw [<-U.out a y,ab];unfold TC;omega;exact .inl g
        · omega)).trans (Keep.of_below Y)) (p:=⟨w.heap.size,0,none⟩) (.inr nL) _
    obtain ⟨bX,ca,cg,ck⟩:=hqq4 bf bw bD aN;clear Y be a2 ay bw bf bD aN cT cU cV cX
    have hrel:∃(a5:Nat) (j:Nat->Nat) (T:Int),a5<=9/\Value.int .i64 ((b+1:Nat):Int)=.int .i64 a5/\Value.int .i64 (cM:Int)=.int .i64 ((bC k a5:Nat):Int)/\WaveS (C.setCell ⟨w.heap.size,0,none⟩ (.int .i64 (l:Int))) J j e m (fun t=>if t < a5 then aG d i else d) (r:Int) T/\Bk (C.setCell ⟨w.heap.size,0,none⟩ (.int .i64 (l:Int))) w.heap.size 3 #[.int .i64 ((fN d i k a5:Nat):Int)]/\(∀a,a < w.heap.size->j a=own a)/\(∀a,w.heap.size<=a->j a≠1)/\j w.heap.size=0/\Keep (fun a=>a=e∨16<=own a) w (C.setCell ⟨w.heap.size,0,none⟩ (.int .i64 (l:Int))):=by
        refine ⟨b+1,cZ j D.heap.size E.heap.size (TC b c),cN,by omega,rfl,by rw [cj.out],bX.out,?_,fun a y=>?_,fun a y=>?_,ck.out,cg.out⟩;rw [co.out];exact ca.out;unfold cZ;rw [zBx oM];exact U.out a y
        · unfold cZ;by_cases I:a < D.heap.size;rw [zBx I];exact am.out a y
          · rw [zBw I];unfold TC;split <;> omega
    have b6:=lhd hrel;clear hrel;cases a with
    | true=>
      obtain rfl:S=l:=(by have:=b4.out;simpa using this);go_wp2_with fail;go_roundw
      case rel=>exact b6.out
      case measure=>simp [intOf];omega
    | false=>
      have dD:o - S=l:=(by have:=b4.out;simpa using this);have dh:IntKind.i64.wrap ((o:Int) -(S:Int))=(l:Int):=(by have cy:=a9.out;have cz:(aK d b c).length<=d.length:=(by rw [iW];exact zBh);have dk:=bZ.out;rw [IntKind.wrap_i64];omega);go_wp2_with fail;go_roundw
      case rel=>exact b6.out
      case measure=>simp [intOf];omega
  · obtain rfl:b=9:=oM;have W:WaveS wr J j e m (fun _=>aG d i) (r:Int) T:=⟨A.blk,A.base,fun t bF=>by have:=A.rows t bF;simpa [bF] using this,A.bnd⟩;obtain ⟨_,dJ,_⟩:=W.cells;have di:=W.blk.frozen 9;have cC:=W.blk.lt;have bm:=W.set_n ((r:Int) - 1);have dg:IntKind.i64.wrap ((r:Int) - 1)=(r:Int) - 1:=(by rw [IntKind.wrap_i64];omega);have bE:Keep (fun a=>a=e∨16<=own a) w (wr.setCell ⟨e,9,none⟩ (.int .i64 ((r:Int) - 1))):=Keep.setCell (F:=fun a=>a=e∨16<=own a) ae (p:=⟨e,9,none⟩) (.inl (.inl rfl)) _;rw [cq.out];obtain ⟨c0,ch,U,am⟩:=hqq4 bm bE ah ai;clear A W bm ae bE ad ah ai aI;go_wp2_with fail;go_ret2;refine ⟨rfl,j,⟨m,T,?_⟩,U.out,am.out,ch.out⟩;rw [show (((aG d i).length:Nat):Int)=(r:Int) - 1 by have:=cd.out;omega];exact c0.out
theorem kK (a:List (Nat×Nat)) (c e:Nat) (q:c < a.length):(bU a).set (c*2) (.int .i64 (e:Int))=bU (a.set c (e,aI a c)):=by
 apply List.ext_getElem?;intro b;have r:=dB a;have o:=dB (a.set c (e,aI a c));rw [zAt] at o;rw [zBm];by_cases p:b < a.length*2
 · have f:b / 2 < a.length:=oM;obtain ⟨k,l⟩:=cG a (b / 2) f;obtain ⟨i,j⟩:=cG (a.set c (e,aI a c)) (b / 2) (by rw [zAt];exact f);have n:aB (a.set c (e,aI a c)) (b / 2)=if c=b / 2 then e else aB a (b / 2):=by
    unfold aB;rw [zAb,zBm,zAb];by_cases d:c=b / 2
    · simp [d,f]
    · simp [d]
   have m:aI (a.set c (e,aI a c)) (b / 2)=aI a (b / 2):=by
    unfold aI;rw [zAb,zBm,zAb,zAb];by_cases d:c=b / 2
    · subst d;simp [f]
    · simp [d]
   rw [n] at i;rw [m] at j;by_cases s:b % 2=0
   · have g:b / 2*2=b:=oM;rw [g] at k i;rw [i];by_cases d:c*2=b
     · rw [zBx d,zBx oM,zBx oM]
     · rw [zBw d,k,zBw oM]
   · have g:b / 2*2+1=b:=oM;rw [g] at l j;rw [j,zBw oM,l]
 · rw [zBw oM,zBg oM,zBg oM]
theorem nK (a:List (Nat×Nat)) (c e:Nat) (q:c < a.length):(bU a).set (c*2+1) (.int .i64 (e:Int))=bU (a.set c (aB a c,e)):=by
 apply List.ext_getElem?;intro b;have r:=dB a;have o:=dB (a.set c (aB a c,e));rw [zAt] at o;rw [zBm];by_cases p:b < a.length*2
 · have f:b / 2 < a.length:=oM;obtain ⟨k,l⟩:=cG a (b / 2) f;obtain ⟨i,j⟩:=cG (a.set c (aB a c,e)) (b / 2) (by rw [zAt];exact f);have n:aB (a.set c (aB a c,e)) (b / 2)=aB a (b / 2):=by
    unfold aB;rw [zAb,zBm,zAb,zAb];by_cases d:c=b / 2
    · subst d;simp [f]
    · simp [d]
   have m:aI (a.set c (aB a c,e)) (b / 2)=if c=b / 2 then e else aI a (b / 2):=by
    unfold aI;rw [zAb,zBm,zAb];by_cases d:c=b / 2
    · simp [d,f]
    · simp [d]
   rw [n] at i;rw [m] at j;by_cases s:b % 2=0
   · have g:b / 2*2=b:=oM;rw [g] at k i;rw [i,zBw oM,k]
   · have g:b / 2*2+1=b:=oM;rw [g] at l j;rw [j];by_cases d:c*2+1=b
     · rw [zBx d,zBx oM,zBx oM]
     · rw [zBw d,l,zBw oM]
 · rw [zBw oM,zBg oM,zBg oM]
theorem dK {a:Int} (b:-9223372036854775808<=a) (c:a<=9223372036854775807):wrap64 a=a:=by unfold wrap64;omega
theorem rI {w w':World} {a d e:Nat} {b:TypeId} {f:Value} {g:List Value} (i:w.ownsRow a b e f d g) (j:w'.heap=w.heap):w'.ownsRow a b e f d g:=aA i fun k l _ c=>by unfold Bk at c⊢;rw [j];exact c
theorem lD (a:List (Nat×Nat)) (b:Nat) (d:b < a.length):a.set b (aB a b,aI a b)=a:=by
 have c:(aB a b,aI a b)=a[b]:=by unfold aB aI;rw [zAb,zAa d];rfl
 rw [c,List.set_getElem_self]
def mvR (a c b:Nat):Nat:=if b=a then c else inR (aW b a) c
theorem aE8 (u e g x m d a:Nat) (b:List (Nat×Nat)) (w:World) (f:w.ownsRow u 170 2 (.slice (some ⟨e,0,none⟩) g x) g (bU b)) (i:a < b.length) (t:Bk w m 3 #[(d:Int)]) (J:aB b a<=1000000000000):
 Calls prog 119 #[.pointer (some ⟨e,a*2,none⟩),m] w fun H w'=>H=.returned (.tuple #[])/\w'.ownsRow u 170 2 (.slice (some ⟨e,0,none⟩) g x) g (bU (b.set a (inR (aB b a) d,aI b a)))/\Keep (fun k=>k=e) w w':=by
 obtain ⟨y,z⟩:=cG b a i;have K:b.length=g:=by have I:=f.1;rw [dB] at I;omega
 have D:=(World.ownsRow.cellAt f (a*2) oM).trans y;have E:=(World.ownsRow.cellAt f (a*2+1) oM).trans z;have W:w.cell? ⟨m,0,none⟩=some (.int .i64 (d:Int)):=(t.cell 0).trans rfl;obtain ⟨O,n⟩:=fI f;have S:=n.frozen (a*2);have T:=n.lt;have U:=t.lt;have j:=lD b a i;have s:=fun M=>kK b a M i;obtain ⟨c,r⟩:=eqx (aB b a);obtain ⟨L,q⟩:=eqx (aI b a);rw [r] at D j J;rw [q] at E j s;rw [r,q];obtain ⟨v,B,C⟩:=hqq3 f j s;clear f i t y z n j s K r q;by_cases V:d<=c
 · have N:decide ((c:Int)>=(d:Int))=true:=zBz oM;have Q:wrap64 ((c:Int)+1)=((c+1:Nat):Int):=(by unfold wrap64;omega);have o:=(World.ownsRow.stored v.out (a*2) (.int .i64 ((c+1:Nat):Int))).1;rw [C.out] at o;have A:=lhd o;clear o;go_enter func119,ntmps119;go_wp2_with fail;go_quiet (fail);go_wp2_with fail;go_end0;refine ⟨rfl,?_,Keep.setCell (F:=fun k=>k=e) ((Keep.refl _ _).drewN _) (p:=⟨e,a*2,none⟩) (.inl rfl) _⟩;have l:inR (c) d=c+1:=(by unfold inR;rw [zBx oM]);rw [l];exact A.out
 · have N:decide ((c:Int)>=(d:Int))=false:=zBy oM;go_enter func119,ntmps119;go_wp2_with fail;go_quiet (fail);go_wp2_with fail;go_end0;refine ⟨rfl,?_,(Keep.refl _ _).drewN _⟩;have l:inR (c) d=c:=(by unfold inR;rw [zBw oM]);rw [l,B.out];exact v.out
theorem aFe (u e g x m d a:Nat) (b:List (Nat×Nat)) (w:World) (f:w.ownsRow u 170 2 (.slice (some ⟨e,0,none⟩) g x) g (bU b)) (i:a < b.length) (t:Bk w m 3 #[(d:Int)]) (J:aI b a<=1000000000000):
 Calls prog 120 #[.pointer (some ⟨e,a*2,none⟩),m] w fun H w'=>H=.returned (.tuple #[])/\w'.ownsRow u 170 2 (.slice (some ⟨e,0,none⟩) g x) g (bU (b.set a (aB b a,inR (aI b a) d)))/\Keep (fun k=>k=e) w w':=by
 obtain ⟨y,z⟩:=cG b a i;have K:b.length=g:=by have I:=f.1;rw [dB] at I;omega
 have D:=(World.ownsRow.cellAt f (a*2) oM).trans y;have E:=(World.ownsRow.cellAt f (a*2+1) oM).trans z;have W:w.cell? ⟨m,0,none⟩=some (.int .i64 (d:Int)):=(t.cell 0).trans rfl;obtain ⟨N,n⟩:=fI f;have Q:=n.frozen (a*2+1);have S:=n.lt;have T:=t.lt;have j:=lD b a i;have s:=fun L=>nK b a L i;obtain ⟨V,r⟩:=eqx (aB b a);obtain ⟨c,q⟩:=eqx (aI b a);rw [r] at D j s;rw [q] at E j J;rw [r,q];obtain ⟨v,B,C⟩:=hqq3 f j s;clear f i t y z n j s K r q;by_cases U:d<=c
 · have M:decide ((c:Int)>=(d:Int))=true:=zBz oM;have O:wrap64 ((c:Int)+1)=((c+1:Nat):Int):=(by unfold wrap64;omega);have o:=(World.ownsRow.stored v.out (a*2+1) (.int .i64 ((c+1:Nat):Int))).1;rw [C.out] at o;have A:=lhd o;clear o;go_enter func120,ntmps120;go_wp2_with fail;go_quiet (fail);go_wp2_with fail;go_end0;refine ⟨rfl,?_,Keep.setCell (F:=fun k=>k=e) ((Keep.refl _ _).drewN _) (p:=⟨e,a*2+1,none⟩) (.inl rfl) _⟩;have l:inR (c) d=c+1:=(by unfold inR;rw [zBx oM]);rw [l];exact A.out
 · have M:decide ((c:Int)>=(d:Int))=false:=zBy oM;go_enter func120,ntmps120;go_wp2_with fail;go_quiet (fail);go_wp2_with fail;go_end0;refine ⟨rfl,?_,(Keep.refl _ _).drewN _⟩;have l:inR (c) d=c:=(by unfold inR;rw [zBw oM]);rw [l,B.out];exact v.out
theorem aAe (r gp v O o:Nat) (l I J H:Value) (R P:Nat) (c:List Nat) (f:List (Nat×Nat)) (E:List Bool) (u:List Nat) (w:World) (x:PermAt w r gp v l I J H R P c f E u) (B:c.Nodup) (aL:c.length<=1000000) (aO:Bk w O 3 #[(o:Int)]) (aK:∀d,l.ownBlock=some d->d≠O) (af:∀a,a∈c->aB f a<=1000000000000/\aI f a<=1000000000000):
 Calls prog 118 #[gp,.func (.func 119) #[] #[O]] w fun j w'=>j=.returned (.tuple #[])/\Keep (fun d=>l.ownBlock=some d) w w'/\∃K,K.length=f.length/\(∀a,a∈c->(aB K a,aI K a)=(inR (aB f a) o,aI f a))/\PermAt w' r gp v l I J H R P c K E u:=by
 obtain ⟨am,az,a6,_,_⟩:=aR x.orow;have aC:w.cell? ⟨gp,2,none⟩=some (.slice am c.length az):=(x.blk.cell 2).trans (by rw [a6];rfl);have aW:=x.blk.lt;obtain ⟨D,a5⟩:=eqx c.length;rw [a5] at aC aL;obtain ⟨an,Y,ay,aw,ao⟩:=hqq5 x a5 a6 B af;clear x a5 a6 B af;go_enter func118,ntmps118;go_wp2_with fail;go_loopw [11] (fun a7 wr=>∃(g:Nat) (b:List (Nat×Nat)),g<=D/\a7=.int .i64 (g:Int)/\b.length=f.length/\(∀a,a∈c.take g->(aB b a,aI b a)=(inR (aB f a) o,aI f a))/\(∀a,a∈c.drop g->(aB b a,aI b a)=(aB f a,aI f a))/\PermAt wr r gp v l I J H R P c b E u/\Keep (fun d=>l.ownBlock=some d) w wr) (fun a7 _=>D -(intOf a7).toNat)
 case atStart=>exact ⟨0,f,zAp _,rfl,rfl,fun a n=>by simp at n,fun a _=>rfl,an.out,Keep.refl _ _⟩
 case round=>
  obtain ⟨g,b,aY,rfl,a4,S,T,e,n⟩:=hrel;by_cases ak:g < D
  · have y:g < c.length:=(by rw [Y.out];exact ak);obtain ⟨a,z⟩:∃a,c[g]?=some a:=⟨_,zAa y⟩;have a3:=zAd z;have a2:a < b.length:=e.lt a a3;have U:=e.orow;rw [ay.out] at U;obtain ⟨aF,b1,aE,_,aV⟩:=World.ownsRow.form U oM;injection aE with e2a _ e2c;subst e2a e2c;have A:=e.lrow;obtain ⟨N,al,M,_,aU⟩:=World.ownsRow.form A oM;rw [M] at A;have aD:wr.cell? ⟨aF,g,none⟩=some (.int .i64 (a:Int)):=(World.ownsRow.cellAt U g oM).trans (by rw [zAf,z];rfl);have ae:wr.cell? ⟨gp,1,none⟩=some (.slice (some ⟨N,0,none⟩) b.length al):=(e.blk.cell 1).trans (by rw [M];rfl);have aX:=e.blk.lt;have b0:=n.size;have ai:a∈c.drop g:=(by rw [zAx y,List.getElem_eq_getElem?_get];simp [z]);have aG:(aB b a,aI b a)=(aB f a,aI f a):=T a ai;injection aG with hCr hCp;have aQ:=fun (d:Nat) (j:Value.ownBlock l=some d)=>(World.ownsRow.lt e.lrow d j).2;obtain ⟨ad,a0⟩:=eqx b.length;rw [a0] at A ae a2;have aS:=n.bk aO (fun j=>aK _ j rfl);have aZ:(a:Int) < (ad:Int):=oM;obtain ⟨Z,X,ac,ab,W,aq,L,av,aa⟩:=hqq9 e n A z S T a0 a4 M;obtain ⟨a9,ap,au⟩:=hqq3 hCr hCp a3;clear e n A z S T a0 a4 M hCr hCp a3 ai U aQ;go_wp2_with fail;refine (aE8 r N ad al O o a b wr ac.out (by rw [L.out];exact a2) aS (by rw [a9.out];exact (ao.out a au.out).1)).mono ?_;rintro j w1 ⟨rfl,aj,q⟩
    have ag:PermAt w1 r gp v l I J H R P c (b.set a (inR (aB b a) o,aI b a)) E u:=by
        have e:=Z.out;have C:∀d a8 t,a8≠170->Bk wr d a8 t->d≠N:=fun d a8 t aN m j=>by subst j;obtain ⟨aT,aH⟩:=fI ac.out;exact aN (aM m aH).1
        refine ⟨q.bk e.blk (C _ _ _ dC e.blk),?_,aA e.orow fun d t _ m=>q.bk m (C _ _ _ dC m),q.bk e.ar (C _ _ _ dC e.ar),aA e.trow fun d t _ m=>q.bk m (C _ _ _ dC m),aA e.frow fun d t _ m=>q.bk m (C _ _ _ dC m),e.apart,fun i k=>by rw [zAt];exact e.lt i k,e.lo⟩;rw [zAt,L.out,aa.out,L.out];exact aj
    have ah:Keep (fun d=>l.ownBlock=some d) w w1:=X.out.trans (q.mono fun d _ j=>by rw [aa.out,show d=N from j];rfl)
    have a1:∀i,(aB (b.set a (inR (aB b a) o,aI b a)) i,aI (b.set a (inR (aB b a) o,aI b a)) i)=if i=a then (inR (aB b a) o,aI b a) else (aB b i,aI b i):=fun i=>by
        unfold aB aI;rw [zAb,zBm];by_cases p:a=i;subst p;rw [zBx rfl,zBx rfl,zBx (by rw [L.out];exact a2)];rfl
        · rw [zBw p,zBw (fun j=>p j.symm),zAb]
    have hrel:∃(V:Nat) (s:List (Nat×Nat)),V<=D/\Value.int .i64 ((g+1:Nat):Int)=.int .i64 (V:Int)/\s.length=f.length/\(∀a,a∈c.take V->(aB s a,aI s a)=(inR (aB f a) o,aI f a))/\(∀a,a∈c.drop V->(aB s a,aI s a)=(aB f a,aI f a))/\PermAt w1 r gp v l I J H R P c s E u/\Keep (fun d=>l.ownBlock=some d) w w1:=by
        refine ⟨g+1,_,by omega,rfl,by rw [zAt];exact av.out,fun i k=>?_,fun i k=>?_,ag,ah⟩
        · rw [a1];by_cases p:i=a
          · subst p;rw [zBx rfl,a9.out,ap.out]
          rw [zBw p];refine W.out i ?_;rw [zAv,ab.out] at k;simp at k;rcases k with k | k;exact k;exact absurd k p
        · rw [a1];have aP:i≠a:=fun j=>by subst j;have aJ:c.drop g=i::c.drop (g+1):=(by have y:g < c.length:=(by rw [Y.out];exact ak);rw [zAx y];have Q:=ab.out;rw [zAa y] at Q;injection Q with Q;rw [Q]);have B:=(List.drop_sublist g c).nodup aw.out;rw [aJ,List.nodup_cons] at B;exact B.1 k
          rw [zBw aP];exact aq.out i (List.mem_of_mem_drop (by rw [<-List.drop_drop] at k;exact k:i∈(c.drop g).drop 1))
    have ax:=lhd hrel;clear ag ah a1 hrel q aj ae aD;go_wp2_with fail;go_roundw
    case rel=>exact ax.out
    case measure=>simp [intOf];omega
  · obtain rfl:g=D:=oM;obtain ⟨Z,X,W⟩:=hqq3 e n S;clear e n S T;go_wp2_with fail;go_end0;refine ⟨rfl,X.out,b,a4,fun a n=>W.out a ?_,Z.out⟩;rw [zAg (by rw [Y.out];exact zAs _)];exact n
theorem aAf (r gp v O o:Nat) (l I J H:Value) (R P:Nat) (c:List Nat) (f:List (Nat×Nat)) (E:List Bool) (u:List Nat) (w:World) (x:PermAt w r gp v l I J H R P c f E u) (B:c.Nodup) (aL:c.length<=1000000) (aO:Bk w O 3 #[(o:Int)]) (aK:∀d,l.ownBlock=some d->d≠O) (af:∀a,a∈c->aB f a<=1000000000000/\aI f a<=1000000000000):
 Calls prog 118 #[gp,.func (.func 120) #[] #[O]] w fun j w'=>j=.returned (.tuple #[])/\Keep (fun d=>l.ownBlock=some d) w w'/\∃K,K.length=f.length/\(∀a,a∈c->(aB K a,aI K a)=(aB f a,inR (aI f a) o))/\PermAt w' r gp v l I J H R P c K E u:=by
 obtain ⟨am,az,a6,_,_⟩:=aR x.orow;have aC:w.cell? ⟨gp,2,none⟩=some (.slice am c.length az):=(x.blk.cell 2).trans (by rw [a6];rfl);have aW:=x.blk.lt;obtain ⟨D,a5⟩:=eqx c.length;rw [a5] at aC aL;obtain ⟨an,Y,ay,aw,ao⟩:=hqq5 x a5 a6 B af;clear x a5 a6 B af;go_enter func118,ntmps118;go_wp2_with fail;go_loopw [11] (fun a7 wr=>∃(g:Nat) (b:List (Nat×Nat)),g<=D/\a7=.int .i64 (g:Int)/\b.length=f.length/\(∀a,a∈c.take g->(aB b a,aI b a)=(aB f a,inR (aI f a) o))/\(∀a,a∈c.drop g->(aB b a,aI b a)=(aB f a,aI f a))/\PermAt wr r gp v l I J H R P c b E u/\Keep (fun d=>l.ownBlock=some d) w wr) (fun a7 _=>D -(intOf a7).toNat)
 case atStart=>exact ⟨0,f,zAp _,rfl,rfl,fun a n=>by simp at n,fun a _=>rfl,an.out,Keep.refl _ _⟩
 case round=>
  obtain ⟨g,b,aY,rfl,a4,S,T,e,n⟩:=hrel;by_cases ak:g < D
  · have y:g < c.length:=(by rw [Y.out];exact ak);obtain ⟨a,z⟩:∃a,c[g]?=some a:=⟨_,zAa y⟩;have a3:=zAd z;have a2:a < b.length:=e.lt a a3;have U:=e.orow;rw [ay.out] at U;obtain ⟨aF,b1,aE,_,aV⟩:=World.ownsRow.form U oM;injection aE with e2a _ e2c;subst e2a e2c;have A:=e.lrow;obtain ⟨N,al,M,_,aU⟩:=World.ownsRow.form A oM;rw [M] at A;have aD:wr.cell? ⟨aF,g,none⟩=some (.int .i64 (a:Int)):=(World.ownsRow.cellAt U g oM).trans (by rw [zAf,z];rfl);have ae:wr.cell? ⟨gp,1,none⟩=some (.slice (some ⟨N,0,none⟩) b.length al):=(e.blk.cell 1).trans (by rw [M];rfl);have aX:=e.blk.lt;have b0:=n.size;have ai:a∈c.drop g:=(by rw [zAx y,List.getElem_eq_getElem?_get];simp [z]);have aG:(aB b a,aI b a)=(aB f a,aI f a):=T a ai;injection aG with hCr hCp;have aQ:=fun (d:Nat) (j:Value.ownBlock l=some d)=>(World.ownsRow.lt e.lrow d j).2;obtain ⟨ad,a0⟩:=eqx b.length;rw [a0] at A ae a2;have aS:=n.bk aO (fun j=>aK _ j rfl);have aZ:(a:Int) < (ad:Int):=oM;obtain ⟨Z,X,ac,ab,W,aq,L,av,aa⟩:=hqq9 e n A z S T a0 a4 M;obtain ⟨ap,a9,au⟩:=hqq3 hCr hCp a3;clear e n A z S T a0 a4 M hCr hCp a3 ai U aQ;go_wp2_with fail;refine (aFe r N ad al O o a b wr ac.out (by rw [L.out];exact a2) aS (by rw [a9.out];exact (ao.out a au.out).2)).mono ?_;rintro j w1 ⟨rfl,aj,q⟩
    have ag:PermAt w1 r gp v l I J H R P c (b.set a (aB b a,inR (aI b a) o)) E u:=by
        have e:=Z.out;have C:∀d a8 t,a8≠170->Bk wr d a8 t->d≠N:=fun d a8 t aN m j=>by subst j;obtain ⟨aT,aH⟩:=fI ac.out;exact aN (aM m aH).1
        refine ⟨q.bk e.blk (C _ _ _ dC e.blk),?_,aA e.orow fun d t _ m=>q.bk m (C _ _ _ dC m),q.bk e.ar (C _ _ _ dC e.ar),aA e.trow fun d t _ m=>q.bk m (C _ _ _ dC m),aA e.frow fun d t _ m=>q.bk m (C _ _ _ dC m),e.apart,fun i k=>by rw [zAt];exact e.lt i k,e.lo⟩;rw [zAt,L.out,aa.out,L.out];exact aj
    have ah:Keep (fun d=>l.ownBlock=some d) w w1:=X.out.trans (q.mono fun d _ j=>by rw [aa.out,show d=N from j];rfl)
    have a1:∀i,(aB (b.set a (aB b a,inR (aI b a) o)) i,aI (b.set a (aB b a,inR (aI b a) o)) i)=if i=a then (aB b a,inR (aI b a) o) else (aB b i,aI b i):=fun i=>by
        unfold aB aI;rw [zAb,zBm];by_cases p:a=i;subst p;rw [zBx rfl,zBx rfl,zBx (by rw [L.out];exact a2)];rfl
        · rw [zBw p,zBw (fun j=>p j.symm),zAb]
    have hrel:∃(V:Nat) (s:List (Nat×Nat)),V<=D/\Value.int .i64 ((g+1:Nat):Int)=.int .i64 (V:Int)/\s.length=f.length/\(∀a,a∈c.take V->(aB s a,aI s a)=(aB f a,inR (aI f a) o))/\(∀a,a∈c.drop V->(aB s a,aI s a)=(aB f a,aI f a))/\PermAt w1 r gp v l I J H R P c s E u/\Keep (fun d=>l.ownBlock=some d) w w1:=by
        refine ⟨g+1,_,by omega,rfl,by rw [zAt];exact av.out,fun i k=>?_,fun i k=>?_,ag,ah⟩
        · rw [a1];by_cases p:i=a
          · subst p;rw [zBx rfl,ap.out,a9.out]
          rw [zBw p];refine W.out i ?_;rw [zAv,ab.out] at k;simp at k;rcases k with k | k;exact k;exact absurd k p
        · rw [a1];have aP:i≠a:=fun j=>by subst j;have aJ:c.drop g=i::c.drop (g+1):=(by have y:g < c.length:=(by rw [Y.out];exact ak);rw [zAx y];have Q:=ab.out;rw [zAa y] at Q;injection Q with Q;rw [Q]);have B:=(List.drop_sublist g c).nodup aw.out;rw [aJ,List.nodup_cons] at B;exact B.1 k
          rw [zBw aP];exact aq.out i (List.mem_of_mem_drop (by rw [<-List.drop_drop] at k;exact k:i∈(c.drop g).drop 1))
    have ax:=lhd hrel;clear ag ah a1 hrel q aj ae aD;go_wp2_with fail;go_roundw
    case rel=>exact ax.out
    case measure=>simp [intOf];omega
  · obtain rfl:g=D:=oM;obtain ⟨Z,X,W⟩:=hqq3 e n S;clear e n S T;go_wp2_with fail;go_end0;refine ⟨rfl,X.out,b,a4,fun a n=>W.out a ?_,Z.out⟩;rw [zAg (by rw [Y.out];exact zAs _)];exact n
structure PermX (w:World) (F:Nat->Prop) (gp ga:Nat) (vl vo vt vf:Value) (R P:Nat) (ks:List Nat) (C:List (Nat×Nat)) (tk:List Bool) (fr:List Nat):Prop where
 at_:PermAt w 0 gp ga vl vo vt vf R P ks C tk fr
 fp:F gp
 fa:F ga
 fl:OwnF F vl
 fo:OwnF F vo
 ft:OwnF F vt
 ff:OwnF F vf
 nd:ks.Nodup
 tkl:tk.length=C.length
 tkk:∀k,tk[k]?=some true↔k∈ks
 frn:fr.Nodup
 frk:∀k,k∈fr↔tk[k]?=some false
 sz:C.length<=1000
def PermE (w:World) (F:Nat->Prop) (gp R P:Nat) (pr:List (Nat×Nat)):Prop:=
 (∃i l m n k c a j g,PermX w F gp i l m n k R P c a j g/\pr=c.map fun b=>(aB a b,aI a b))/\pr.Pairwise (fun e f=>e.1 < f.1)/\∀d∈pr,d.1 < R/\d.2 < P
theorem PermAt.vis2 {w w':World} {c gp f:Nat} {k l m j:Value} {R P:Nat} {g:List Nat} {d:List (Nat×Nat)} {i:List Bool} {e:List Nat} (a:PermAt w c gp f k l m j R P g d i e) (b:Vis w w'):PermAt w' c gp f k l m j R P g d i e:=
 ⟨b.bk a.blk dC dC,b.own a.lrow dC dC,b.own a.orow dC dC,b.bk a.ar dC dC,b.own a.trow dC dC,b.own a.frow dC dC,a.apart,a.lt,a.lo⟩
section
variable {w w' : World} {F G : Nat -> Prop} {gp R P : Nat} {pr : List (Nat × Nat)}
theorem PermE.vis (f:PermE w F gp R P pr) (j:Vis w w'):PermE w' F gp R P pr:=by
 obtain ⟨⟨e,n,o,p,m,k,b,l,d,a,c⟩,g,i⟩:=f;exact ⟨⟨e,n,o,p,m,k,b,l,d,⟨a.at_.vis2 j,a.fp,a.fa,a.fl,a.fo,a.ft,a.ff,a.nd,a.tkl,a.tkk,a.frn,a.frk,a.sz⟩,c⟩,g,i⟩
theorem PermE.mono (k:PermE w F gp R P pr) (e:∀a,a < w.heap.size->F a->G a):PermE w G gp R P pr:=by
 obtain ⟨⟨j,q,r,s,p,n,f,o,i,b,g⟩,l,m⟩:=k;have d:=b.at_;exact ⟨⟨j,q,r,s,p,n,f,o,i,⟨d,e _ d.blk.lt b.fp,e _ d.ar.lt b.fa,fun a c=>e a (d.lrow.lt a c).2 (b.fl a c),fun a c=>e a (d.orow.lt a c).2 (b.fo a c),fun a c=>e a (d.trow.lt a c).2 (b.ft a c),fun a c=>e a (d.frow.lt a c).2 (b.ff a c),b.nd,b.tkl,b.tkk,b.frn,b.frk,b.sz⟩,g⟩,l,m⟩
theorem PermE.keep (n:PermE w F gp R P pr) (g:Keep G w w') (f:∀b,F b->¬G b):PermE w' F gp R P pr:=by
 obtain ⟨⟨m,t,u,v,s,q,j,r,l,a,k⟩,o,p⟩:=n;have c:=a.at_;refine ⟨⟨m,t,u,v,s,q,j,r,l,⟨⟨g.bk c.blk (f _ a.fp),aA c.lrow fun b i d e=>g.bk e (f _ (a.fl b d)),aA c.orow fun b i d e=>g.bk e (f _ (a.fo b d)),g.bk c.ar (f _ a.fa),aA c.trow fun b i d e=>g.bk e (f _ (a.ft b d)),aA c.frow fun b i d e=>g.bk e (f _ (a.ff b d)),c.apart,c.lt,c.lo⟩,a.fp,a.fa,a.fl,a.fo,a.ft,a.ff,a.nd,a.tkl,a.tkk,a.frn,a.frk,a.sz⟩,k⟩,o,p⟩
theorem PermE.below (b:PermE w F gp R P pr) (c:Below w.heap.size w w'):PermE w' F gp R P pr:=b.keep (G:=fun _=>False) (Keep.of_below c) fun _ _ a=>a
end
theorem PermAt.set_rows {w:World} {g gp k:Nat} {o q r n:Value} {R P:Nat} {l:List Nat} {i:List (Nat×Nat)} {m:List Bool} {j:List Nat} (a:PermAt w g gp k o q r n R P l i m j) (e:Nat):PermAt (w.setCell ⟨gp,3,none⟩ (.int .i64 (e:Int))) g gp k o q r n e P l i m j:=by
 have d:Keep (fun c=>c=gp) w (w.setCell ⟨gp,3,none⟩ (.int .i64 (e:Int))):=Keep.setCell (F:=fun c=>c=gp) (Keep.refl _ _) (p:=⟨gp,3,none⟩) (.inl rfl) _;exact ⟨a.blk.set 3 _,aA a.lrow fun c f _ b=>d.bk b (Bk.ne b a.blk dC),aA a.orow fun c f _ b=>d.bk b (Bk.ne b a.blk dC),d.bk a.ar (Bk.ne a.ar a.blk dC),aA a.trow fun c f _ b=>d.bk b (Bk.ne b a.blk dC),aA a.frow fun c f _ b=>d.bk b (Bk.ne b a.blk dC),a.apart,a.lt,a.lo⟩
theorem PermAt.set_places {w:World} {g gp k:Nat} {o q r n:Value} {R P:Nat} {l:List Nat} {i:List (Nat×Nat)} {m:List Bool} {j:List Nat} (a:PermAt w g gp k o q r n R P l i m j) (e:Nat):PermAt (w.setCell ⟨gp,4,none⟩ (.int .i64 (e:Int))) g gp k o q r n R e l i m j:=by
 have d:Keep (fun c=>c=gp) w (w.setCell ⟨gp,4,none⟩ (.int .i64 (e:Int))):=Keep.setCell (F:=fun c=>c=gp) (Keep.refl _ _) (p:=⟨gp,4,none⟩) (.inl rfl) _;exact ⟨a.blk.set 4 _,aA a.lrow fun c f _ b=>d.bk b (Bk.ne b a.blk dC),aA a.orow fun c f _ b=>d.bk b (Bk.ne b a.blk dC),d.bk a.ar (Bk.ne a.ar a.blk dC),aA a.trow fun c f _ b=>d.bk b (Bk.ne b a.blk dC),aA a.frow fun c f _ b=>d.bk b (Bk.ne b a.blk dC),a.apart,a.lt,a.lo⟩
theorem aBd {d:List Nat} {b c:List (Nat×Nat)} {f:Nat×Nat->Nat×Nat} (e:∀a,a∈d->(aB c a,aI c a)=f (aB b a,aI b a)):(d.map fun a=>(aB c a,aI c a))=(d.map fun a=>(aB b a,aI b a)).map f:=by
 rw [zCh];exact List.map_congr_left fun a g=>e a g
theorem aKG {a b c:Nat} (d:a < b):inR a c < inR b c:=by
 unfold inR;split <;> split <;> omega
theorem gQ:∀ {n:Nat} {a:List Nat},a.Nodup->(∀b∈a,b < n)->a.length<=n
 | 0,a,_,hl=>by
   cases a with
   | nil=>exact zAs _
   | cons b a=>exact absurd (hl b (by simp)) oM
 | n+1,a,h,hl=>by
   have d:=gQ (n:=n) (h.erase n) fun b f=>by have e:=(h.mem_erase_iff).1 f;have:=hl b e.2;omega
   by_cases c:n∈a;have:=List.length_erase_of_mem c;omega;rw [List.erase_of_not_mem c] at d;omega
theorem zV (F:Nat->Prop) (gp R P b:Nat) (pr:List (Nat×Nat)) (w:World) (a2:PermE w F gp R P pr) (aj:b<=R) (ag:R<=100000) (af:P<=100000):
 Calls prog 59 #[gp,(b:Int)] w fun i w'=>i=.returned (.int .i64 0)/\PermE w' F gp (R+1) P (pr.map fun e=>(inR e.1 b,e.2))/\Keep F w w':=by
 obtain ⟨⟨r,o,x,y,v,k,d,u,q,j,rfl⟩,T,L⟩:=a2;have n:=j.at_;have a1:w.cell? ⟨gp,3,none⟩=some (.int .i64 (R:Int)):=(n.blk.cell 3).trans rfl;have aa:=n.blk.frozen 3;have a4:=n.blk.lt;have am:¬((b:Int) > (R:Int)):=oM;have al:¬R < b:=oM;have ak:decide ((b:Int) < 0)=false:=by simp
 have a9:wrap64 ((R:Int)+1)=((R+1:Nat):Int):=by rw [dK oM oM];rfl
 obtain ⟨a,a0,z⟩:=hqq3 j T L;clear j n T L;go_enter func59,ntmps59;go_wp2_with fail;go_quiet (fail)
 rename_i nq
 have a7:∀V,((w.alloc (.cells #[(b:Int)] 3)).drewN V).cell? ⟨gp,3,none⟩=some (.int .i64 (R:Int)):=fun V=>(World.cell?_alloc_lt w _ ⟨gp,3,none⟩ a4).trans a1;have ai:∀(B:Fn) (first A:Array Value) (w:World),(Instr.makeFunc B first A).run prog w=.ok (.func B first A) w:=fun _ _ _ _=>rfl;go_wp2_with fail;have K:=a.out.at_.below (bR.alloc nL (.cells #[(b:Int)] 3));have H:PermAt ((w.alloc (.cells #[(b:Int)] 3)).drewN nq) 0 gp r o x y v R P k d u q:=K.below (below_drewN bR _);have I:=H.set_rows (R+1);have N:Bk ((w.alloc (.cells #[(b:Int)] 3)).drewN nq) w.heap.size 3 #[(b:Int)]:=Bk.new w _ _;have O:=N.far (p:=⟨gp,3,none⟩) (fun i=>by have a8:w.heap.size=gp:=i;omega) (.int .i64 ((R+1:Nat):Int));have U:∀g,o.ownBlock=some g->g≠w.heap.size:=fun g s i=>by have:=(a.out.at_.lrow.lt g s).2;omega
 have D:∀c,c∈k->aB d c<=1000000000000/\aI d c<=1000000000000:=fun c a5=>by have:=z.out (aB d c,aI d c) (zAy.2 ⟨c,a5,rfl⟩);have ab:aB d c < R:=this.1;have ac:aI d c < P:=this.2;omega
 have ah:=gQ a.out.nd a.out.at_.lt;refine (aAe 0 gp r w.heap.size b o x y v (R+1) P k d u q _ I a.out.nd (by have:=a.out.sz;omega) O U D).mono ?_;rintro i W ⟨rfl,Q,X,t,M,J⟩;have S:Keep F w W:=(Keep.setCell (F:=F) (((Keep.refl _ _).alloc _).drewN _) (p:=⟨gp,3,none⟩) (.inl a.out.fp) _).trans (Q.mono fun g _ s=>a.out.fl g s);have E:PermE W F gp (R+1) P ((k.map fun c=>(aB d c,aI d c)).map fun e=>(inR e.1 b,e.2)):=by
  refine ⟨⟨r,o,x,y,v,k,X,u,q,⟨J,a.out.fp,a.out.fa,a.out.fl,a.out.fo,a.out.ft,a.out.ff,a.out.nd,by rw [t];exact a.out.tkl,a.out.tkk,a.out.frn,a.out.frk,by rw [t];exact a.out.sz⟩,(aBd (f:=fun e=>(inR e.1 b,e.2)) M).symm⟩,?_,fun e j=>?_⟩;exact List.pairwise_map.2 (a0.out.imp fun {m g} a3=>aKG a3)
  · obtain ⟨l,a6,rfl⟩:=zAy.1 j;have:=z.out l a6;have C:∀m,inR m b<=m+1:=fun m=>by unfold inR;split <;> omega
    have ae:=C l.1;have ad:=C l.2;constructor;show inR l.1 b < _;omega;show l.2 < _;omega
 obtain ⟨Y,Z⟩:=hqq2 E S;clear S E J M Q t D U O N I H K;go_wp2_with fail;go_ret;exact ⟨rfl,Y.out,Z.out⟩
theorem zX (F:Nat->Prop) (gp R P b:Nat) (pr:List (Nat×Nat)) (w:World) (a2:PermE w F gp R P pr) (aj:b<=P) (ag:R<=100000) (af:P<=100000):
 Calls prog 60 #[gp,(b:Int)] w fun i w'=>i=.returned (.int .i64 0)/\PermE w' F gp R (P+1) (pr.map fun e=>(e.1,inR e.2 b))/\Keep F w w':=by
 obtain ⟨⟨r,o,x,y,v,k,d,u,q,j,rfl⟩,T,L⟩:=a2;have n:=j.at_;have a1:w.cell? ⟨gp,4,none⟩=some (.int .i64 (P:Int)):=(n.blk.cell 4).trans rfl;have aa:=n.blk.frozen 4;have a4:=n.blk.lt;have am:¬((b:Int) > (P:Int)):=oM;have al:¬P < b:=oM;have ak:decide ((b:Int) < 0)=false:=by simp
 have a9:wrap64 ((P:Int)+1)=((P+1:Nat):Int):=by rw [dK oM oM];rfl
 obtain ⟨a,a0,z⟩:=hqq3 j T L;clear j n T L;go_enter func60,ntmps60;go_wp2_with fail;go_quiet (fail)
 rename_i nq
 have a7:∀V,((w.alloc (.cells #[(b:Int)] 3)).drewN V).cell? ⟨gp,4,none⟩=some (.int .i64 (P:Int)):=fun V=>(World.cell?_alloc_lt w _ ⟨gp,4,none⟩ a4).trans a1;have ai:∀(B:Fn) (first A:Array Value) (w:World),(Instr.makeFunc B first A).run prog w=.ok (.func B first A) w:=fun _ _ _ _=>rfl;go_wp2_with fail;have K:=a.out.at_.below (bR.alloc nL (.cells #[(b:Int)] 3));have H:PermAt ((w.alloc (.cells #[(b:Int)] 3)).drewN nq) 0 gp r o x y v R P k d u q:=K.below (below_drewN bR _);have I:=H.set_places (P+1);have N:Bk ((w.alloc (.cells #[(b:Int)] 3)).drewN nq) w.heap.size 3 #[(b:Int)]:=Bk.new w _ _;have O:=N.far (p:=⟨gp,4,none⟩) (fun i=>by have a8:w.heap.size=gp:=i;omega) (.int .i64 ((P+1:Nat):Int));have U:∀g,o.ownBlock=some g->g≠w.heap.size:=fun g s i=>by have:=(a.out.at_.lrow.lt g s).2;omega
 have D:∀c,c∈k->aB d c<=1000000000000/\aI d c<=1000000000000:=fun c a5=>by have:=z.out (aB d c,aI d c) (zAy.2 ⟨c,a5,rfl⟩);have ab:aB d c < R:=this.1;have ac:aI d c < P:=this.2;omega
 have ah:=gQ a.out.nd a.out.at_.lt;refine (aAf 0 gp r w.heap.size b o x y v R (P+1) k d u q _ I a.out.nd (by have:=a.out.sz;omega) O U D).mono ?_;rintro i W ⟨rfl,Q,X,t,M,J⟩;have S:Keep F w W:=(Keep.setCell (F:=F) (((Keep.refl _ _).alloc _).drewN _) (p:=⟨gp,4,none⟩) (.inl a.out.fp) _).trans (Q.mono fun g _ s=>a.out.fl g s);have E:PermE W F gp R (P+1) ((k.map fun c=>(aB d c,aI d c)).map fun e=>(e.1,inR e.2 b)):=by
  refine ⟨⟨r,o,x,y,v,k,X,u,q,⟨J,a.out.fp,a.out.fa,a.out.fl,a.out.fo,a.out.ft,a.out.ff,a.out.nd,by rw [t];exact a.out.tkl,a.out.tkk,a.out.frn,a.out.frk,by rw [t];exact a.out.sz⟩,(aBd (f:=fun e=>(e.1,inR e.2 b)) M).symm⟩,?_,fun e j=>?_⟩;exact List.pairwise_map.2 (a0.out.imp fun {m g} a3=>a3)
  · obtain ⟨l,a6,rfl⟩:=zAy.1 j;have:=z.out l a6;have C:∀m,inR m b<=m+1:=fun m=>by unfold inR;split <;> omega
    have ae:=C l.1;have ad:=C l.2;constructor;show l.1 < _;omega;show inR l.2 b < _;omega
 obtain ⟨Y,Z⟩:=hqq2 E S;clear S E J M Q t D U O N I H K;go_wp2_with fail;go_ret;exact ⟨rfl,Y.out,Z.out⟩
end Go.Proofs.YthldmddkfbijhaaGreatDoor
